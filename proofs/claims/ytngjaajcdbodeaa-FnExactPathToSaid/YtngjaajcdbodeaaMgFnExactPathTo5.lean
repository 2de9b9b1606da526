/- The texts on which the row FnExactPathTo rests, part 5: contracts of the functions that it reaches and plain laws of what they compute. No condition. -/
import Derived.Test.YtngjaajcdbodeaaMgFnExactPathTo1
import Derived.Test.YtngjaajcdbodeaaMgFnExactPathTo2
import Derived.Test.YtngjaajcdbodeaaMgFnExactPathTo3
import Derived.Test.YtngjaajcdbodeaaMgFnExactPathTo4
namespace Go.Proofs.Ytngjaajcdbodeaa.All
open Go.RowKit Go.Proofs.YtngjaajcdbodeaaW.PrintWords Go.Proofs.YtngjaajcdbodeaaW.PrintLast Go.Proofs.YtngjaajcdbodeaaW.PrintMore
attribute [local go_sem] max2_int min2_int max_two min_two max_three min_three max_four min_four   -- for this text's walks alone
set_option linter.unusedVariables false
set_option linter.unusedSimpArgs false

/-! ### impl_NodeOk: function 90 -/
mutual
def impl_NodeOk.j0 : Nat → Bool → Bool → List (S103) → Option (Bool)
  | 0, _, _, _ => none
  | k + 1, x19, x613000, x613001 => if x19 = true then (some false) else (impl_NodeOk.l0 k x613001 (x613001.length : Int) 0 x613000 x613001)
def impl_NodeOk.l0 : Nat → List (S103) → Int → Int → Bool → List (S103) → Option (Bool)
  | 0, _, _, _, _, _ => none
  | k + 1, x21, x22, x23, x613000, x613001 => if x23 < x22 then (if 0 ≤ x23 then (if x23 < (x21.length : Int) then (if x613000 = true then ((impl_in.f ((rd_T103 x21 x23).f0) 1 999).bind fun t615 => (if t615 = true then ((impl_BoxOk.f ((rd_T103 x21 x23).f1.f0) ((rd_T103 x21 x23).f1.f1) ((rd_T103 x21 x23).f1.f2) ((rd_T103 x21 x23).f1.f3)).bind fun t616 => (if t616 = true then ((impl_EntryAt.f k x613001 ((rd_T103 x21 x23).f0)).bind fun t617 => (if t617 = x23 then (impl_NodeOk.l0 k x21 x22 (wrap64 (x23 + 1)) x613000 x613001) else (some false))) else (some false))) else (some false))) else ((impl_in.f ((rd_T103 x21 x23).f0) 0 47).bind fun t618 => (if t618 = true then ((impl_BoxOk.f ((rd_T103 x21 x23).f1.f0) ((rd_T103 x21 x23).f1.f1) ((rd_T103 x21 x23).f1.f2) ((rd_T103 x21 x23).f1.f3)).bind fun t619 => (if t619 = true then ((impl_EntryAt.f k x613001 ((rd_T103 x21 x23).f0)).bind fun t620 => (if t620 = x23 then (impl_NodeOk.l0 k x21 x22 (wrap64 (x23 + 1)) x613000 x613001) else (some false))) else (some false))) else (some false)))) else (none)) else (none)) else (some true)
end
def impl_NodeOk.f (k : Nat) (a0_0 : Bool) (l0_1 : List (S103)) : Option (Bool) := if (l0_1.length : Int) > 4 then (impl_NodeOk.j0 k true a0_0 l0_1) else (if a0_0 = true then (impl_NodeOk.j0 k false a0_0 l0_1) else (impl_NodeOk.j0 k ((l0_1.length : Int) == 0) a0_0 l0_1))
theorem impl_NodeOk.mono_l : ∀ k, (∀ y0 y1 y2, LeO (impl_NodeOk.j0 k y0 y1 y2) (impl_NodeOk.j0 (k + 1) y0 y1 y2)) ∧ (∀ y0 y1 y2 y3 y4, LeO (impl_NodeOk.l0 k y0 y1 y2 y3 y4) (impl_NodeOk.l0 (k + 1) y0 y1 y2 y3 y4))
  | 0 => ⟨fun _ _ _ r h => by simp [impl_NodeOk.j0] at h, fun _ _ _ _ _ r h => by simp [impl_NodeOk.l0] at h⟩
  | k + 1 => by
    obtain ⟨ih0, ih1⟩ := impl_NodeOk.mono_l k
    refine ⟨?_, ?_⟩
    · intro y0 y1 y2
      unfold impl_NodeOk.j0
      repeat' first
      | (with_reducible exact ih0 _ _ _)
      | (with_reducible exact ih1 _ _ _ _ _)
      | (with_reducible exact impl_EntryAt.mono _ _ _)
      | (with_reducible exact LeO.refl _)
      | (with_reducible exact LeO.none _)
      | (with_reducible refine LeO.ite ?_ ?_)
      | (with_reducible refine LeO.bind ?_ (fun _ => ?_))
      | exact ih0 _ _ _
      | exact ih1 _ _ _ _ _
      | exact impl_EntryAt.mono _ _ _
      | exact LeO.none _
      | refine LeO.ite ?_ ?_
      | refine LeO.bind ?_ (fun _ => ?_)
    · intro y0 y1 y2 y3 y4
      unfold impl_NodeOk.l0
      repeat' first
      | (with_reducible exact ih0 _ _ _)
      | (with_reducible exact ih1 _ _ _ _ _)
      | (with_reducible exact impl_EntryAt.mono _ _ _)
      | (with_reducible exact LeO.refl _)
      | (with_reducible exact LeO.none _)
      | (with_reducible refine LeO.ite ?_ ?_)
      | (with_reducible refine LeO.bind ?_ (fun _ => ?_))
      | exact ih0 _ _ _
      | exact ih1 _ _ _ _ _
      | exact impl_EntryAt.mono _ _ _
      | exact LeO.none _
      | refine LeO.ite ?_ ?_
      | refine LeO.bind ?_ (fun _ => ?_)
theorem impl_NodeOk.mono : ∀ a0 a1 k, LeO (impl_NodeOk.f k a0 a1) (impl_NodeOk.f (k + 1) a0 a1) := by
  intro a0 a1 k
  obtain ⟨ih0, ih1⟩ := impl_NodeOk.mono_l k
  unfold impl_NodeOk.f
  repeat' first
      | (with_reducible exact ih0 _ _ _)
      | (with_reducible exact ih1 _ _ _ _ _)
      | (with_reducible exact impl_EntryAt.mono _ _ _)
      | (with_reducible exact LeO.refl _)
      | (with_reducible exact LeO.none _)
      | (with_reducible refine LeO.ite ?_ ?_)
      | (with_reducible refine LeO.bind ?_ (fun _ => ?_))
      | exact ih0 _ _ _
      | exact ih1 _ _ _ _ _
      | exact impl_EntryAt.mono _ _ _
      | exact LeO.none _
      | refine LeO.ite ?_ ?_
      | refine LeO.bind ?_ (fun _ => ?_)
set_option maxHeartbeats 8000000 in
set_option maxRecDepth 100000 in
theorem impl_NodeOk.calls (k : Nat) (a0_0 : Bool) (A0_1 : Option Addr) (c0_1 : Nat) (l0_1 : List (S103)) (r : Bool) (w : World) (hr0_1 : Kd.C k103 w A0_1 l0_1.length l0_1) (hc0_1 : l0_1.length ≤ c0_1) (h : impl_NodeOk.f k a0_0 l0_1 = some r) :
    Calls Try.prog 90 #[.agg #[.bool a0_0, .slice A0_1 l0_1.length c0_1]] w fun e w' => e = .returned (.bool r) ∧ Below w.heap.size w w' := by
  have hu54 := Try.underlying54
  have hu103 := Try.underlying103
  have hu32 := Try.underlying32
  have HR0_1 := Aside0.mk hr0_1
  have HC0_1 := Aside0.mk hc0_1
  clear hr0_1 hc0_1
  have HB := Aside0.mk (Below.refl w.heap.size w)
  have H : (if (l0_1.length : Int) > 4 then (impl_NodeOk.j0 k true a0_0 l0_1) else (if a0_0 = true then (impl_NodeOk.j0 k false a0_0 l0_1) else (impl_NodeOk.j0 k ((l0_1.length : Int) == 0) a0_0 l0_1))) = some r := h
  clear h
  have HC2 := Aside0.mk H
  clear H
  go_enter Try.func90, Try.ntmps90
  go_upto_region 1 with (first | ((with_reducible refine gate_dst (N := 1) rfl ?_); (try (refine gate_guard (by rfl) ?_; dsimp only)); refine box_event ?hg (N := 1) ?hd (cs := #[.bool a0_0, .slice A0_1 l0_1.length c0_1]) (t := 54) ?hr ?_; (case hd => rfl); (case hg => rfl); (case hr => first | (go_simp; done) | (go_simp; rfl)); intro gb612 hg w3 hbox hb; have n0_ := Aside0.mk (below_step (by repeat (first | (with_reducible first | exact HB.out | apply below_alloc | apply pw_below_drewN | apply below_drew1) | exact HB.out)) hb); have n1_ := Aside0.mk (hbox); have n2_ := Aside0.mk ((by rw [hg]; exact (below_size (by repeat (first | (with_reducible first | exact HB.out | apply below_alloc | apply pw_below_drewN | apply below_drew1) | exact HB.out))) : w.heap.size ≤ gb612)); have n3_ := Aside0.mk ((by rw [hg]; exact (below_size (by repeat (first | (with_reducible first | exact HB.out | apply below_alloc | apply pw_below_drewN | apply below_drew1) | exact HB.out))) : w.heap.size ≤ gb612)); clear HB; have HB := n0_; have BK612 := n1_; have GW612 := n2_; have GE612 := n3_; clear n0_ n1_ n2_ n3_; clear hb hbox hg))
  (try simp only [Act.put, List.setIfInBounds_toArray, List.set_cons_zero, List.set_cons_succ])
  go_cut [19] (fun v19 wc => ∃ (kq : Nat) (x19_1 : Bool), v19 = .bool x19_1 ∧ Aside0 (impl_NodeOk.j0 kq x19_1 a0_0 l0_1 = some r) ∧ Aside0 (kq ≤ k) ∧ Aside0 (wc.heap[gb612]? = some (.cells #[.bool a0_0, (.slice A0_1 l0_1.length c0_1)] 54 (0, 0))) ∧ Aside0 (Below w.heap.size w wc))
  case first =>
    have H := HC2.out
    clear HC2
    by_cases c4 : (l0_1.length : Int) > 4
    · rw [if_pos c4] at H
      have c4b0 : decide (4 < (l0_1.length : Int)) = true := decide_eq_true c4
      have c4b1 : decide (4 < l0_1.length) = true := decide_eq_true (by omega)
      clear c4
      (first | rw [c4b0] | (simp only [i64_w, i32_w]; rw [c4b0]) | skip)
      have H' := Aside0.mk H
      clear H
      have hcz5_0 : w3.cell? ⟨gb612, 0, none⟩ = some (.bool a0_0) := (blk_cell BK612.out 0).trans rfl
      have hcz5_1 : w3.cell? ⟨gb612, 1, none⟩ = some (.slice A0_1 l0_1.length c0_1) := (blk_cell BK612.out 1).trans rfl
      have hfz5_0 := blk_frozen BK612.out 0
      have hfz5_1 := blk_frozen BK612.out 1
      go_wp2
      go_meet
      case rel => exact ⟨_, (true), (by first | rfl | (simp; done) | (simp [*]; done)), H', ⟨by first | omega | exact Nat.le_refl _⟩, ⟨by (with_reducible repeat (first | refine blk_drewN ?_ _ | refine blk_drew ?_ | refine blk_alloc ?_ _)); exact BK612.out⟩, ⟨by repeat (first | (with_reducible first | exact HB.out | apply below_alloc | apply pw_below_drewN | apply below_drew1 | refine below_set ?_ GE612.out) | exact HB.out)⟩⟩
    · rw [if_neg c4] at H
      have c4b0 : decide (4 < (l0_1.length : Int)) = false := decide_eq_false c4
      have c4b1 : decide (4 < l0_1.length) = false := decide_eq_false (by omega)
      clear c4
      (first | rw [c4b0] | (simp only [i64_w, i32_w]; rw [c4b0]) | skip)
      by_cases c6 : a0_0 = true
      · subst c6
        have H1 : (impl_NodeOk.j0 k false true l0_1) = some r := by rw [if_pos rfl] at H; exact H
        clear H
        have H := H1
        clear H1
        have H' := Aside0.mk H
        clear H
        have hcz7_0 : w3.cell? ⟨gb612, 0, none⟩ = some (.bool true) := (blk_cell BK612.out 0).trans rfl
        have hcz7_1 : w3.cell? ⟨gb612, 1, none⟩ = some (.slice A0_1 l0_1.length c0_1) := (blk_cell BK612.out 1).trans rfl
        have hfz7_0 := blk_frozen BK612.out 0
        have hfz7_1 := blk_frozen BK612.out 1
        go_wp2
        go_meet
        case rel => exact ⟨_, (false), (by first | rfl | (simp; done) | (simp [*]; done)), H', ⟨by first | omega | exact Nat.le_refl _⟩, ⟨by (with_reducible repeat (first | refine blk_drewN ?_ _ | refine blk_drew ?_ | refine blk_alloc ?_ _)); exact BK612.out⟩, ⟨by repeat (first | (with_reducible first | exact HB.out | apply below_alloc | apply pw_below_drewN | apply below_drew1 | refine below_set ?_ GE612.out) | exact HB.out)⟩⟩
      · replace c6 := Bool.eq_false_iff.mpr c6
        subst c6
        have H1 : (impl_NodeOk.j0 k ((l0_1.length : Int) == 0) false l0_1) = some r := by rw [if_neg (show ¬ (false = true) by decide)] at H; exact H
        clear H
        have H := H1
        clear H1
        have H' := Aside0.mk H
        clear H
        have hcz8_0 : w3.cell? ⟨gb612, 0, none⟩ = some (.bool false) := (blk_cell BK612.out 0).trans rfl
        have hcz8_1 : w3.cell? ⟨gb612, 1, none⟩ = some (.slice A0_1 l0_1.length c0_1) := (blk_cell BK612.out 1).trans rfl
        have hfz8_0 := blk_frozen BK612.out 0
        have hfz8_1 := blk_frozen BK612.out 1
        go_wp2
        go_meet
        case rel => exact ⟨_, (((l0_1.length : Int) == 0)), (by first | rfl | (simp; done) | (simp [*]; done)), H', ⟨by first | omega | exact Nat.le_refl _⟩, ⟨by (with_reducible repeat (first | refine blk_drewN ?_ _ | refine blk_drew ?_ | refine blk_alloc ?_ _)); exact BK612.out⟩, ⟨by repeat (first | (with_reducible first | exact HB.out | apply below_alloc | apply pw_below_drewN | apply below_drew1 | refine below_set ?_ GE612.out) | exact HB.out)⟩⟩
  case rest =>
    clear HC2
    try clear p2
    try clear c4
    try clear c4b0
    try clear c4b1
    try clear c6
    try clear hcz5_0
    try clear hcz5_1
    try clear hcz7_0
    try clear hcz7_1
    try clear hcz8_0
    try clear hcz8_1
    try clear hfz5_0
    try clear hfz5_1
    try clear hfz7_0
    try clear hfz7_1
    try clear hfz8_0
    try clear hfz8_1
    obtain ⟨kq, x19_1, rfl, HA, HJ1, BK612, HB⟩ := hcut
    cases kq with
    | zero => exact absurd HA.out (by simp [impl_NodeOk.j0])
    | succ kj1 =>
      have H := HA.out
      clear HA
      simp only [impl_NodeOk.j0] at H
      by_cases c9 : x19_1 = true
      · subst c9
        have H1 : (some false) = some r := by rw [if_pos rfl] at H; exact H
        clear H
        have H := H1
        clear H1
        obtain rfl := Option.some.inj H
        go_wp2
        go_ret
        exact ⟨by first | rfl | (simp [errW_none, errW_some] <;> rfl) | (simp [*, errW_none, errW_some] <;> rfl), by repeat (first | (with_reducible first | exact HB.out | apply below_alloc | apply pw_below_drewN | apply below_drew1 | refine below_set ?_ GE612.out) | exact HB.out)⟩
      · replace c9 := Bool.eq_false_iff.mpr c9
        subst c9
        have H1 : (impl_NodeOk.l0 kj1 l0_1 (l0_1.length : Int) 0 a0_0 l0_1) = some r := by rw [if_neg (show ¬ (false = true) by decide)] at H; exact H
        clear H
        have H := H1
        clear H1
        have H' := Aside0.mk H
        clear H
        have hcz10_0 : wc.cell? ⟨gb612, 0, none⟩ = some (.bool a0_0) := (blk_cell BK612.out 0).trans rfl
        have hcz10_1 : wc.cell? ⟨gb612, 1, none⟩ = some (.slice A0_1 l0_1.length c0_1) := (blk_cell BK612.out 1).trans rfl
        have hfz10_0 := blk_frozen BK612.out 0
        have hfz10_1 := blk_frozen BK612.out 1
        go_wp2
        go_loopg [23] kj1 (fun kq v23 w' => ∃ (x23_2 : Int), v23 = .int .i64 x23_2 ∧ Aside0 (impl_NodeOk.l0 kq l0_1 (l0_1.length : Int) x23_2 a0_0 l0_1 = some r) ∧ Aside0 (kq ≤ kj1) ∧ Aside0 (w'.heap[gb612]? = some (.cells #[.bool a0_0, (.slice A0_1 l0_1.length c0_1)] 54 (0, 0))) ∧ Aside0 (Below w.heap.size w w'))
        case atStart => exact ⟨(0), (by first | rfl | (simp; done) | (simp [*]; done)), H', ⟨Nat.le_refl _⟩, ⟨by (with_reducible repeat (first | refine blk_drewN ?_ _ | refine blk_drew ?_ | refine blk_alloc ?_ _)); exact BK612.out⟩, ⟨by repeat (first | (with_reducible first | exact HB.out | apply below_alloc | apply pw_below_drewN | apply below_drew1 | refine below_set ?_ GE612.out) | exact HB.out)⟩⟩
        case round =>
          clear H'
          try clear p2
          try clear c4
          try clear c4b0
          try clear c4b1
          try clear c6
          try clear c9
          try clear hcz10_0
          try clear hcz10_1
          try clear hcz5_0
          try clear hcz5_1
          try clear hcz7_0
          try clear hcz7_1
          try clear hcz8_0
          try clear hcz8_1
          try clear hfz10_0
          try clear hfz10_1
          try clear hfz5_0
          try clear hfz5_1
          try clear hfz7_0
          try clear hfz7_1
          try clear hfz8_0
          try clear hfz8_1
          try clear p2
          obtain ⟨x23_2, rfl, HA, HK2, BK612, HB⟩ := hrel
          cases gk with
          | zero => exact absurd HA.out (by simp [impl_NodeOk.l0])
          | succ k2 =>
            have H := HA.out
            clear HA
            simp only [impl_NodeOk.l0] at H
            by_cases c11 : x23_2 < (l0_1.length : Int)
            · rw [if_pos c11] at H
              have c11b0 : decide (x23_2 < (l0_1.length : Int)) = true := decide_eq_true c11
              clear c11
              by_cases c12 : 0 ≤ x23_2
              · rw [if_pos c12] at H
                have c12b0 : decide (0 ≤ x23_2) = true := decide_eq_true c12
                clear c12
                by_cases c13 : x23_2 < (l0_1.length : Int)
                · rw [if_pos c13] at H
                  have c13b0 : decide (x23_2 < (l0_1.length : Int)) = true := decide_eq_true c13
                  clear c13
                  by_cases c14 : a0_0 = true
                  · subst c14
                    have H1 : ((impl_in.f ((rd_T103 l0_1 x23_2).f0) 1 999).bind fun t615 => (if t615 = true then ((impl_BoxOk.f ((rd_T103 l0_1 x23_2).f1.f0) ((rd_T103 l0_1 x23_2).f1.f1) ((rd_T103 l0_1 x23_2).f1.f2) ((rd_T103 l0_1 x23_2).f1.f3)).bind fun t616 => (if t616 = true then ((impl_EntryAt.f k2 l0_1 ((rd_T103 l0_1 x23_2).f0)).bind fun t617 => (if t617 = x23_2 then (impl_NodeOk.l0 k2 l0_1 (l0_1.length : Int) (wrap64 (x23_2 + 1)) true l0_1) else (some false))) else (some false))) else (some false))) = some r := by rw [if_pos rfl] at H; exact H
                    clear H
                    have H := H1
                    clear H1
                    replace H := Option.bind_eq_some_iff.mp H
                    obtain ⟨t615, A150, H⟩ := H
                    replace H : (if t615 = true then ((impl_BoxOk.f ((rd_T103 l0_1 x23_2).f1.f0) ((rd_T103 l0_1 x23_2).f1.f1) ((rd_T103 l0_1 x23_2).f1.f2) ((rd_T103 l0_1 x23_2).f1.f3)).bind fun t616 => (if t616 = true then ((impl_EntryAt.f k2 l0_1 ((rd_T103 l0_1 x23_2).f0)).bind fun t617 => (if t617 = x23_2 then (impl_NodeOk.l0 k2 l0_1 (l0_1.length : Int) (wrap64 (x23_2 + 1)) true l0_1) else (some false))) else (some false))) else (some false)) = some r := H
                    have A15 := Aside0.mk A150
                    clear A150
                    by_cases c16 : t615 = true
                    · subst c16
                      have H1 : ((impl_BoxOk.f ((rd_T103 l0_1 x23_2).f1.f0) ((rd_T103 l0_1 x23_2).f1.f1) ((rd_T103 l0_1 x23_2).f1.f2) ((rd_T103 l0_1 x23_2).f1.f3)).bind fun t616 => (if t616 = true then ((impl_EntryAt.f k2 l0_1 ((rd_T103 l0_1 x23_2).f0)).bind fun t617 => (if t617 = x23_2 then (impl_NodeOk.l0 k2 l0_1 (l0_1.length : Int) (wrap64 (x23_2 + 1)) true l0_1) else (some false))) else (some false))) = some r := by rw [if_pos rfl] at H; exact H
                      clear H
                      have H := H1
                      clear H1
                      replace H := Option.bind_eq_some_iff.mp H
                      obtain ⟨t616, A170, H⟩ := H
                      replace H : (if t616 = true then ((impl_EntryAt.f k2 l0_1 ((rd_T103 l0_1 x23_2).f0)).bind fun t617 => (if t617 = x23_2 then (impl_NodeOk.l0 k2 l0_1 (l0_1.length : Int) (wrap64 (x23_2 + 1)) true l0_1) else (some false))) else (some false)) = some r := H
                      have A17 := Aside0.mk A170
                      clear A170
                      by_cases c18 : t616 = true
                      · subst c18
                        have H1 : ((impl_EntryAt.f k2 l0_1 ((rd_T103 l0_1 x23_2).f0)).bind fun t617 => (if t617 = x23_2 then (impl_NodeOk.l0 k2 l0_1 (l0_1.length : Int) (wrap64 (x23_2 + 1)) true l0_1) else (some false))) = some r := by rw [if_pos rfl] at H; exact H
                        clear H
                        have H := H1
                        clear H1
                        replace H := Option.bind_eq_some_iff.mp H
                        obtain ⟨t617, A190, H⟩ := H
                        replace H : (if t617 = x23_2 then (impl_NodeOk.l0 k2 l0_1 (l0_1.length : Int) (wrap64 (x23_2 + 1)) true l0_1) else (some false)) = some r := H
                        have A19 := Aside0.mk A190
                        clear A190
                        by_cases c20 : t617 = x23_2
                        · rw [if_pos c20] at H
                          have c20b0 : (t617 == x23_2) = true := beq_iff_eq.mpr c20
                          have c20b1 : (t617 != x23_2) = false := bne_eq_false_iff_eq.mpr c20
                          clear c20
                          have H' := Aside0.mk H
                          clear H
                          have p613 : 0 ≤ (x23_2 : Int) := of_decide_eq_true (by first | (with_reducible assumption) | assumption)
                          have q613 : x23_2 < (l0_1.length : Int) := of_decide_eq_true (by first | (with_reducible assumption) | assumption)
                          obtain ⟨ad613, e613, hx613_0, hx613_1, hx613_2, hx613_3, hx613_4⟩ := at_T103 HR0_1.out x23_2 p613 q613
                          cases e613
                          replace hx613_0 := (HB.out.cell (World.block_lt_of_cell? w _ hx613_0)).trans hx613_0
                          replace hx613_1 := (HB.out.cell (World.block_lt_of_cell? w _ hx613_1)).trans hx613_1
                          replace hx613_2 := (HB.out.cell (World.block_lt_of_cell? w _ hx613_2)).trans hx613_2
                          replace hx613_3 := (HB.out.cell (World.block_lt_of_cell? w _ hx613_3)).trans hx613_3
                          replace hx613_4 := (HB.out.cell (World.block_lt_of_cell? w _ hx613_4)).trans hx613_4
                          replace p613 := eq_true p613
                          replace q613 := eq_true q613
                          go_wp2_with (first | ((with_reducible refine gate_dst (N := 4) rfl ?_); (try (refine gate_guard (by rfl) ?_; dsimp only)); refine box_event ?hg (N := 4) ?hd (cs := #[.int .i64 0, .int .i64 0, .int .i64 0, .int .i64 0, .int .i64 0]) (t := 103) ?hr ?_; (case hd => rfl); (case hg => rfl); (case hr => first | (go_simp; done) | (go_simp; rfl)); intro gb614 hg w21 hbox hb; have n0_ := Aside0.mk (blk_below (g := gb612) (o := .cells #[.bool true, .slice (some ad613) l0_1.length c0_1] 54 (0, 0)) (by (with_reducible repeat (first | refine blk_drewN ?_ _ | refine blk_drew ?_ | refine blk_alloc ?_ _)); exact BK612.out) hb); have n1_ := Aside0.mk (below_step (by repeat (first | (with_reducible first | exact HB.out | apply below_alloc | apply pw_below_drewN | apply below_drew1 | refine below_set ?_ GE612.out) | exact HB.out)) hb); have n2_ := Aside0.mk (hbox); have n3_ := Aside0.mk ((by rw [hg]; exact (below_size (by repeat (first | (with_reducible first | exact HB.out | apply below_alloc | apply pw_below_drewN | apply below_drew1 | refine below_set ?_ GE612.out) | exact HB.out))) : w.heap.size ≤ gb614)); have n4_ := Aside0.mk ((by rw [hg]; exact (below_size (by repeat (first | (with_reducible first | exact HB.out | apply below_alloc | apply pw_below_drewN | apply below_drew1 | refine below_set ?_ GE612.out) | exact HB.out))) : w.heap.size ≤ gb614)); have n5_ := Aside0.mk ((by rw [hg]; exact Nat.ne_of_lt (blk_lt (g := gb612) (o := .cells #[.bool true, .slice (some ad613) l0_1.length c0_1] 54 (0, 0)) (by (with_reducible repeat (first | refine blk_drewN ?_ _ | refine blk_drew ?_ | refine blk_alloc ?_ _)); exact BK612.out)) : gb612 ≠ gb614)); have n6_ := Aside0.mk ((by rw [hg]; exact Nat.ne_of_gt (blk_lt (g := gb612) (o := .cells #[.bool true, .slice (some ad613) l0_1.length c0_1] 54 (0, 0)) (by (with_reducible repeat (first | refine blk_drewN ?_ _ | refine blk_drew ?_ | refine blk_alloc ?_ _)); exact BK612.out)) : gb614 ≠ gb612)); clear BK612; clear HB; have BK612 := n0_; have HB := n1_; have BK614 := n2_; have GW614 := n3_; have GE614 := n4_; have NB612_614 := n5_; have NB614_612 := n6_; clear n0_ n1_ n2_ n3_ n4_ n5_ n6_; clear hb hbox hg; have hnb22 := NB614_612.out; have hnc22 := NB612_614.out; have hcz23_0 : w21.cell? ⟨gb614, 0, none⟩ = some (.int .i64 0) := (blk_cell BK614.out 0).trans rfl; have hcz23_1 : w21.cell? ⟨gb614, 1, none⟩ = some (.int .i64 0) := (blk_cell BK614.out 1).trans rfl; have hcz23_2 : w21.cell? ⟨gb614, 2, none⟩ = some (.int .i64 0) := (blk_cell BK614.out 2).trans rfl; have hcz23_3 : w21.cell? ⟨gb614, 3, none⟩ = some (.int .i64 0) := (blk_cell BK614.out 3).trans rfl; have hcz23_4 : w21.cell? ⟨gb614, 4, none⟩ = some (.int .i64 0) := (blk_cell BK614.out 4).trans rfl; have hfz23_0 := blk_frozen BK614.out 0; have hfz23_1 := blk_frozen BK614.out 1; have hfz23_2 := blk_frozen BK614.out 2; have hfz23_3 := blk_frozen BK614.out 3; have hfz23_4 := blk_frozen BK614.out 4; have hcz24_0 : w21.cell? ⟨gb612, 0, none⟩ = some (.bool true) := (blk_cell BK612.out 0).trans rfl; have hcz24_1 : w21.cell? ⟨gb612, 1, none⟩ = some (.slice (some ad613) l0_1.length c0_1) := (blk_cell BK612.out 1).trans rfl; have hfz24_0 := blk_frozen BK612.out 0; have hfz24_1 := blk_frozen BK612.out 1) | (go_at_call 88; (with_reducible refine (impl_in.calls ((rd_T103 l0_1 x23_2).f0) 1 999 true _ A15.out).mono ?_); rintro e w' ⟨rfl, ⟨nd, rfl⟩⟩) | (go_at_call 112; (with_reducible refine (impl_BoxOk.calls ((rd_T103 l0_1 x23_2).f1.f0) ((rd_T103 l0_1 x23_2).f1.f1) ((rd_T103 l0_1 x23_2).f1.f2) ((rd_T103 l0_1 x23_2).f1.f3) true _ A17.out).mono ?_); rintro e w25 ⟨rfl, hb⟩; have n0_ := Aside0.mk (blk_below (g := gb612) (o := .cells #[.bool true, .slice (some ad613) l0_1.length c0_1] 54 (0, 0)) (by (with_reducible repeat (first | refine blk_drewN ?_ _ | refine blk_drew ?_ | refine blk_alloc ?_ _)); refine blk_far ?_ NB612_614.out _; (with_reducible repeat (first | refine blk_drewN ?_ _ | refine blk_drew ?_ | refine blk_alloc ?_ _)); refine blk_far ?_ NB612_614.out _; (with_reducible repeat (first | refine blk_drewN ?_ _ | refine blk_drew ?_ | refine blk_alloc ?_ _)); refine blk_far ?_ NB612_614.out _; (with_reducible repeat (first | refine blk_drewN ?_ _ | refine blk_drew ?_ | refine blk_alloc ?_ _)); refine blk_far ?_ NB612_614.out _; (with_reducible repeat (first | refine blk_drewN ?_ _ | refine blk_drew ?_ | refine blk_alloc ?_ _)); refine blk_far ?_ NB612_614.out _; (with_reducible repeat (first | refine blk_drewN ?_ _ | refine blk_drew ?_ | refine blk_alloc ?_ _)); exact BK612.out) hb); have n1_ := Aside0.mk (blk_below (g := gb614) (o := .cells #[.int .i64 ((rd_T103 l0_1 x23_2).f0), .int .i64 ((rd_T103 l0_1 x23_2).f1.f0), .int .i64 ((rd_T103 l0_1 x23_2).f1.f1), .int .i64 ((rd_T103 l0_1 x23_2).f1.f2), .int .i64 ((rd_T103 l0_1 x23_2).f1.f3)] 103 (0, 0)) (by (with_reducible repeat (first | refine blk_drewN ?_ _ | refine blk_drew ?_ | refine blk_alloc ?_ _)); refine blk_put (cs := #[.int .i64 ((rd_T103 l0_1 x23_2).f0), .int .i64 ((rd_T103 l0_1 x23_2).f1.f0), .int .i64 ((rd_T103 l0_1 x23_2).f1.f1), .int .i64 ((rd_T103 l0_1 x23_2).f1.f2), .int .i64 0]) ?_ 4 _ rfl; (with_reducible repeat (first | refine blk_drewN ?_ _ | refine blk_drew ?_ | refine blk_alloc ?_ _)); refine blk_put (cs := #[.int .i64 ((rd_T103 l0_1 x23_2).f0), .int .i64 ((rd_T103 l0_1 x23_2).f1.f0), .int .i64 ((rd_T103 l0_1 x23_2).f1.f1), .int .i64 0, .int .i64 0]) ?_ 3 _ rfl; (with_reducible repeat (first | refine blk_drewN ?_ _ | refine blk_drew ?_ | refine blk_alloc ?_ _)); refine blk_put (cs := #[.int .i64 ((rd_T103 l0_1 x23_2).f0), .int .i64 ((rd_T103 l0_1 x23_2).f1.f0), .int .i64 0, .int .i64 0, .int .i64 0]) ?_ 2 _ rfl; (with_reducible repeat (first | refine blk_drewN ?_ _ | refine blk_drew ?_ | refine blk_alloc ?_ _)); refine blk_put (cs := #[.int .i64 ((rd_T103 l0_1 x23_2).f0), .int .i64 0, .int .i64 0, .int .i64 0, .int .i64 0]) ?_ 1 _ rfl; (with_reducible repeat (first | refine blk_drewN ?_ _ | refine blk_drew ?_ | refine blk_alloc ?_ _)); refine blk_put (cs := #[.int .i64 0, .int .i64 0, .int .i64 0, .int .i64 0, .int .i64 0]) ?_ 0 _ rfl; (with_reducible repeat (first | refine blk_drewN ?_ _ | refine blk_drew ?_ | refine blk_alloc ?_ _)); exact BK614.out) hb); have n2_ := Aside0.mk (below_step (by repeat (first | (with_reducible first | exact HB.out | apply below_alloc | apply pw_below_drewN | apply below_drew1 | refine below_set ?_ GE612.out | refine below_set ?_ GE614.out) | exact HB.out)) hb); clear BK612; clear BK614; clear HB; have BK612 := n0_; have BK614 := n1_; have HB := n2_; clear n0_ n1_ n2_; (try clear hb); (try clear hb2); (try clear hk); (try clear hi); have hcz26_0 : w25.cell? ⟨gb612, 0, none⟩ = some (.bool true) := (blk_cell BK612.out 0).trans rfl; have hcz26_1 : w25.cell? ⟨gb612, 1, none⟩ = some (.slice (some ad613) l0_1.length c0_1) := (blk_cell BK612.out 1).trans rfl; have hfz26_0 := blk_frozen BK612.out 0; have hfz26_1 := blk_frozen BK612.out 1; have hcz27_0 : w25.cell? ⟨gb614, 0, none⟩ = some (.int .i64 ((rd_T103 l0_1 x23_2).f0)) := (blk_cell BK614.out 0).trans rfl; have hcz27_1 : w25.cell? ⟨gb614, 1, none⟩ = some (.int .i64 ((rd_T103 l0_1 x23_2).f1.f0)) := (blk_cell BK614.out 1).trans rfl; have hcz27_2 : w25.cell? ⟨gb614, 2, none⟩ = some (.int .i64 ((rd_T103 l0_1 x23_2).f1.f1)) := (blk_cell BK614.out 2).trans rfl; have hcz27_3 : w25.cell? ⟨gb614, 3, none⟩ = some (.int .i64 ((rd_T103 l0_1 x23_2).f1.f2)) := (blk_cell BK614.out 3).trans rfl; have hcz27_4 : w25.cell? ⟨gb614, 4, none⟩ = some (.int .i64 ((rd_T103 l0_1 x23_2).f1.f3)) := (blk_cell BK614.out 4).trans rfl; have hfz27_0 := blk_frozen BK614.out 0; have hfz27_1 := blk_frozen BK614.out 1; have hfz27_2 := blk_frozen BK614.out 2; have hfz27_3 := blk_frozen BK614.out 3; have hfz27_4 := blk_frozen BK614.out 4) | (go_at_call 103; (with_reducible refine (impl_EntryAt.calls k2 _ _ l0_1 ((rd_T103 l0_1 x23_2).f0) t617 _ ?side1 ?side2 A19.out).mono ?_); (case side1 => repeat (first | exact (Kd.C_below HR0_1.out HB.out) | (with_reducible refine Kd.C_alloc ?_ _) | (with_reducible refine Kd.C_drewN ?_ _) | (with_reducible refine Kd.C_drew ?_))); (case side2 => exact HC0_1.out); rintro e w28 ⟨rfl, hb⟩; have n0_ := Aside0.mk (blk_below (g := gb612) (o := .cells #[.bool true, .slice (some ad613) l0_1.length c0_1] 54 (0, 0)) (by (with_reducible repeat (first | refine blk_drewN ?_ _ | refine blk_drew ?_ | refine blk_alloc ?_ _)); exact BK612.out) hb); have n1_ := Aside0.mk (blk_below (g := gb614) (o := .cells #[.int .i64 ((rd_T103 l0_1 x23_2).f0), .int .i64 ((rd_T103 l0_1 x23_2).f1.f0), .int .i64 ((rd_T103 l0_1 x23_2).f1.f1), .int .i64 ((rd_T103 l0_1 x23_2).f1.f2), .int .i64 ((rd_T103 l0_1 x23_2).f1.f3)] 103 (0, 0)) (by (with_reducible repeat (first | refine blk_drewN ?_ _ | refine blk_drew ?_ | refine blk_alloc ?_ _)); exact BK614.out) hb); have n2_ := Aside0.mk (below_step (by repeat (first | (with_reducible first | exact HB.out | apply below_alloc | apply pw_below_drewN | apply below_drew1 | refine below_set ?_ GE612.out | refine below_set ?_ GE614.out) | exact HB.out)) hb); clear BK612; clear BK614; clear HB; have BK612 := n0_; have BK614 := n1_; have HB := n2_; clear n0_ n1_ n2_; (try clear hb); (try clear hb2); (try clear hk); (try clear hi)))
                          go_roundg k2
                          case measure => have := HJ1.out; have := HK2.out; omega
                          case rel => exact ⟨(wrap64 (x23_2 + 1)), (by first | rfl | (simp; done) | (simp [*]; done)), H', ⟨by have := HJ1.out; have := HK2.out; omega⟩, ⟨by (with_reducible repeat (first | refine blk_drewN ?_ _ | refine blk_drew ?_ | refine blk_alloc ?_ _)); exact BK612.out⟩, ⟨by repeat (first | (with_reducible first | exact HB.out | apply below_alloc | apply pw_below_drewN | apply below_drew1 | refine below_set ?_ GE612.out | refine below_set ?_ GE614.out) | exact HB.out)⟩⟩
                        · rw [if_neg c20] at H
                          have c20b0 : (t617 == x23_2) = false := beq_eq_false_iff_ne.mpr c20
                          have c20b1 : (t617 != x23_2) = true := bne_iff_ne.mpr c20
                          obtain rfl := Option.some.inj H
                          have p613 : 0 ≤ (x23_2 : Int) := of_decide_eq_true (by first | (with_reducible assumption) | assumption)
                          have q613 : x23_2 < (l0_1.length : Int) := of_decide_eq_true (by first | (with_reducible assumption) | assumption)
                          obtain ⟨ad613, e613, hx613_0, hx613_1, hx613_2, hx613_3, hx613_4⟩ := at_T103 HR0_1.out x23_2 p613 q613
                          cases e613
                          replace hx613_0 := (HB.out.cell (World.block_lt_of_cell? w _ hx613_0)).trans hx613_0
                          replace hx613_1 := (HB.out.cell (World.block_lt_of_cell? w _ hx613_1)).trans hx613_1
                          replace hx613_2 := (HB.out.cell (World.block_lt_of_cell? w _ hx613_2)).trans hx613_2
                          replace hx613_3 := (HB.out.cell (World.block_lt_of_cell? w _ hx613_3)).trans hx613_3
                          replace hx613_4 := (HB.out.cell (World.block_lt_of_cell? w _ hx613_4)).trans hx613_4
                          replace p613 := eq_true p613
                          replace q613 := eq_true q613
                          go_wp2_with (first | ((with_reducible refine gate_dst (N := 4) rfl ?_); (try (refine gate_guard (by rfl) ?_; dsimp only)); refine box_event ?hg (N := 4) ?hd (cs := #[.int .i64 0, .int .i64 0, .int .i64 0, .int .i64 0, .int .i64 0]) (t := 103) ?hr ?_; (case hd => rfl); (case hg => rfl); (case hr => first | (go_simp; done) | (go_simp; rfl)); intro gb614 hg w29 hbox hb; have n0_ := Aside0.mk (blk_below (g := gb612) (o := .cells #[.bool true, .slice (some ad613) l0_1.length c0_1] 54 (0, 0)) (by (with_reducible repeat (first | refine blk_drewN ?_ _ | refine blk_drew ?_ | refine blk_alloc ?_ _)); exact BK612.out) hb); have n1_ := Aside0.mk (below_step (by repeat (first | (with_reducible first | exact HB.out | apply below_alloc | apply pw_below_drewN | apply below_drew1 | refine below_set ?_ GE612.out) | exact HB.out)) hb); have n2_ := Aside0.mk (hbox); have n3_ := Aside0.mk ((by rw [hg]; exact (below_size (by repeat (first | (with_reducible first | exact HB.out | apply below_alloc | apply pw_below_drewN | apply below_drew1 | refine below_set ?_ GE612.out) | exact HB.out))) : w.heap.size ≤ gb614)); have n4_ := Aside0.mk ((by rw [hg]; exact (below_size (by repeat (first | (with_reducible first | exact HB.out | apply below_alloc | apply pw_below_drewN | apply below_drew1 | refine below_set ?_ GE612.out) | exact HB.out))) : w.heap.size ≤ gb614)); have n5_ := Aside0.mk ((by rw [hg]; exact Nat.ne_of_lt (blk_lt (g := gb612) (o := .cells #[.bool true, .slice (some ad613) l0_1.length c0_1] 54 (0, 0)) (by (with_reducible repeat (first | refine blk_drewN ?_ _ | refine blk_drew ?_ | refine blk_alloc ?_ _)); exact BK612.out)) : gb612 ≠ gb614)); have n6_ := Aside0.mk ((by rw [hg]; exact Nat.ne_of_gt (blk_lt (g := gb612) (o := .cells #[.bool true, .slice (some ad613) l0_1.length c0_1] 54 (0, 0)) (by (with_reducible repeat (first | refine blk_drewN ?_ _ | refine blk_drew ?_ | refine blk_alloc ?_ _)); exact BK612.out)) : gb614 ≠ gb612)); clear BK612; clear HB; have BK612 := n0_; have HB := n1_; have BK614 := n2_; have GW614 := n3_; have GE614 := n4_; have NB612_614 := n5_; have NB614_612 := n6_; clear n0_ n1_ n2_ n3_ n4_ n5_ n6_; clear hb hbox hg; have hnb30 := NB614_612.out; have hnc30 := NB612_614.out; have hcz31_0 : w29.cell? ⟨gb614, 0, none⟩ = some (.int .i64 0) := (blk_cell BK614.out 0).trans rfl; have hcz31_1 : w29.cell? ⟨gb614, 1, none⟩ = some (.int .i64 0) := (blk_cell BK614.out 1).trans rfl; have hcz31_2 : w29.cell? ⟨gb614, 2, none⟩ = some (.int .i64 0) := (blk_cell BK614.out 2).trans rfl; have hcz31_3 : w29.cell? ⟨gb614, 3, none⟩ = some (.int .i64 0) := (blk_cell BK614.out 3).trans rfl; have hcz31_4 : w29.cell? ⟨gb614, 4, none⟩ = some (.int .i64 0) := (blk_cell BK614.out 4).trans rfl; have hfz31_0 := blk_frozen BK614.out 0; have hfz31_1 := blk_frozen BK614.out 1; have hfz31_2 := blk_frozen BK614.out 2; have hfz31_3 := blk_frozen BK614.out 3; have hfz31_4 := blk_frozen BK614.out 4; have hcz32_0 : w29.cell? ⟨gb612, 0, none⟩ = some (.bool true) := (blk_cell BK612.out 0).trans rfl; have hcz32_1 : w29.cell? ⟨gb612, 1, none⟩ = some (.slice (some ad613) l0_1.length c0_1) := (blk_cell BK612.out 1).trans rfl; have hfz32_0 := blk_frozen BK612.out 0; have hfz32_1 := blk_frozen BK612.out 1) | (go_at_call 88; (with_reducible refine (impl_in.calls ((rd_T103 l0_1 x23_2).f0) 1 999 true _ A15.out).mono ?_); rintro e w' ⟨rfl, ⟨nd, rfl⟩⟩) | (go_at_call 112; (with_reducible refine (impl_BoxOk.calls ((rd_T103 l0_1 x23_2).f1.f0) ((rd_T103 l0_1 x23_2).f1.f1) ((rd_T103 l0_1 x23_2).f1.f2) ((rd_T103 l0_1 x23_2).f1.f3) true _ A17.out).mono ?_); rintro e w33 ⟨rfl, hb⟩; have n0_ := Aside0.mk (blk_below (g := gb612) (o := .cells #[.bool true, .slice (some ad613) l0_1.length c0_1] 54 (0, 0)) (by (with_reducible repeat (first | refine blk_drewN ?_ _ | refine blk_drew ?_ | refine blk_alloc ?_ _)); refine blk_far ?_ NB612_614.out _; (with_reducible repeat (first | refine blk_drewN ?_ _ | refine blk_drew ?_ | refine blk_alloc ?_ _)); refine blk_far ?_ NB612_614.out _; (with_reducible repeat (first | refine blk_drewN ?_ _ | refine blk_drew ?_ | refine blk_alloc ?_ _)); refine blk_far ?_ NB612_614.out _; (with_reducible repeat (first | refine blk_drewN ?_ _ | refine blk_drew ?_ | refine blk_alloc ?_ _)); refine blk_far ?_ NB612_614.out _; (with_reducible repeat (first | refine blk_drewN ?_ _ | refine blk_drew ?_ | refine blk_alloc ?_ _)); refine blk_far ?_ NB612_614.out _; (with_reducible repeat (first | refine blk_drewN ?_ _ | refine blk_drew ?_ | refine blk_alloc ?_ _)); exact BK612.out) hb); have n1_ := Aside0.mk (blk_below (g := gb614) (o := .cells #[.int .i64 ((rd_T103 l0_1 x23_2).f0), .int .i64 ((rd_T103 l0_1 x23_2).f1.f0), .int .i64 ((rd_T103 l0_1 x23_2).f1.f1), .int .i64 ((rd_T103 l0_1 x23_2).f1.f2), .int .i64 ((rd_T103 l0_1 x23_2).f1.f3)] 103 (0, 0)) (by (with_reducible repeat (first | refine blk_drewN ?_ _ | refine blk_drew ?_ | refine blk_alloc ?_ _)); refine blk_put (cs := #[.int .i64 ((rd_T103 l0_1 x23_2).f0), .int .i64 ((rd_T103 l0_1 x23_2).f1.f0), .int .i64 ((rd_T103 l0_1 x23_2).f1.f1), .int .i64 ((rd_T103 l0_1 x23_2).f1.f2), .int .i64 0]) ?_ 4 _ rfl; (with_reducible repeat (first | refine blk_drewN ?_ _ | refine blk_drew ?_ | refine blk_alloc ?_ _)); refine blk_put (cs := #[.int .i64 ((rd_T103 l0_1 x23_2).f0), .int .i64 ((rd_T103 l0_1 x23_2).f1.f0), .int .i64 ((rd_T103 l0_1 x23_2).f1.f1), .int .i64 0, .int .i64 0]) ?_ 3 _ rfl; (with_reducible repeat (first | refine blk_drewN ?_ _ | refine blk_drew ?_ | refine blk_alloc ?_ _)); refine blk_put (cs := #[.int .i64 ((rd_T103 l0_1 x23_2).f0), .int .i64 ((rd_T103 l0_1 x23_2).f1.f0), .int .i64 0, .int .i64 0, .int .i64 0]) ?_ 2 _ rfl; (with_reducible repeat (first | refine blk_drewN ?_ _ | refine blk_drew ?_ | refine blk_alloc ?_ _)); refine blk_put (cs := #[.int .i64 ((rd_T103 l0_1 x23_2).f0), .int .i64 0, .int .i64 0, .int .i64 0, .int .i64 0]) ?_ 1 _ rfl; (with_reducible repeat (first | refine blk_drewN ?_ _ | refine blk_drew ?_ | refine blk_alloc ?_ _)); refine blk_put (cs := #[.int .i64 0, .int .i64 0, .int .i64 0, .int .i64 0, .int .i64 0]) ?_ 0 _ rfl; (with_reducible repeat (first | refine blk_drewN ?_ _ | refine blk_drew ?_ | refine blk_alloc ?_ _)); exact BK614.out) hb); have n2_ := Aside0.mk (below_step (by repeat (first | (with_reducible first | exact HB.out | apply below_alloc | apply pw_below_drewN | apply below_drew1 | refine below_set ?_ GE612.out | refine below_set ?_ GE614.out) | exact HB.out)) hb); clear BK612; clear BK614; clear HB; have BK612 := n0_; have BK614 := n1_; have HB := n2_; clear n0_ n1_ n2_; (try clear hb); (try clear hb2); (try clear hk); (try clear hi); have hcz34_0 : w33.cell? ⟨gb612, 0, none⟩ = some (.bool true) := (blk_cell BK612.out 0).trans rfl; have hcz34_1 : w33.cell? ⟨gb612, 1, none⟩ = some (.slice (some ad613) l0_1.length c0_1) := (blk_cell BK612.out 1).trans rfl; have hfz34_0 := blk_frozen BK612.out 0; have hfz34_1 := blk_frozen BK612.out 1; have hcz35_0 : w33.cell? ⟨gb614, 0, none⟩ = some (.int .i64 ((rd_T103 l0_1 x23_2).f0)) := (blk_cell BK614.out 0).trans rfl; have hcz35_1 : w33.cell? ⟨gb614, 1, none⟩ = some (.int .i64 ((rd_T103 l0_1 x23_2).f1.f0)) := (blk_cell BK614.out 1).trans rfl; have hcz35_2 : w33.cell? ⟨gb614, 2, none⟩ = some (.int .i64 ((rd_T103 l0_1 x23_2).f1.f1)) := (blk_cell BK614.out 2).trans rfl; have hcz35_3 : w33.cell? ⟨gb614, 3, none⟩ = some (.int .i64 ((rd_T103 l0_1 x23_2).f1.f2)) := (blk_cell BK614.out 3).trans rfl; have hcz35_4 : w33.cell? ⟨gb614, 4, none⟩ = some (.int .i64 ((rd_T103 l0_1 x23_2).f1.f3)) := (blk_cell BK614.out 4).trans rfl; have hfz35_0 := blk_frozen BK614.out 0; have hfz35_1 := blk_frozen BK614.out 1; have hfz35_2 := blk_frozen BK614.out 2; have hfz35_3 := blk_frozen BK614.out 3; have hfz35_4 := blk_frozen BK614.out 4) | (go_at_call 103; (with_reducible refine (impl_EntryAt.calls k2 _ _ l0_1 ((rd_T103 l0_1 x23_2).f0) t617 _ ?side1 ?side2 A19.out).mono ?_); (case side1 => repeat (first | exact (Kd.C_below HR0_1.out HB.out) | (with_reducible refine Kd.C_alloc ?_ _) | (with_reducible refine Kd.C_drewN ?_ _) | (with_reducible refine Kd.C_drew ?_))); (case side2 => exact HC0_1.out); rintro e w36 ⟨rfl, hb⟩; have n0_ := Aside0.mk (blk_below (g := gb612) (o := .cells #[.bool true, .slice (some ad613) l0_1.length c0_1] 54 (0, 0)) (by (with_reducible repeat (first | refine blk_drewN ?_ _ | refine blk_drew ?_ | refine blk_alloc ?_ _)); exact BK612.out) hb); have n1_ := Aside0.mk (blk_below (g := gb614) (o := .cells #[.int .i64 ((rd_T103 l0_1 x23_2).f0), .int .i64 ((rd_T103 l0_1 x23_2).f1.f0), .int .i64 ((rd_T103 l0_1 x23_2).f1.f1), .int .i64 ((rd_T103 l0_1 x23_2).f1.f2), .int .i64 ((rd_T103 l0_1 x23_2).f1.f3)] 103 (0, 0)) (by (with_reducible repeat (first | refine blk_drewN ?_ _ | refine blk_drew ?_ | refine blk_alloc ?_ _)); exact BK614.out) hb); have n2_ := Aside0.mk (below_step (by repeat (first | (with_reducible first | exact HB.out | apply below_alloc | apply pw_below_drewN | apply below_drew1 | refine below_set ?_ GE612.out | refine below_set ?_ GE614.out) | exact HB.out)) hb); clear BK612; clear BK614; clear HB; have BK612 := n0_; have BK614 := n1_; have HB := n2_; clear n0_ n1_ n2_; (try clear hb); (try clear hb2); (try clear hk); (try clear hi)))
                          go_ret
                          exact ⟨by first | rfl | (simp [errW_none, errW_some] <;> rfl) | (simp [*, errW_none, errW_some] <;> rfl), by repeat (first | (with_reducible first | exact HB.out | apply below_alloc | apply pw_below_drewN | apply below_drew1 | refine below_set ?_ GE612.out | refine below_set ?_ GE614.out) | exact HB.out)⟩
                      · replace c18 := Bool.eq_false_iff.mpr c18
                        subst c18
                        have H1 : (some false) = some r := by rw [if_neg (show ¬ (false = true) by decide)] at H; exact H
                        clear H
                        have H := H1
                        clear H1
                        obtain rfl := Option.some.inj H
                        have p613 : 0 ≤ (x23_2 : Int) := of_decide_eq_true (by first | (with_reducible assumption) | assumption)
                        have q613 : x23_2 < (l0_1.length : Int) := of_decide_eq_true (by first | (with_reducible assumption) | assumption)
                        obtain ⟨ad613, e613, hx613_0, hx613_1, hx613_2, hx613_3, hx613_4⟩ := at_T103 HR0_1.out x23_2 p613 q613
                        cases e613
                        replace hx613_0 := (HB.out.cell (World.block_lt_of_cell? w _ hx613_0)).trans hx613_0
                        replace hx613_1 := (HB.out.cell (World.block_lt_of_cell? w _ hx613_1)).trans hx613_1
                        replace hx613_2 := (HB.out.cell (World.block_lt_of_cell? w _ hx613_2)).trans hx613_2
                        replace hx613_3 := (HB.out.cell (World.block_lt_of_cell? w _ hx613_3)).trans hx613_3
                        replace hx613_4 := (HB.out.cell (World.block_lt_of_cell? w _ hx613_4)).trans hx613_4
                        replace p613 := eq_true p613
                        replace q613 := eq_true q613
                        go_wp2_with (first | ((with_reducible refine gate_dst (N := 4) rfl ?_); (try (refine gate_guard (by rfl) ?_; dsimp only)); refine box_event ?hg (N := 4) ?hd (cs := #[.int .i64 0, .int .i64 0, .int .i64 0, .int .i64 0, .int .i64 0]) (t := 103) ?hr ?_; (case hd => rfl); (case hg => rfl); (case hr => first | (go_simp; done) | (go_simp; rfl)); intro gb614 hg w37 hbox hb; have n0_ := Aside0.mk (blk_below (g := gb612) (o := .cells #[.bool true, .slice (some ad613) l0_1.length c0_1] 54 (0, 0)) (by (with_reducible repeat (first | refine blk_drewN ?_ _ | refine blk_drew ?_ | refine blk_alloc ?_ _)); exact BK612.out) hb); have n1_ := Aside0.mk (below_step (by repeat (first | (with_reducible first | exact HB.out | apply below_alloc | apply pw_below_drewN | apply below_drew1 | refine below_set ?_ GE612.out) | exact HB.out)) hb); have n2_ := Aside0.mk (hbox); have n3_ := Aside0.mk ((by rw [hg]; exact (below_size (by repeat (first | (with_reducible first | exact HB.out | apply below_alloc | apply pw_below_drewN | apply below_drew1 | refine below_set ?_ GE612.out) | exact HB.out))) : w.heap.size ≤ gb614)); have n4_ := Aside0.mk ((by rw [hg]; exact (below_size (by repeat (first | (with_reducible first | exact HB.out | apply below_alloc | apply pw_below_drewN | apply below_drew1 | refine below_set ?_ GE612.out) | exact HB.out))) : w.heap.size ≤ gb614)); have n5_ := Aside0.mk ((by rw [hg]; exact Nat.ne_of_lt (blk_lt (g := gb612) (o := .cells #[.bool true, .slice (some ad613) l0_1.length c0_1] 54 (0, 0)) (by (with_reducible repeat (first | refine blk_drewN ?_ _ | refine blk_drew ?_ | refine blk_alloc ?_ _)); exact BK612.out)) : gb612 ≠ gb614)); have n6_ := Aside0.mk ((by rw [hg]; exact Nat.ne_of_gt (blk_lt (g := gb612) (o := .cells #[.bool true, .slice (some ad613) l0_1.length c0_1] 54 (0, 0)) (by (with_reducible repeat (first | refine blk_drewN ?_ _ | refine blk_drew ?_ | refine blk_alloc ?_ _)); exact BK612.out)) : gb614 ≠ gb612)); clear BK612; clear HB; have BK612 := n0_; have HB := n1_; have BK614 := n2_; have GW614 := n3_; have GE614 := n4_; have NB612_614 := n5_; have NB614_612 := n6_; clear n0_ n1_ n2_ n3_ n4_ n5_ n6_; clear hb hbox hg; have hnb38 := NB614_612.out; have hnc38 := NB612_614.out; have hcz39_0 : w37.cell? ⟨gb614, 0, none⟩ = some (.int .i64 0) := (blk_cell BK614.out 0).trans rfl; have hcz39_1 : w37.cell? ⟨gb614, 1, none⟩ = some (.int .i64 0) := (blk_cell BK614.out 1).trans rfl; have hcz39_2 : w37.cell? ⟨gb614, 2, none⟩ = some (.int .i64 0) := (blk_cell BK614.out 2).trans rfl; have hcz39_3 : w37.cell? ⟨gb614, 3, none⟩ = some (.int .i64 0) := (blk_cell BK614.out 3).trans rfl; have hcz39_4 : w37.cell? ⟨gb614, 4, none⟩ = some (.int .i64 0) := (blk_cell BK614.out 4).trans rfl; have hfz39_0 := blk_frozen BK614.out 0; have hfz39_1 := blk_frozen BK614.out 1; have hfz39_2 := blk_frozen BK614.out 2; have hfz39_3 := blk_frozen BK614.out 3; have hfz39_4 := blk_frozen BK614.out 4; have hcz40_0 : w37.cell? ⟨gb612, 0, none⟩ = some (.bool true) := (blk_cell BK612.out 0).trans rfl; have hcz40_1 : w37.cell? ⟨gb612, 1, none⟩ = some (.slice (some ad613) l0_1.length c0_1) := (blk_cell BK612.out 1).trans rfl; have hfz40_0 := blk_frozen BK612.out 0; have hfz40_1 := blk_frozen BK612.out 1) | (go_at_call 88; (with_reducible refine (impl_in.calls ((rd_T103 l0_1 x23_2).f0) 1 999 true _ A15.out).mono ?_); rintro e w' ⟨rfl, ⟨nd, rfl⟩⟩) | (go_at_call 112; (with_reducible refine (impl_BoxOk.calls ((rd_T103 l0_1 x23_2).f1.f0) ((rd_T103 l0_1 x23_2).f1.f1) ((rd_T103 l0_1 x23_2).f1.f2) ((rd_T103 l0_1 x23_2).f1.f3) false _ A17.out).mono ?_); rintro e w41 ⟨rfl, hb⟩; have n0_ := Aside0.mk (blk_below (g := gb612) (o := .cells #[.bool true, .slice (some ad613) l0_1.length c0_1] 54 (0, 0)) (by (with_reducible repeat (first | refine blk_drewN ?_ _ | refine blk_drew ?_ | refine blk_alloc ?_ _)); refine blk_far ?_ NB612_614.out _; (with_reducible repeat (first | refine blk_drewN ?_ _ | refine blk_drew ?_ | refine blk_alloc ?_ _)); refine blk_far ?_ NB612_614.out _; (with_reducible repeat (first | refine blk_drewN ?_ _ | refine blk_drew ?_ | refine blk_alloc ?_ _)); refine blk_far ?_ NB612_614.out _; (with_reducible repeat (first | refine blk_drewN ?_ _ | refine blk_drew ?_ | refine blk_alloc ?_ _)); refine blk_far ?_ NB612_614.out _; (with_reducible repeat (first | refine blk_drewN ?_ _ | refine blk_drew ?_ | refine blk_alloc ?_ _)); refine blk_far ?_ NB612_614.out _; (with_reducible repeat (first | refine blk_drewN ?_ _ | refine blk_drew ?_ | refine blk_alloc ?_ _)); exact BK612.out) hb); have n1_ := Aside0.mk (blk_below (g := gb614) (o := .cells #[.int .i64 ((rd_T103 l0_1 x23_2).f0), .int .i64 ((rd_T103 l0_1 x23_2).f1.f0), .int .i64 ((rd_T103 l0_1 x23_2).f1.f1), .int .i64 ((rd_T103 l0_1 x23_2).f1.f2), .int .i64 ((rd_T103 l0_1 x23_2).f1.f3)] 103 (0, 0)) (by (with_reducible repeat (first | refine blk_drewN ?_ _ | refine blk_drew ?_ | refine blk_alloc ?_ _)); refine blk_put (cs := #[.int .i64 ((rd_T103 l0_1 x23_2).f0), .int .i64 ((rd_T103 l0_1 x23_2).f1.f0), .int .i64 ((rd_T103 l0_1 x23_2).f1.f1), .int .i64 ((rd_T103 l0_1 x23_2).f1.f2), .int .i64 0]) ?_ 4 _ rfl; (with_reducible repeat (first | refine blk_drewN ?_ _ | refine blk_drew ?_ | refine blk_alloc ?_ _)); refine blk_put (cs := #[.int .i64 ((rd_T103 l0_1 x23_2).f0), .int .i64 ((rd_T103 l0_1 x23_2).f1.f0), .int .i64 ((rd_T103 l0_1 x23_2).f1.f1), .int .i64 0, .int .i64 0]) ?_ 3 _ rfl; (with_reducible repeat (first | refine blk_drewN ?_ _ | refine blk_drew ?_ | refine blk_alloc ?_ _)); refine blk_put (cs := #[.int .i64 ((rd_T103 l0_1 x23_2).f0), .int .i64 ((rd_T103 l0_1 x23_2).f1.f0), .int .i64 0, .int .i64 0, .int .i64 0]) ?_ 2 _ rfl; (with_reducible repeat (first | refine blk_drewN ?_ _ | refine blk_drew ?_ | refine blk_alloc ?_ _)); refine blk_put (cs := #[.int .i64 ((rd_T103 l0_1 x23_2).f0), .int .i64 0, .int .i64 0, .int .i64 0, .int .i64 0]) ?_ 1 _ rfl; (with_reducible repeat (first | refine blk_drewN ?_ _ | refine blk_drew ?_ | refine blk_alloc ?_ _)); refine blk_put (cs := #[.int .i64 0, .int .i64 0, .int .i64 0, .int .i64 0, .int .i64 0]) ?_ 0 _ rfl; (with_reducible repeat (first | refine blk_drewN ?_ _ | refine blk_drew ?_ | refine blk_alloc ?_ _)); exact BK614.out) hb); have n2_ := Aside0.mk (below_step (by repeat (first | (with_reducible first | exact HB.out | apply below_alloc | apply pw_below_drewN | apply below_drew1 | refine below_set ?_ GE612.out | refine below_set ?_ GE614.out) | exact HB.out)) hb); clear BK612; clear BK614; clear HB; have BK612 := n0_; have BK614 := n1_; have HB := n2_; clear n0_ n1_ n2_; (try clear hb); (try clear hb2); (try clear hk); (try clear hi)))
                        go_ret
                        exact ⟨by first | rfl | (simp [errW_none, errW_some] <;> rfl) | (simp [*, errW_none, errW_some] <;> rfl), by repeat (first | (with_reducible first | exact HB.out | apply below_alloc | apply pw_below_drewN | apply below_drew1 | refine below_set ?_ GE612.out | refine below_set ?_ GE614.out) | exact HB.out)⟩
                    · replace c16 := Bool.eq_false_iff.mpr c16
                      subst c16
                      have H1 : (some false) = some r := by rw [if_neg (show ¬ (false = true) by decide)] at H; exact H
                      clear H
                      have H := H1
                      clear H1
                      obtain rfl := Option.some.inj H
                      have p613 : 0 ≤ (x23_2 : Int) := of_decide_eq_true (by first | (with_reducible assumption) | assumption)
                      have q613 : x23_2 < (l0_1.length : Int) := of_decide_eq_true (by first | (with_reducible assumption) | assumption)
                      obtain ⟨ad613, e613, hx613_0, hx613_1, hx613_2, hx613_3, hx613_4⟩ := at_T103 HR0_1.out x23_2 p613 q613
                      cases e613
                      replace hx613_0 := (HB.out.cell (World.block_lt_of_cell? w _ hx613_0)).trans hx613_0
                      replace hx613_1 := (HB.out.cell (World.block_lt_of_cell? w _ hx613_1)).trans hx613_1
                      replace hx613_2 := (HB.out.cell (World.block_lt_of_cell? w _ hx613_2)).trans hx613_2
                      replace hx613_3 := (HB.out.cell (World.block_lt_of_cell? w _ hx613_3)).trans hx613_3
                      replace hx613_4 := (HB.out.cell (World.block_lt_of_cell? w _ hx613_4)).trans hx613_4
                      replace p613 := eq_true p613
                      replace q613 := eq_true q613
                      go_wp2_with (first | ((with_reducible refine gate_dst (N := 4) rfl ?_); (try (refine gate_guard (by rfl) ?_; dsimp only)); refine box_event ?hg (N := 4) ?hd (cs := #[.int .i64 0, .int .i64 0, .int .i64 0, .int .i64 0, .int .i64 0]) (t := 103) ?hr ?_; (case hd => rfl); (case hg => rfl); (case hr => first | (go_simp; done) | (go_simp; rfl)); intro gb614 hg w42 hbox hb; have n0_ := Aside0.mk (blk_below (g := gb612) (o := .cells #[.bool true, .slice (some ad613) l0_1.length c0_1] 54 (0, 0)) (by (with_reducible repeat (first | refine blk_drewN ?_ _ | refine blk_drew ?_ | refine blk_alloc ?_ _)); exact BK612.out) hb); have n1_ := Aside0.mk (below_step (by repeat (first | (with_reducible first | exact HB.out | apply below_alloc | apply pw_below_drewN | apply below_drew1 | refine below_set ?_ GE612.out) | exact HB.out)) hb); have n2_ := Aside0.mk (hbox); have n3_ := Aside0.mk ((by rw [hg]; exact (below_size (by repeat (first | (with_reducible first | exact HB.out | apply below_alloc | apply pw_below_drewN | apply below_drew1 | refine below_set ?_ GE612.out) | exact HB.out))) : w.heap.size ≤ gb614)); have n4_ := Aside0.mk ((by rw [hg]; exact (below_size (by repeat (first | (with_reducible first | exact HB.out | apply below_alloc | apply pw_below_drewN | apply below_drew1 | refine below_set ?_ GE612.out) | exact HB.out))) : w.heap.size ≤ gb614)); have n5_ := Aside0.mk ((by rw [hg]; exact Nat.ne_of_lt (blk_lt (g := gb612) (o := .cells #[.bool true, .slice (some ad613) l0_1.length c0_1] 54 (0, 0)) (by (with_reducible repeat (first | refine blk_drewN ?_ _ | refine blk_drew ?_ | refine blk_alloc ?_ _)); exact BK612.out)) : gb612 ≠ gb614)); have n6_ := Aside0.mk ((by rw [hg]; exact Nat.ne_of_gt (blk_lt (g := gb612) (o := .cells #[.bool true, .slice (some ad613) l0_1.length c0_1] 54 (0, 0)) (by (with_reducible repeat (first | refine blk_drewN ?_ _ | refine blk_drew ?_ | refine blk_alloc ?_ _)); exact BK612.out)) : gb614 ≠ gb612)); clear BK612; clear HB; have BK612 := n0_; have HB := n1_; have BK614 := n2_; have GW614 := n3_; have GE614 := n4_; have NB612_614 := n5_; have NB614_612 := n6_; clear n0_ n1_ n2_ n3_ n4_ n5_ n6_; clear hb hbox hg; have hnb43 := NB614_612.out; have hnc43 := NB612_614.out; have hcz44_0 : w42.cell? ⟨gb614, 0, none⟩ = some (.int .i64 0) := (blk_cell BK614.out 0).trans rfl; have hcz44_1 : w42.cell? ⟨gb614, 1, none⟩ = some (.int .i64 0) := (blk_cell BK614.out 1).trans rfl; have hcz44_2 : w42.cell? ⟨gb614, 2, none⟩ = some (.int .i64 0) := (blk_cell BK614.out 2).trans rfl; have hcz44_3 : w42.cell? ⟨gb614, 3, none⟩ = some (.int .i64 0) := (blk_cell BK614.out 3).trans rfl; have hcz44_4 : w42.cell? ⟨gb614, 4, none⟩ = some (.int .i64 0) := (blk_cell BK614.out 4).trans rfl; have hfz44_0 := blk_frozen BK614.out 0; have hfz44_1 := blk_frozen BK614.out 1; have hfz44_2 := blk_frozen BK614.out 2; have hfz44_3 := blk_frozen BK614.out 3; have hfz44_4 := blk_frozen BK614.out 4; have hcz45_0 : w42.cell? ⟨gb612, 0, none⟩ = some (.bool true) := (blk_cell BK612.out 0).trans rfl; have hcz45_1 : w42.cell? ⟨gb612, 1, none⟩ = some (.slice (some ad613) l0_1.length c0_1) := (blk_cell BK612.out 1).trans rfl; have hfz45_0 := blk_frozen BK612.out 0; have hfz45_1 := blk_frozen BK612.out 1) | (go_at_call 88; (with_reducible refine (impl_in.calls ((rd_T103 l0_1 x23_2).f0) 1 999 false _ A15.out).mono ?_); rintro e w' ⟨rfl, ⟨nd, rfl⟩⟩))
                      go_ret
                      exact ⟨by first | rfl | (simp [errW_none, errW_some] <;> rfl) | (simp [*, errW_none, errW_some] <;> rfl), by repeat (first | (with_reducible first | exact HB.out | apply below_alloc | apply pw_below_drewN | apply below_drew1 | refine below_set ?_ GE612.out | refine below_set ?_ GE614.out) | exact HB.out)⟩
                  · replace c14 := Bool.eq_false_iff.mpr c14
                    subst c14
                    have H1 : ((impl_in.f ((rd_T103 l0_1 x23_2).f0) 0 47).bind fun t618 => (if t618 = true then ((impl_BoxOk.f ((rd_T103 l0_1 x23_2).f1.f0) ((rd_T103 l0_1 x23_2).f1.f1) ((rd_T103 l0_1 x23_2).f1.f2) ((rd_T103 l0_1 x23_2).f1.f3)).bind fun t619 => (if t619 = true then ((impl_EntryAt.f k2 l0_1 ((rd_T103 l0_1 x23_2).f0)).bind fun t620 => (if t620 = x23_2 then (impl_NodeOk.l0 k2 l0_1 (l0_1.length : Int) (wrap64 (x23_2 + 1)) false l0_1) else (some false))) else (some false))) else (some false))) = some r := by rw [if_neg (show ¬ (false = true) by decide)] at H; exact H
                    clear H
                    have H := H1
                    clear H1
                    replace H := Option.bind_eq_some_iff.mp H
                    obtain ⟨t618, A460, H⟩ := H
                    replace H : (if t618 = true then ((impl_BoxOk.f ((rd_T103 l0_1 x23_2).f1.f0) ((rd_T103 l0_1 x23_2).f1.f1) ((rd_T103 l0_1 x23_2).f1.f2) ((rd_T103 l0_1 x23_2).f1.f3)).bind fun t619 => (if t619 = true then ((impl_EntryAt.f k2 l0_1 ((rd_T103 l0_1 x23_2).f0)).bind fun t620 => (if t620 = x23_2 then (impl_NodeOk.l0 k2 l0_1 (l0_1.length : Int) (wrap64 (x23_2 + 1)) false l0_1) else (some false))) else (some false))) else (some false)) = some r := H
                    have A46 := Aside0.mk A460
                    clear A460
                    by_cases c47 : t618 = true
                    · subst c47
                      have H1 : ((impl_BoxOk.f ((rd_T103 l0_1 x23_2).f1.f0) ((rd_T103 l0_1 x23_2).f1.f1) ((rd_T103 l0_1 x23_2).f1.f2) ((rd_T103 l0_1 x23_2).f1.f3)).bind fun t619 => (if t619 = true then ((impl_EntryAt.f k2 l0_1 ((rd_T103 l0_1 x23_2).f0)).bind fun t620 => (if t620 = x23_2 then (impl_NodeOk.l0 k2 l0_1 (l0_1.length : Int) (wrap64 (x23_2 + 1)) false l0_1) else (some false))) else (some false))) = some r := by rw [if_pos rfl] at H; exact H
                      clear H
                      have H := H1
                      clear H1
                      replace H := Option.bind_eq_some_iff.mp H
                      obtain ⟨t619, A480, H⟩ := H
                      replace H : (if t619 = true then ((impl_EntryAt.f k2 l0_1 ((rd_T103 l0_1 x23_2).f0)).bind fun t620 => (if t620 = x23_2 then (impl_NodeOk.l0 k2 l0_1 (l0_1.length : Int) (wrap64 (x23_2 + 1)) false l0_1) else (some false))) else (some false)) = some r := H
                      have A48 := Aside0.mk A480
                      clear A480
                      by_cases c49 : t619 = true
                      · subst c49
                        have H1 : ((impl_EntryAt.f k2 l0_1 ((rd_T103 l0_1 x23_2).f0)).bind fun t620 => (if t620 = x23_2 then (impl_NodeOk.l0 k2 l0_1 (l0_1.length : Int) (wrap64 (x23_2 + 1)) false l0_1) else (some false))) = some r := by rw [if_pos rfl] at H; exact H
                        clear H
                        have H := H1
                        clear H1
                        replace H := Option.bind_eq_some_iff.mp H
                        obtain ⟨t620, A500, H⟩ := H
                        replace H : (if t620 = x23_2 then (impl_NodeOk.l0 k2 l0_1 (l0_1.length : Int) (wrap64 (x23_2 + 1)) false l0_1) else (some false)) = some r := H
                        have A50 := Aside0.mk A500
                        clear A500
                        by_cases c51 : t620 = x23_2
                        · rw [if_pos c51] at H
                          have c51b0 : (t620 == x23_2) = true := beq_iff_eq.mpr c51
                          have c51b1 : (t620 != x23_2) = false := bne_eq_false_iff_eq.mpr c51
                          clear c51
                          have H' := Aside0.mk H
                          clear H
                          have p613 : 0 ≤ (x23_2 : Int) := of_decide_eq_true (by first | (with_reducible assumption) | assumption)
                          have q613 : x23_2 < (l0_1.length : Int) := of_decide_eq_true (by first | (with_reducible assumption) | assumption)
                          obtain ⟨ad613, e613, hx613_0, hx613_1, hx613_2, hx613_3, hx613_4⟩ := at_T103 HR0_1.out x23_2 p613 q613
                          cases e613
                          replace hx613_0 := (HB.out.cell (World.block_lt_of_cell? w _ hx613_0)).trans hx613_0
                          replace hx613_1 := (HB.out.cell (World.block_lt_of_cell? w _ hx613_1)).trans hx613_1
                          replace hx613_2 := (HB.out.cell (World.block_lt_of_cell? w _ hx613_2)).trans hx613_2
                          replace hx613_3 := (HB.out.cell (World.block_lt_of_cell? w _ hx613_3)).trans hx613_3
                          replace hx613_4 := (HB.out.cell (World.block_lt_of_cell? w _ hx613_4)).trans hx613_4
                          replace p613 := eq_true p613
                          replace q613 := eq_true q613
                          go_wp2_with (first | ((with_reducible refine gate_dst (N := 4) rfl ?_); (try (refine gate_guard (by rfl) ?_; dsimp only)); refine box_event ?hg (N := 4) ?hd (cs := #[.int .i64 0, .int .i64 0, .int .i64 0, .int .i64 0, .int .i64 0]) (t := 103) ?hr ?_; (case hd => rfl); (case hg => rfl); (case hr => first | (go_simp; done) | (go_simp; rfl)); intro gb614 hg w52 hbox hb; have n0_ := Aside0.mk (blk_below (g := gb612) (o := .cells #[.bool false, .slice (some ad613) l0_1.length c0_1] 54 (0, 0)) (by (with_reducible repeat (first | refine blk_drewN ?_ _ | refine blk_drew ?_ | refine blk_alloc ?_ _)); exact BK612.out) hb); have n1_ := Aside0.mk (below_step (by repeat (first | (with_reducible first | exact HB.out | apply below_alloc | apply pw_below_drewN | apply below_drew1 | refine below_set ?_ GE612.out) | exact HB.out)) hb); have n2_ := Aside0.mk (hbox); have n3_ := Aside0.mk ((by rw [hg]; exact (below_size (by repeat (first | (with_reducible first | exact HB.out | apply below_alloc | apply pw_below_drewN | apply below_drew1 | refine below_set ?_ GE612.out) | exact HB.out))) : w.heap.size ≤ gb614)); have n4_ := Aside0.mk ((by rw [hg]; exact (below_size (by repeat (first | (with_reducible first | exact HB.out | apply below_alloc | apply pw_below_drewN | apply below_drew1 | refine below_set ?_ GE612.out) | exact HB.out))) : w.heap.size ≤ gb614)); have n5_ := Aside0.mk ((by rw [hg]; exact Nat.ne_of_lt (blk_lt (g := gb612) (o := .cells #[.bool false, .slice (some ad613) l0_1.length c0_1] 54 (0, 0)) (by (with_reducible repeat (first | refine blk_drewN ?_ _ | refine blk_drew ?_ | refine blk_alloc ?_ _)); exact BK612.out)) : gb612 ≠ gb614)); have n6_ := Aside0.mk ((by rw [hg]; exact Nat.ne_of_gt (blk_lt (g := gb612) (o := .cells #[.bool false, .slice (some ad613) l0_1.length c0_1] 54 (0, 0)) (by (with_reducible repeat (first | refine blk_drewN ?_ _ | refine blk_drew ?_ | refine blk_alloc ?_ _)); exact BK612.out)) : gb614 ≠ gb612)); clear BK612; clear HB; have BK612 := n0_; have HB := n1_; have BK614 := n2_; have GW614 := n3_; have GE614 := n4_; have NB612_614 := n5_; have NB614_612 := n6_; clear n0_ n1_ n2_ n3_ n4_ n5_ n6_; clear hb hbox hg; have hnb53 := NB614_612.out; have hnc53 := NB612_614.out; have hcz54_0 : w52.cell? ⟨gb614, 0, none⟩ = some (.int .i64 0) := (blk_cell BK614.out 0).trans rfl; have hcz54_1 : w52.cell? ⟨gb614, 1, none⟩ = some (.int .i64 0) := (blk_cell BK614.out 1).trans rfl; have hcz54_2 : w52.cell? ⟨gb614, 2, none⟩ = some (.int .i64 0) := (blk_cell BK614.out 2).trans rfl; have hcz54_3 : w52.cell? ⟨gb614, 3, none⟩ = some (.int .i64 0) := (blk_cell BK614.out 3).trans rfl; have hcz54_4 : w52.cell? ⟨gb614, 4, none⟩ = some (.int .i64 0) := (blk_cell BK614.out 4).trans rfl; have hfz54_0 := blk_frozen BK614.out 0; have hfz54_1 := blk_frozen BK614.out 1; have hfz54_2 := blk_frozen BK614.out 2; have hfz54_3 := blk_frozen BK614.out 3; have hfz54_4 := blk_frozen BK614.out 4; have hcz55_0 : w52.cell? ⟨gb612, 0, none⟩ = some (.bool false) := (blk_cell BK612.out 0).trans rfl; have hcz55_1 : w52.cell? ⟨gb612, 1, none⟩ = some (.slice (some ad613) l0_1.length c0_1) := (blk_cell BK612.out 1).trans rfl; have hfz55_0 := blk_frozen BK612.out 0; have hfz55_1 := blk_frozen BK612.out 1) | (go_at_call 88; (with_reducible refine (impl_in.calls ((rd_T103 l0_1 x23_2).f0) 0 47 true _ A46.out).mono ?_); rintro e w' ⟨rfl, ⟨nd, rfl⟩⟩) | (go_at_call 112; (with_reducible refine (impl_BoxOk.calls ((rd_T103 l0_1 x23_2).f1.f0) ((rd_T103 l0_1 x23_2).f1.f1) ((rd_T103 l0_1 x23_2).f1.f2) ((rd_T103 l0_1 x23_2).f1.f3) true _ A48.out).mono ?_); rintro e w56 ⟨rfl, hb⟩; have n0_ := Aside0.mk (blk_below (g := gb612) (o := .cells #[.bool false, .slice (some ad613) l0_1.length c0_1] 54 (0, 0)) (by (with_reducible repeat (first | refine blk_drewN ?_ _ | refine blk_drew ?_ | refine blk_alloc ?_ _)); refine blk_far ?_ NB612_614.out _; (with_reducible repeat (first | refine blk_drewN ?_ _ | refine blk_drew ?_ | refine blk_alloc ?_ _)); refine blk_far ?_ NB612_614.out _; (with_reducible repeat (first | refine blk_drewN ?_ _ | refine blk_drew ?_ | refine blk_alloc ?_ _)); refine blk_far ?_ NB612_614.out _; (with_reducible repeat (first | refine blk_drewN ?_ _ | refine blk_drew ?_ | refine blk_alloc ?_ _)); refine blk_far ?_ NB612_614.out _; (with_reducible repeat (first | refine blk_drewN ?_ _ | refine blk_drew ?_ | refine blk_alloc ?_ _)); refine blk_far ?_ NB612_614.out _; (with_reducible repeat (first | refine blk_drewN ?_ _ | refine blk_drew ?_ | refine blk_alloc ?_ _)); exact BK612.out) hb); have n1_ := Aside0.mk (blk_below (g := gb614) (o := .cells #[.int .i64 ((rd_T103 l0_1 x23_2).f0), .int .i64 ((rd_T103 l0_1 x23_2).f1.f0), .int .i64 ((rd_T103 l0_1 x23_2).f1.f1), .int .i64 ((rd_T103 l0_1 x23_2).f1.f2), .int .i64 ((rd_T103 l0_1 x23_2).f1.f3)] 103 (0, 0)) (by (with_reducible repeat (first | refine blk_drewN ?_ _ | refine blk_drew ?_ | refine blk_alloc ?_ _)); refine blk_put (cs := #[.int .i64 ((rd_T103 l0_1 x23_2).f0), .int .i64 ((rd_T103 l0_1 x23_2).f1.f0), .int .i64 ((rd_T103 l0_1 x23_2).f1.f1), .int .i64 ((rd_T103 l0_1 x23_2).f1.f2), .int .i64 0]) ?_ 4 _ rfl; (with_reducible repeat (first | refine blk_drewN ?_ _ | refine blk_drew ?_ | refine blk_alloc ?_ _)); refine blk_put (cs := #[.int .i64 ((rd_T103 l0_1 x23_2).f0), .int .i64 ((rd_T103 l0_1 x23_2).f1.f0), .int .i64 ((rd_T103 l0_1 x23_2).f1.f1), .int .i64 0, .int .i64 0]) ?_ 3 _ rfl; (with_reducible repeat (first | refine blk_drewN ?_ _ | refine blk_drew ?_ | refine blk_alloc ?_ _)); refine blk_put (cs := #[.int .i64 ((rd_T103 l0_1 x23_2).f0), .int .i64 ((rd_T103 l0_1 x23_2).f1.f0), .int .i64 0, .int .i64 0, .int .i64 0]) ?_ 2 _ rfl; (with_reducible repeat (first | refine blk_drewN ?_ _ | refine blk_drew ?_ | refine blk_alloc ?_ _)); refine blk_put (cs := #[.int .i64 ((rd_T103 l0_1 x23_2).f0), .int .i64 0, .int .i64 0, .int .i64 0, .int .i64 0]) ?_ 1 _ rfl; (with_reducible repeat (first | refine blk_drewN ?_ _ | refine blk_drew ?_ | refine blk_alloc ?_ _)); refine blk_put (cs := #[.int .i64 0, .int .i64 0, .int .i64 0, .int .i64 0, .int .i64 0]) ?_ 0 _ rfl; (with_reducible repeat (first | refine blk_drewN ?_ _ | refine blk_drew ?_ | refine blk_alloc ?_ _)); exact BK614.out) hb); have n2_ := Aside0.mk (below_step (by repeat (first | (with_reducible first | exact HB.out | apply below_alloc | apply pw_below_drewN | apply below_drew1 | refine below_set ?_ GE612.out | refine below_set ?_ GE614.out) | exact HB.out)) hb); clear BK612; clear BK614; clear HB; have BK612 := n0_; have BK614 := n1_; have HB := n2_; clear n0_ n1_ n2_; (try clear hb); (try clear hb2); (try clear hk); (try clear hi); have hcz57_0 : w56.cell? ⟨gb612, 0, none⟩ = some (.bool false) := (blk_cell BK612.out 0).trans rfl; have hcz57_1 : w56.cell? ⟨gb612, 1, none⟩ = some (.slice (some ad613) l0_1.length c0_1) := (blk_cell BK612.out 1).trans rfl; have hfz57_0 := blk_frozen BK612.out 0; have hfz57_1 := blk_frozen BK612.out 1; have hcz58_0 : w56.cell? ⟨gb614, 0, none⟩ = some (.int .i64 ((rd_T103 l0_1 x23_2).f0)) := (blk_cell BK614.out 0).trans rfl; have hcz58_1 : w56.cell? ⟨gb614, 1, none⟩ = some (.int .i64 ((rd_T103 l0_1 x23_2).f1.f0)) := (blk_cell BK614.out 1).trans rfl; have hcz58_2 : w56.cell? ⟨gb614, 2, none⟩ = some (.int .i64 ((rd_T103 l0_1 x23_2).f1.f1)) := (blk_cell BK614.out 2).trans rfl; have hcz58_3 : w56.cell? ⟨gb614, 3, none⟩ = some (.int .i64 ((rd_T103 l0_1 x23_2).f1.f2)) := (blk_cell BK614.out 3).trans rfl; have hcz58_4 : w56.cell? ⟨gb614, 4, none⟩ = some (.int .i64 ((rd_T103 l0_1 x23_2).f1.f3)) := (blk_cell BK614.out 4).trans rfl; have hfz58_0 := blk_frozen BK614.out 0; have hfz58_1 := blk_frozen BK614.out 1; have hfz58_2 := blk_frozen BK614.out 2; have hfz58_3 := blk_frozen BK614.out 3; have hfz58_4 := blk_frozen BK614.out 4) | (go_at_call 103; (with_reducible refine (impl_EntryAt.calls k2 _ _ l0_1 ((rd_T103 l0_1 x23_2).f0) t620 _ ?side1 ?side2 A50.out).mono ?_); (case side1 => repeat (first | exact (Kd.C_below HR0_1.out HB.out) | (with_reducible refine Kd.C_alloc ?_ _) | (with_reducible refine Kd.C_drewN ?_ _) | (with_reducible refine Kd.C_drew ?_))); (case side2 => exact HC0_1.out); rintro e w59 ⟨rfl, hb⟩; have n0_ := Aside0.mk (blk_below (g := gb612) (o := .cells #[.bool false, .slice (some ad613) l0_1.length c0_1] 54 (0, 0)) (by (with_reducible repeat (first | refine blk_drewN ?_ _ | refine blk_drew ?_ | refine blk_alloc ?_ _)); exact BK612.out) hb); have n1_ := Aside0.mk (blk_below (g := gb614) (o := .cells #[.int .i64 ((rd_T103 l0_1 x23_2).f0), .int .i64 ((rd_T103 l0_1 x23_2).f1.f0), .int .i64 ((rd_T103 l0_1 x23_2).f1.f1), .int .i64 ((rd_T103 l0_1 x23_2).f1.f2), .int .i64 ((rd_T103 l0_1 x23_2).f1.f3)] 103 (0, 0)) (by (with_reducible repeat (first | refine blk_drewN ?_ _ | refine blk_drew ?_ | refine blk_alloc ?_ _)); exact BK614.out) hb); have n2_ := Aside0.mk (below_step (by repeat (first | (with_reducible first | exact HB.out | apply below_alloc | apply pw_below_drewN | apply below_drew1 | refine below_set ?_ GE612.out | refine below_set ?_ GE614.out) | exact HB.out)) hb); clear BK612; clear BK614; clear HB; have BK612 := n0_; have BK614 := n1_; have HB := n2_; clear n0_ n1_ n2_; (try clear hb); (try clear hb2); (try clear hk); (try clear hi)))
                          go_roundg k2
                          case measure => have := HJ1.out; have := HK2.out; omega
                          case rel => exact ⟨(wrap64 (x23_2 + 1)), (by first | rfl | (simp; done) | (simp [*]; done)), H', ⟨by have := HJ1.out; have := HK2.out; omega⟩, ⟨by (with_reducible repeat (first | refine blk_drewN ?_ _ | refine blk_drew ?_ | refine blk_alloc ?_ _)); exact BK612.out⟩, ⟨by repeat (first | (with_reducible first | exact HB.out | apply below_alloc | apply pw_below_drewN | apply below_drew1 | refine below_set ?_ GE612.out | refine below_set ?_ GE614.out) | exact HB.out)⟩⟩
                        · rw [if_neg c51] at H
                          have c51b0 : (t620 == x23_2) = false := beq_eq_false_iff_ne.mpr c51
                          have c51b1 : (t620 != x23_2) = true := bne_iff_ne.mpr c51
                          obtain rfl := Option.some.inj H
                          have p613 : 0 ≤ (x23_2 : Int) := of_decide_eq_true (by first | (with_reducible assumption) | assumption)
                          have q613 : x23_2 < (l0_1.length : Int) := of_decide_eq_true (by first | (with_reducible assumption) | assumption)
                          obtain ⟨ad613, e613, hx613_0, hx613_1, hx613_2, hx613_3, hx613_4⟩ := at_T103 HR0_1.out x23_2 p613 q613
                          cases e613
                          replace hx613_0 := (HB.out.cell (World.block_lt_of_cell? w _ hx613_0)).trans hx613_0
                          replace hx613_1 := (HB.out.cell (World.block_lt_of_cell? w _ hx613_1)).trans hx613_1
                          replace hx613_2 := (HB.out.cell (World.block_lt_of_cell? w _ hx613_2)).trans hx613_2
                          replace hx613_3 := (HB.out.cell (World.block_lt_of_cell? w _ hx613_3)).trans hx613_3
                          replace hx613_4 := (HB.out.cell (World.block_lt_of_cell? w _ hx613_4)).trans hx613_4
                          replace p613 := eq_true p613
                          replace q613 := eq_true q613
                          go_wp2_with (first | ((with_reducible refine gate_dst (N := 4) rfl ?_); (try (refine gate_guard (by rfl) ?_; dsimp only)); refine box_event ?hg (N := 4) ?hd (cs := #[.int .i64 0, .int .i64 0, .int .i64 0, .int .i64 0, .int .i64 0]) (t := 103) ?hr ?_; (case hd => rfl); (case hg => rfl); (case hr => first | (go_simp; done) | (go_simp; rfl)); intro gb614 hg w60 hbox hb; have n0_ := Aside0.mk (blk_below (g := gb612) (o := .cells #[.bool false, .slice (some ad613) l0_1.length c0_1] 54 (0, 0)) (by (with_reducible repeat (first | refine blk_drewN ?_ _ | refine blk_drew ?_ | refine blk_alloc ?_ _)); exact BK612.out) hb); have n1_ := Aside0.mk (below_step (by repeat (first | (with_reducible first | exact HB.out | apply below_alloc | apply pw_below_drewN | apply below_drew1 | refine below_set ?_ GE612.out) | exact HB.out)) hb); have n2_ := Aside0.mk (hbox); have n3_ := Aside0.mk ((by rw [hg]; exact (below_size (by repeat (first | (with_reducible first | exact HB.out | apply below_alloc | apply pw_below_drewN | apply below_drew1 | refine below_set ?_ GE612.out) | exact HB.out))) : w.heap.size ≤ gb614)); have n4_ := Aside0.mk ((by rw [hg]; exact (below_size (by repeat (first | (with_reducible first | exact HB.out | apply below_alloc | apply pw_below_drewN | apply below_drew1 | refine below_set ?_ GE612.out) | exact HB.out))) : w.heap.size ≤ gb614)); have n5_ := Aside0.mk ((by rw [hg]; exact Nat.ne_of_lt (blk_lt (g := gb612) (o := .cells #[.bool false, .slice (some ad613) l0_1.length c0_1] 54 (0, 0)) (by (with_reducible repeat (first | refine blk_drewN ?_ _ | refine blk_drew ?_ | refine blk_alloc ?_ _)); exact BK612.out)) : gb612 ≠ gb614)); have n6_ := Aside0.mk ((by rw [hg]; exact Nat.ne_of_gt (blk_lt (g := gb612) (o := .cells #[.bool false, .slice (some ad613) l0_1.length c0_1] 54 (0, 0)) (by (with_reducible repeat (first | refine blk_drewN ?_ _ | refine blk_drew ?_ | refine blk_alloc ?_ _)); exact BK612.out)) : gb614 ≠ gb612)); clear BK612; clear HB; have BK612 := n0_; have HB := n1_; have BK614 := n2_; have GW614 := n3_; have GE614 := n4_; have NB612_614 := n5_; have NB614_612 := n6_; clear n0_ n1_ n2_ n3_ n4_ n5_ n6_; clear hb hbox hg; have hnb61 := NB614_612.out; have hnc61 := NB612_614.out; have hcz62_0 : w60.cell? ⟨gb614, 0, none⟩ = some (.int .i64 0) := (blk_cell BK614.out 0).trans rfl; have hcz62_1 : w60.cell? ⟨gb614, 1, none⟩ = some (.int .i64 0) := (blk_cell BK614.out 1).trans rfl; have hcz62_2 : w60.cell? ⟨gb614, 2, none⟩ = some (.int .i64 0) := (blk_cell BK614.out 2).trans rfl; have hcz62_3 : w60.cell? ⟨gb614, 3, none⟩ = some (.int .i64 0) := (blk_cell BK614.out 3).trans rfl; have hcz62_4 : w60.cell? ⟨gb614, 4, none⟩ = some (.int .i64 0) := (blk_cell BK614.out 4).trans rfl; have hfz62_0 := blk_frozen BK614.out 0; have hfz62_1 := blk_frozen BK614.out 1; have hfz62_2 := blk_frozen BK614.out 2; have hfz62_3 := blk_frozen BK614.out 3; have hfz62_4 := blk_frozen BK614.out 4; have hcz63_0 : w60.cell? ⟨gb612, 0, none⟩ = some (.bool false) := (blk_cell BK612.out 0).trans rfl; have hcz63_1 : w60.cell? ⟨gb612, 1, none⟩ = some (.slice (some ad613) l0_1.length c0_1) := (blk_cell BK612.out 1).trans rfl; have hfz63_0 := blk_frozen BK612.out 0; have hfz63_1 := blk_frozen BK612.out 1) | (go_at_call 88; (with_reducible refine (impl_in.calls ((rd_T103 l0_1 x23_2).f0) 0 47 true _ A46.out).mono ?_); rintro e w' ⟨rfl, ⟨nd, rfl⟩⟩) | (go_at_call 112; (with_reducible refine (impl_BoxOk.calls ((rd_T103 l0_1 x23_2).f1.f0) ((rd_T103 l0_1 x23_2).f1.f1) ((rd_T103 l0_1 x23_2).f1.f2) ((rd_T103 l0_1 x23_2).f1.f3) true _ A48.out).mono ?_); rintro e w64 ⟨rfl, hb⟩; have n0_ := Aside0.mk (blk_below (g := gb612) (o := .cells #[.bool false, .slice (some ad613) l0_1.length c0_1] 54 (0, 0)) (by (with_reducible repeat (first | refine blk_drewN ?_ _ | refine blk_drew ?_ | refine blk_alloc ?_ _)); refine blk_far ?_ NB612_614.out _; (with_reducible repeat (first | refine blk_drewN ?_ _ | refine blk_drew ?_ | refine blk_alloc ?_ _)); refine blk_far ?_ NB612_614.out _; (with_reducible repeat (first | refine blk_drewN ?_ _ | refine blk_drew ?_ | refine blk_alloc ?_ _)); refine blk_far ?_ NB612_614.out _; (with_reducible repeat (first | refine blk_drewN ?_ _ | refine blk_drew ?_ | refine blk_alloc ?_ _)); refine blk_far ?_ NB612_614.out _; (with_reducible repeat (first | refine blk_drewN ?_ _ | refine blk_drew ?_ | refine blk_alloc ?_ _)); refine blk_far ?_ NB612_614.out _; (with_reducible repeat (first | refine blk_drewN ?_ _ | refine blk_drew ?_ | refine blk_alloc ?_ _)); exact BK612.out) hb); have n1_ := Aside0.mk (blk_below (g := gb614) (o := .cells #[.int .i64 ((rd_T103 l0_1 x23_2).f0), .int .i64 ((rd_T103 l0_1 x23_2).f1.f0), .int .i64 ((rd_T103 l0_1 x23_2).f1.f1), .int .i64 ((rd_T103 l0_1 x23_2).f1.f2), .int .i64 ((rd_T103 l0_1 x23_2).f1.f3)] 103 (0, 0)) (by (with_reducible repeat (first | refine blk_drewN ?_ _ | refine blk_drew ?_ | refine blk_alloc ?_ _)); refine blk_put (cs := #[.int .i64 ((rd_T103 l0_1 x23_2).f0), .int .i64 ((rd_T103 l0_1 x23_2).f1.f0), .int .i64 ((rd_T103 l0_1 x23_2).f1.f1), .int .i64 ((rd_T103 l0_1 x23_2).f1.f2), .int .i64 0]) ?_ 4 _ rfl; (with_reducible repeat (first | refine blk_drewN ?_ _ | refine blk_drew ?_ | refine blk_alloc ?_ _)); refine blk_put (cs := #[.int .i64 ((rd_T103 l0_1 x23_2).f0), .int .i64 ((rd_T103 l0_1 x23_2).f1.f0), .int .i64 ((rd_T103 l0_1 x23_2).f1.f1), .int .i64 0, .int .i64 0]) ?_ 3 _ rfl; (with_reducible repeat (first | refine blk_drewN ?_ _ | refine blk_drew ?_ | refine blk_alloc ?_ _)); refine blk_put (cs := #[.int .i64 ((rd_T103 l0_1 x23_2).f0), .int .i64 ((rd_T103 l0_1 x23_2).f1.f0), .int .i64 0, .int .i64 0, .int .i64 0]) ?_ 2 _ rfl; (with_reducible repeat (first | refine blk_drewN ?_ _ | refine blk_drew ?_ | refine blk_alloc ?_ _)); refine blk_put (cs := #[.int .i64 ((rd_T103 l0_1 x23_2).f0), .int .i64 0, .int .i64 0, .int .i64 0, .int .i64 0]) ?_ 1 _ rfl; (with_reducible repeat (first | refine blk_drewN ?_ _ | refine blk_drew ?_ | refine blk_alloc ?_ _)); refine blk_put (cs := #[.int .i64 0, .int .i64 0, .int .i64 0, .int .i64 0, .int .i64 0]) ?_ 0 _ rfl; (with_reducible repeat (first | refine blk_drewN ?_ _ | refine blk_drew ?_ | refine blk_alloc ?_ _)); exact BK614.out) hb); have n2_ := Aside0.mk (below_step (by repeat (first | (with_reducible first | exact HB.out | apply below_alloc | apply pw_below_drewN | apply below_drew1 | refine below_set ?_ GE612.out | refine below_set ?_ GE614.out) | exact HB.out)) hb); clear BK612; clear BK614; clear HB; have BK612 := n0_; have BK614 := n1_; have HB := n2_; clear n0_ n1_ n2_; (try clear hb); (try clear hb2); (try clear hk); (try clear hi); have hcz65_0 : w64.cell? ⟨gb612, 0, none⟩ = some (.bool false) := (blk_cell BK612.out 0).trans rfl; have hcz65_1 : w64.cell? ⟨gb612, 1, none⟩ = some (.slice (some ad613) l0_1.length c0_1) := (blk_cell BK612.out 1).trans rfl; have hfz65_0 := blk_frozen BK612.out 0; have hfz65_1 := blk_frozen BK612.out 1; have hcz66_0 : w64.cell? ⟨gb614, 0, none⟩ = some (.int .i64 ((rd_T103 l0_1 x23_2).f0)) := (blk_cell BK614.out 0).trans rfl; have hcz66_1 : w64.cell? ⟨gb614, 1, none⟩ = some (.int .i64 ((rd_T103 l0_1 x23_2).f1.f0)) := (blk_cell BK614.out 1).trans rfl; have hcz66_2 : w64.cell? ⟨gb614, 2, none⟩ = some (.int .i64 ((rd_T103 l0_1 x23_2).f1.f1)) := (blk_cell BK614.out 2).trans rfl; have hcz66_3 : w64.cell? ⟨gb614, 3, none⟩ = some (.int .i64 ((rd_T103 l0_1 x23_2).f1.f2)) := (blk_cell BK614.out 3).trans rfl; have hcz66_4 : w64.cell? ⟨gb614, 4, none⟩ = some (.int .i64 ((rd_T103 l0_1 x23_2).f1.f3)) := (blk_cell BK614.out 4).trans rfl; have hfz66_0 := blk_frozen BK614.out 0; have hfz66_1 := blk_frozen BK614.out 1; have hfz66_2 := blk_frozen BK614.out 2; have hfz66_3 := blk_frozen BK614.out 3; have hfz66_4 := blk_frozen BK614.out 4) | (go_at_call 103; (with_reducible refine (impl_EntryAt.calls k2 _ _ l0_1 ((rd_T103 l0_1 x23_2).f0) t620 _ ?side1 ?side2 A50.out).mono ?_); (case side1 => repeat (first | exact (Kd.C_below HR0_1.out HB.out) | (with_reducible refine Kd.C_alloc ?_ _) | (with_reducible refine Kd.C_drewN ?_ _) | (with_reducible refine Kd.C_drew ?_))); (case side2 => exact HC0_1.out); rintro e w67 ⟨rfl, hb⟩; have n0_ := Aside0.mk (blk_below (g := gb612) (o := .cells #[.bool false, .slice (some ad613) l0_1.length c0_1] 54 (0, 0)) (by (with_reducible repeat (first | refine blk_drewN ?_ _ | refine blk_drew ?_ | refine blk_alloc ?_ _)); exact BK612.out) hb); have n1_ := Aside0.mk (blk_below (g := gb614) (o := .cells #[.int .i64 ((rd_T103 l0_1 x23_2).f0), .int .i64 ((rd_T103 l0_1 x23_2).f1.f0), .int .i64 ((rd_T103 l0_1 x23_2).f1.f1), .int .i64 ((rd_T103 l0_1 x23_2).f1.f2), .int .i64 ((rd_T103 l0_1 x23_2).f1.f3)] 103 (0, 0)) (by (with_reducible repeat (first | refine blk_drewN ?_ _ | refine blk_drew ?_ | refine blk_alloc ?_ _)); exact BK614.out) hb); have n2_ := Aside0.mk (below_step (by repeat (first | (with_reducible first | exact HB.out | apply below_alloc | apply pw_below_drewN | apply below_drew1 | refine below_set ?_ GE612.out | refine below_set ?_ GE614.out) | exact HB.out)) hb); clear BK612; clear BK614; clear HB; have BK612 := n0_; have BK614 := n1_; have HB := n2_; clear n0_ n1_ n2_; (try clear hb); (try clear hb2); (try clear hk); (try clear hi)))
                          go_ret
                          exact ⟨by first | rfl | (simp [errW_none, errW_some] <;> rfl) | (simp [*, errW_none, errW_some] <;> rfl), by repeat (first | (with_reducible first | exact HB.out | apply below_alloc | apply pw_below_drewN | apply below_drew1 | refine below_set ?_ GE612.out | refine below_set ?_ GE614.out) | exact HB.out)⟩
                      · replace c49 := Bool.eq_false_iff.mpr c49
                        subst c49
                        have H1 : (some false) = some r := by rw [if_neg (show ¬ (false = true) by decide)] at H; exact H
                        clear H
                        have H := H1
                        clear H1
                        obtain rfl := Option.some.inj H
                        have p613 : 0 ≤ (x23_2 : Int) := of_decide_eq_true (by first | (with_reducible assumption) | assumption)
                        have q613 : x23_2 < (l0_1.length : Int) := of_decide_eq_true (by first | (with_reducible assumption) | assumption)
                        obtain ⟨ad613, e613, hx613_0, hx613_1, hx613_2, hx613_3, hx613_4⟩ := at_T103 HR0_1.out x23_2 p613 q613
                        cases e613
                        replace hx613_0 := (HB.out.cell (World.block_lt_of_cell? w _ hx613_0)).trans hx613_0
                        replace hx613_1 := (HB.out.cell (World.block_lt_of_cell? w _ hx613_1)).trans hx613_1
                        replace hx613_2 := (HB.out.cell (World.block_lt_of_cell? w _ hx613_2)).trans hx613_2
                        replace hx613_3 := (HB.out.cell (World.block_lt_of_cell? w _ hx613_3)).trans hx613_3
                        replace hx613_4 := (HB.out.cell (World.block_lt_of_cell? w _ hx613_4)).trans hx613_4
                        replace p613 := eq_true p613
                        replace q613 := eq_true q613
                        go_wp2_with (first | ((with_reducible refine gate_dst (N := 4) rfl ?_); (try (refine gate_guard (by rfl) ?_; dsimp only)); refine box_event ?hg (N := 4) ?hd (cs := #[.int .i64 0, .int .i64 0, .int .i64 0, .int .i64 0, .int .i64 0]) (t := 103) ?hr ?_; (case hd => rfl); (case hg => rfl); (case hr => first | (go_simp; done) | (go_simp; rfl)); intro gb614 hg w68 hbox hb; have n0_ := Aside0.mk (blk_below (g := gb612) (o := .cells #[.bool false, .slice (some ad613) l0_1.length c0_1] 54 (0, 0)) (by (with_reducible repeat (first | refine blk_drewN ?_ _ | refine blk_drew ?_ | refine blk_alloc ?_ _)); exact BK612.out) hb); have n1_ := Aside0.mk (below_step (by repeat (first | (with_reducible first | exact HB.out | apply below_alloc | apply pw_below_drewN | apply below_drew1 | refine below_set ?_ GE612.out) | exact HB.out)) hb); have n2_ := Aside0.mk (hbox); have n3_ := Aside0.mk ((by rw [hg]; exact (below_size (by repeat (first | (with_reducible first | exact HB.out | apply below_alloc | apply pw_below_drewN | apply below_drew1 | refine below_set ?_ GE612.out) | exact HB.out))) : w.heap.size ≤ gb614)); have n4_ := Aside0.mk ((by rw [hg]; exact (below_size (by repeat (first | (with_reducible first | exact HB.out | apply below_alloc | apply pw_below_drewN | apply below_drew1 | refine below_set ?_ GE612.out) | exact HB.out))) : w.heap.size ≤ gb614)); have n5_ := Aside0.mk ((by rw [hg]; exact Nat.ne_of_lt (blk_lt (g := gb612) (o := .cells #[.bool false, .slice (some ad613) l0_1.length c0_1] 54 (0, 0)) (by (with_reducible repeat (first | refine blk_drewN ?_ _ | refine blk_drew ?_ | refine blk_alloc ?_ _)); exact BK612.out)) : gb612 ≠ gb614)); have n6_ := Aside0.mk ((by rw [hg]; exact Nat.ne_of_gt (blk_lt (g := gb612) (o := .cells #[.bool false, .slice (some ad613) l0_1.length c0_1] 54 (0, 0)) (by (with_reducible repeat (first | refine blk_drewN ?_ _ | refine blk_drew ?_ | refine blk_alloc ?_ _)); exact BK612.out)) : gb614 ≠ gb612)); clear BK612; clear HB; have BK612 := n0_; have HB := n1_; have BK614 := n2_; have GW614 := n3_; have GE614 := n4_; have NB612_614 := n5_; have NB614_612 := n6_; clear n0_ n1_ n2_ n3_ n4_ n5_ n6_; clear hb hbox hg; have hnb69 := NB614_612.out; have hnc69 := NB612_614.out; have hcz70_0 : w68.cell? ⟨gb614, 0, none⟩ = some (.int .i64 0) := (blk_cell BK614.out 0).trans rfl; have hcz70_1 : w68.cell? ⟨gb614, 1, none⟩ = some (.int .i64 0) := (blk_cell BK614.out 1).trans rfl; have hcz70_2 : w68.cell? ⟨gb614, 2, none⟩ = some (.int .i64 0) := (blk_cell BK614.out 2).trans rfl; have hcz70_3 : w68.cell? ⟨gb614, 3, none⟩ = some (.int .i64 0) := (blk_cell BK614.out 3).trans rfl; have hcz70_4 : w68.cell? ⟨gb614, 4, none⟩ = some (.int .i64 0) := (blk_cell BK614.out 4).trans rfl; have hfz70_0 := blk_frozen BK614.out 0; have hfz70_1 := blk_frozen BK614.out 1; have hfz70_2 := blk_frozen BK614.out 2; have hfz70_3 := blk_frozen BK614.out 3; have hfz70_4 := blk_frozen BK614.out 4; have hcz71_0 : w68.cell? ⟨gb612, 0, none⟩ = some (.bool false) := (blk_cell BK612.out 0).trans rfl; have hcz71_1 : w68.cell? ⟨gb612, 1, none⟩ = some (.slice (some ad613) l0_1.length c0_1) := (blk_cell BK612.out 1).trans rfl; have hfz71_0 := blk_frozen BK612.out 0; have hfz71_1 := blk_frozen BK612.out 1) | (go_at_call 88; (with_reducible refine (impl_in.calls ((rd_T103 l0_1 x23_2).f0) 0 47 true _ A46.out).mono ?_); rintro e w' ⟨rfl, ⟨nd, rfl⟩⟩) | (go_at_call 112; (with_reducible refine (impl_BoxOk.calls ((rd_T103 l0_1 x23_2).f1.f0) ((rd_T103 l0_1 x23_2).f1.f1) ((rd_T103 l0_1 x23_2).f1.f2) ((rd_T103 l0_1 x23_2).f1.f3) false _ A48.out).mono ?_); rintro e w72 ⟨rfl, hb⟩; have n0_ := Aside0.mk (blk_below (g := gb612) (o := .cells #[.bool false, .slice (some ad613) l0_1.length c0_1] 54 (0, 0)) (by (with_reducible repeat (first | refine blk_drewN ?_ _ | refine blk_drew ?_ | refine blk_alloc ?_ _)); refine blk_far ?_ NB612_614.out _; (with_reducible repeat (first | refine blk_drewN ?_ _ | refine blk_drew ?_ | refine blk_alloc ?_ _)); refine blk_far ?_ NB612_614.out _; (with_reducible repeat (first | refine blk_drewN ?_ _ | refine blk_drew ?_ | refine blk_alloc ?_ _)); refine blk_far ?_ NB612_614.out _; (with_reducible repeat (first | refine blk_drewN ?_ _ | refine blk_drew ?_ | refine blk_alloc ?_ _)); refine blk_far ?_ NB612_614.out _; (with_reducible repeat (first | refine blk_drewN ?_ _ | refine blk_drew ?_ | refine blk_alloc ?_ _)); refine blk_far ?_ NB612_614.out _; (with_reducible repeat (first | refine blk_drewN ?_ _ | refine blk_drew ?_ | refine blk_alloc ?_ _)); exact BK612.out) hb); have n1_ := Aside0.mk (blk_below (g := gb614) (o := .cells #[.int .i64 ((rd_T103 l0_1 x23_2).f0), .int .i64 ((rd_T103 l0_1 x23_2).f1.f0), .int .i64 ((rd_T103 l0_1 x23_2).f1.f1), .int .i64 ((rd_T103 l0_1 x23_2).f1.f2), .int .i64 ((rd_T103 l0_1 x23_2).f1.f3)] 103 (0, 0)) (by (with_reducible repeat (first | refine blk_drewN ?_ _ | refine blk_drew ?_ | refine blk_alloc ?_ _)); refine blk_put (cs := #[.int .i64 ((rd_T103 l0_1 x23_2).f0), .int .i64 ((rd_T103 l0_1 x23_2).f1.f0), .int .i64 ((rd_T103 l0_1 x23_2).f1.f1), .int .i64 ((rd_T103 l0_1 x23_2).f1.f2), .int .i64 0]) ?_ 4 _ rfl; (with_reducible repeat (first | refine blk_drewN ?_ _ | refine blk_drew ?_ | refine blk_alloc ?_ _)); refine blk_put (cs := #[.int .i64 ((rd_T103 l0_1 x23_2).f0), .int .i64 ((rd_T103 l0_1 x23_2).f1.f0), .int .i64 ((rd_T103 l0_1 x23_2).f1.f1), .int .i64 0, .int .i64 0]) ?_ 3 _ rfl; (with_reducible repeat (first | refine blk_drewN ?_ _ | refine blk_drew ?_ | refine blk_alloc ?_ _)); refine blk_put (cs := #[.int .i64 ((rd_T103 l0_1 x23_2).f0), .int .i64 ((rd_T103 l0_1 x23_2).f1.f0), .int .i64 0, .int .i64 0, .int .i64 0]) ?_ 2 _ rfl; (with_reducible repeat (first | refine blk_drewN ?_ _ | refine blk_drew ?_ | refine blk_alloc ?_ _)); refine blk_put (cs := #[.int .i64 ((rd_T103 l0_1 x23_2).f0), .int .i64 0, .int .i64 0, .int .i64 0, .int .i64 0]) ?_ 1 _ rfl; (with_reducible repeat (first | refine blk_drewN ?_ _ | refine blk_drew ?_ | refine blk_alloc ?_ _)); refine blk_put (cs := #[.int .i64 0, .int .i64 0, .int .i64 0, .int .i64 0, .int .i64 0]) ?_ 0 _ rfl; (with_reducible repeat (first | refine blk_drewN ?_ _ | refine blk_drew ?_ | refine blk_alloc ?_ _)); exact BK614.out) hb); have n2_ := Aside0.mk (below_step (by repeat (first | (with_reducible first | exact HB.out | apply below_alloc | apply pw_below_drewN | apply below_drew1 | refine below_set ?_ GE612.out | refine below_set ?_ GE614.out) | exact HB.out)) hb); clear BK612; clear BK614; clear HB; have BK612 := n0_; have BK614 := n1_; have HB := n2_; clear n0_ n1_ n2_; (try clear hb); (try clear hb2); (try clear hk); (try clear hi)))
                        go_ret
                        exact ⟨by first | rfl | (simp [errW_none, errW_some] <;> rfl) | (simp [*, errW_none, errW_some] <;> rfl), by repeat (first | (with_reducible first | exact HB.out | apply below_alloc | apply pw_below_drewN | apply below_drew1 | refine below_set ?_ GE612.out | refine below_set ?_ GE614.out) | exact HB.out)⟩
                    · replace c47 := Bool.eq_false_iff.mpr c47
                      subst c47
                      have H1 : (some false) = some r := by rw [if_neg (show ¬ (false = true) by decide)] at H; exact H
                      clear H
                      have H := H1
                      clear H1
                      obtain rfl := Option.some.inj H
                      have p613 : 0 ≤ (x23_2 : Int) := of_decide_eq_true (by first | (with_reducible assumption) | assumption)
                      have q613 : x23_2 < (l0_1.length : Int) := of_decide_eq_true (by first | (with_reducible assumption) | assumption)
                      obtain ⟨ad613, e613, hx613_0, hx613_1, hx613_2, hx613_3, hx613_4⟩ := at_T103 HR0_1.out x23_2 p613 q613
                      cases e613
                      replace hx613_0 := (HB.out.cell (World.block_lt_of_cell? w _ hx613_0)).trans hx613_0
                      replace hx613_1 := (HB.out.cell (World.block_lt_of_cell? w _ hx613_1)).trans hx613_1
                      replace hx613_2 := (HB.out.cell (World.block_lt_of_cell? w _ hx613_2)).trans hx613_2
                      replace hx613_3 := (HB.out.cell (World.block_lt_of_cell? w _ hx613_3)).trans hx613_3
                      replace hx613_4 := (HB.out.cell (World.block_lt_of_cell? w _ hx613_4)).trans hx613_4
                      replace p613 := eq_true p613
                      replace q613 := eq_true q613
                      go_wp2_with (first | ((with_reducible refine gate_dst (N := 4) rfl ?_); (try (refine gate_guard (by rfl) ?_; dsimp only)); refine box_event ?hg (N := 4) ?hd (cs := #[.int .i64 0, .int .i64 0, .int .i64 0, .int .i64 0, .int .i64 0]) (t := 103) ?hr ?_; (case hd => rfl); (case hg => rfl); (case hr => first | (go_simp; done) | (go_simp; rfl)); intro gb614 hg w73 hbox hb; have n0_ := Aside0.mk (blk_below (g := gb612) (o := .cells #[.bool false, .slice (some ad613) l0_1.length c0_1] 54 (0, 0)) (by (with_reducible repeat (first | refine blk_drewN ?_ _ | refine blk_drew ?_ | refine blk_alloc ?_ _)); exact BK612.out) hb); have n1_ := Aside0.mk (below_step (by repeat (first | (with_reducible first | exact HB.out | apply below_alloc | apply pw_below_drewN | apply below_drew1 | refine below_set ?_ GE612.out) | exact HB.out)) hb); have n2_ := Aside0.mk (hbox); have n3_ := Aside0.mk ((by rw [hg]; exact (below_size (by repeat (first | (with_reducible first | exact HB.out | apply below_alloc | apply pw_below_drewN | apply below_drew1 | refine below_set ?_ GE612.out) | exact HB.out))) : w.heap.size ≤ gb614)); have n4_ := Aside0.mk ((by rw [hg]; exact (below_size (by repeat (first | (with_reducible first | exact HB.out | apply below_alloc | apply pw_below_drewN | apply below_drew1 | refine below_set ?_ GE612.out) | exact HB.out))) : w.heap.size ≤ gb614)); have n5_ := Aside0.mk ((by rw [hg]; exact Nat.ne_of_lt (blk_lt (g := gb612) (o := .cells #[.bool false, .slice (some ad613) l0_1.length c0_1] 54 (0, 0)) (by (with_reducible repeat (first | refine blk_drewN ?_ _ | refine blk_drew ?_ | refine blk_alloc ?_ _)); exact BK612.out)) : gb612 ≠ gb614)); have n6_ := Aside0.mk ((by rw [hg]; exact Nat.ne_of_gt (blk_lt (g := gb612) (o := .cells #[.bool false, .slice (some ad613) l0_1.length c0_1] 54 (0, 0)) (by (with_reducible repeat (first | refine blk_drewN ?_ _ | refine blk_drew ?_ | refine blk_alloc ?_ _)); exact BK612.out)) : gb614 ≠ gb612)); clear BK612; clear HB; have BK612 := n0_; have HB := n1_; have BK614 := n2_; have GW614 := n3_; have GE614 := n4_; have NB612_614 := n5_; have NB614_612 := n6_; clear n0_ n1_ n2_ n3_ n4_ n5_ n6_; clear hb hbox hg; have hnb74 := NB614_612.out; have hnc74 := NB612_614.out; have hcz75_0 : w73.cell? ⟨gb614, 0, none⟩ = some (.int .i64 0) := (blk_cell BK614.out 0).trans rfl; have hcz75_1 : w73.cell? ⟨gb614, 1, none⟩ = some (.int .i64 0) := (blk_cell BK614.out 1).trans rfl; have hcz75_2 : w73.cell? ⟨gb614, 2, none⟩ = some (.int .i64 0) := (blk_cell BK614.out 2).trans rfl; have hcz75_3 : w73.cell? ⟨gb614, 3, none⟩ = some (.int .i64 0) := (blk_cell BK614.out 3).trans rfl; have hcz75_4 : w73.cell? ⟨gb614, 4, none⟩ = some (.int .i64 0) := (blk_cell BK614.out 4).trans rfl; have hfz75_0 := blk_frozen BK614.out 0; have hfz75_1 := blk_frozen BK614.out 1; have hfz75_2 := blk_frozen BK614.out 2; have hfz75_3 := blk_frozen BK614.out 3; have hfz75_4 := blk_frozen BK614.out 4; have hcz76_0 : w73.cell? ⟨gb612, 0, none⟩ = some (.bool false) := (blk_cell BK612.out 0).trans rfl; have hcz76_1 : w73.cell? ⟨gb612, 1, none⟩ = some (.slice (some ad613) l0_1.length c0_1) := (blk_cell BK612.out 1).trans rfl; have hfz76_0 := blk_frozen BK612.out 0; have hfz76_1 := blk_frozen BK612.out 1) | (go_at_call 88; (with_reducible refine (impl_in.calls ((rd_T103 l0_1 x23_2).f0) 0 47 false _ A46.out).mono ?_); rintro e w' ⟨rfl, ⟨nd, rfl⟩⟩))
                      go_ret
                      exact ⟨by first | rfl | (simp [errW_none, errW_some] <;> rfl) | (simp [*, errW_none, errW_some] <;> rfl), by repeat (first | (with_reducible first | exact HB.out | apply below_alloc | apply pw_below_drewN | apply below_drew1 | refine below_set ?_ GE612.out | refine below_set ?_ GE614.out) | exact HB.out)⟩
                · rw [if_neg c13] at H
                  exact absurd H (by simp)
              · rw [if_neg c12] at H
                exact absurd H (by simp)
            · rw [if_neg c11] at H
              have c11b0 : decide (x23_2 < (l0_1.length : Int)) = false := decide_eq_false c11
              clear c11
              obtain rfl := Option.some.inj H
              go_wp2
              go_ret
              exact ⟨by first | rfl | (simp [errW_none, errW_some] <;> rfl) | (simp [*, errW_none, errW_some] <;> rfl), by repeat (first | (with_reducible first | exact HB.out | apply below_alloc | apply pw_below_drewN | apply below_drew1 | refine below_set ?_ GE612.out) | exact HB.out)⟩

end Go.Proofs.Ytngjaajcdbodeaa.All

namespace Go.Proofs.Ytngjaajcdbodeaa.All
open Go.RowKit Go.Proofs.YtngjaajcdbodeaaW.PrintWords Go.Proofs.YtngjaajcdbodeaaW.PrintLast Go.Proofs.YtngjaajcdbodeaaW.PrintMore
attribute [local go_sem] max2_int min2_int max_two min_two max_three min_three max_four min_four   -- for this text's walks alone
set_option linter.unusedVariables false
set_option linter.unusedSimpArgs false

theorem eqA32 (d : Nat) (w : World) (x0 y0 : Int) (x1 y1 : Int) (x2 y2 : Int) (x3 y3 : Int) :
    (Op.equalIn (d + 2) 32 (.agg #[.int .i64 x0, .int .i64 x1, .int .i64 x2, .int .i64 x3]) (.agg #[.int .i64 y0, .int .i64 y1, .int .i64 y2, .int .i64 y3])).run Try.prog w = .ok (x0 == y0 && (x1 == y1 && (x2 == y2 && (x3 == y3)))) w := by
  refine eqA_of Try.underlying32 (by kernel_rfl) ?_
  refine eqf_cons (by rfl) (by go_simp; rfl) (by go_simp; rfl) (by go_simp) ?_
  refine eqf_cons (by rfl) (by go_simp; rfl) (by go_simp; rfl) (by go_simp) ?_
  refine eqf_cons (by rfl) (by go_simp; rfl) (by go_simp; rfl) (by go_simp) ?_
  exact eqf_last (by rfl) (by go_simp; rfl) (by go_simp; rfl) (by go_simp)
end Go.Proofs.Ytngjaajcdbodeaa.All

namespace Go.Proofs.Ytngjaajcdbodeaa.All
open Go.RowKit Go.Proofs.YtngjaajcdbodeaaW.PrintWords Go.Proofs.YtngjaajcdbodeaaW.PrintLast Go.Proofs.YtngjaajcdbodeaaW.PrintMore
attribute [local go_sem] max2_int min2_int max_two min_two max_three min_three max_four min_four   -- for this text's walks alone
set_option linter.unusedVariables false
set_option linter.unusedSimpArgs false

theorem eqA103 (d : Nat) (w : World) (x0 y0 : Int) (x1 y1 : Int) (x2 y2 : Int) (x3 y3 : Int) (x4 y4 : Int) :
    (Op.equalIn (d + 3) 103 (.agg #[.int .i64 x0, .int .i64 x1, .int .i64 x2, .int .i64 x3, .int .i64 x4]) (.agg #[.int .i64 y0, .int .i64 y1, .int .i64 y2, .int .i64 y3, .int .i64 y4])).run Try.prog w = .ok (x0 == y0 && ((x1 == y1 && (x2 == y2 && (x3 == y3 && (x4 == y4)))))) w := by
  refine eqA_of Try.underlying103 (by kernel_rfl) ?_
  refine eqf_cons (by rfl) (by go_simp; rfl) (by go_simp; rfl) (by go_simp) ?_
  exact eqf_last (by rfl) (by go_simp) (by go_simp) (eqA32 (d + 0) w _ _ _ _ _ _ _ _)
end Go.Proofs.Ytngjaajcdbodeaa.All

namespace Go.Proofs.Ytngjaajcdbodeaa.All
open Go.RowKit Go.Proofs.YtngjaajcdbodeaaW.PrintWords Go.Proofs.YtngjaajcdbodeaaW.PrintLast Go.Proofs.YtngjaajcdbodeaaW.PrintMore
attribute [local go_sem] max2_int min2_int max_two min_two max_three min_three max_four min_four   -- for this text's walks alone
set_option linter.unusedVariables false
set_option linter.unusedSimpArgs false

attribute [local go_sem high] eqA103
/-! ### slices_Equal_Entry: function 126 -/
def slices_Equal_Entry.l0 : Nat → List (S103) → List (S103) → Int → Int → Option (Bool)
  | 0, _, _, _, _ => none
  | k + 1, x0, x1, x12, x13 => if x13 < x12 then (if 0 ≤ x13 then (if x13 < (x0.length : Int) then (if x13 < (x1.length : Int) then (if (!(((rd_T103 x0 x13).f0) == ((rd_T103 x1 x13).f0)) || ((!(((rd_T103 x0 x13).f1.f0) == ((rd_T103 x1 x13).f1.f0)) || (!(((rd_T103 x0 x13).f1.f1) == ((rd_T103 x1 x13).f1.f1)) || (!(((rd_T103 x0 x13).f1.f2) == ((rd_T103 x1 x13).f1.f2)) || (!(((rd_T103 x0 x13).f1.f3) == ((rd_T103 x1 x13).f1.f3)))))))) = true then (some false) else (slices_Equal_Entry.l0 k x0 x1 x12 (wrap64 (x13 + 1)))) else (none)) else (none)) else (none)) else (some true)
def slices_Equal_Entry.f (k : Nat) (l0 : List (S103)) (l1 : List (S103)) : Option (Bool) := if (l0.length : Int) = (l1.length : Int) then (slices_Equal_Entry.l0 k l0 l1 (l0.length : Int) 0) else (some false)
theorem slices_Equal_Entry.mono_l : ∀ k, (∀ y0 y1 y2 y3, LeO (slices_Equal_Entry.l0 k y0 y1 y2 y3) (slices_Equal_Entry.l0 (k + 1) y0 y1 y2 y3))
  | 0 => fun _ _ _ _ r h => by simp [slices_Equal_Entry.l0] at h
  | k + 1 => by
    have ih0 := slices_Equal_Entry.mono_l k
    · intro y0 y1 y2 y3
      unfold slices_Equal_Entry.l0
      repeat' first
      | (with_reducible exact ih0 _ _ _ _)
      | (with_reducible exact LeO.refl _)
      | (with_reducible exact LeO.none _)
      | (with_reducible refine LeO.ite ?_ ?_)
      | (with_reducible refine LeO.bind ?_ (fun _ => ?_))
      | exact ih0 _ _ _ _
      | exact LeO.none _
      | refine LeO.ite ?_ ?_
      | refine LeO.bind ?_ (fun _ => ?_)
theorem slices_Equal_Entry.mono : ∀ a0 a1 k, LeO (slices_Equal_Entry.f k a0 a1) (slices_Equal_Entry.f (k + 1) a0 a1) := by
  intro a0 a1 k
  have ih0 := slices_Equal_Entry.mono_l k
  unfold slices_Equal_Entry.f
  repeat' first
      | (with_reducible exact ih0 _ _ _ _)
      | (with_reducible exact LeO.refl _)
      | (with_reducible exact LeO.none _)
      | (with_reducible refine LeO.ite ?_ ?_)
      | (with_reducible refine LeO.bind ?_ (fun _ => ?_))
      | exact ih0 _ _ _ _
      | exact LeO.none _
      | refine LeO.ite ?_ ?_
      | refine LeO.bind ?_ (fun _ => ?_)
set_option maxHeartbeats 8000000 in
set_option maxRecDepth 100000 in
theorem slices_Equal_Entry.calls (k : Nat) (A0 : Option Addr) (c0 : Nat) (l0 : List (S103)) (A1 : Option Addr) (c1 : Nat) (l1 : List (S103)) (r : Bool) (w : World) (hr0 : Kd.C k103 w A0 l0.length l0) (hc0 : l0.length ≤ c0) (hr1 : Kd.C k103 w A1 l1.length l1) (hc1 : l1.length ≤ c1) (h : slices_Equal_Entry.f k l0 l1 = some r) :
    Calls Try.prog 126 #[.slice A0 l0.length c0, .slice A1 l1.length c1] w fun e w' => e = .returned (.bool r) ∧ Drawn0 w w' := by
  have hu103 := Try.underlying103
  have HR0 := Aside0.mk hr0
  have HC0 := Aside0.mk hc0
  clear hr0 hc0
  have HR1 := Aside0.mk hr1
  have HC1 := Aside0.mk hc1
  clear hr1 hc1
  have H : (if (l0.length : Int) = (l1.length : Int) then (slices_Equal_Entry.l0 k l0 l1 (l0.length : Int) 0) else (some false)) = some r := h
  clear h
  by_cases c3 : (l0.length : Int) = (l1.length : Int)
  · rw [if_pos c3] at H
    have c3b0 : ((l0.length : Int) == (l1.length : Int)) = true := beq_iff_eq.mpr c3
    have c3b1 : ((l0.length : Int) != (l1.length : Int)) = false := bne_eq_false_iff_eq.mpr c3
    have c3b2 : (l0.length == l1.length) = true := by first | simpa using c3 | (simp at c3 ⊢; omega)
    clear c3
    have H' := Aside0.mk H
    clear H
    go_enter Try.func126, Try.ntmps126
    go_wp2
    repeat (go_quiet (fail); try go_wp2)
    go_loopg [13] k (fun kq v13 w' => ∃ (x13_1 : Int), v13 = .int .i64 x13_1 ∧ Aside0 (slices_Equal_Entry.l0 kq l0 l1 (l0.length : Int) x13_1 = some r) ∧ Aside0 (kq ≤ k) ∧ Drawn0 w w')
    case atStart => exact ⟨(0), (by first | rfl | (simp; done) | (simp [*]; done)), H', ⟨Nat.le_refl _⟩, by repeat (first | exact Drawn0.refl _ | apply Drawn0.step)⟩
    case round =>
      clear H'
      try clear c1
      try clear p2
      try clear c3
      try clear c3b0
      try clear c3b1
      try clear c3b2
      obtain ⟨x13_1, rfl, HA, HK1, ⟨m1, rfl⟩⟩ := hrel
      cases gk with
      | zero => exact absurd HA.out (by simp [slices_Equal_Entry.l0])
      | succ k1 =>
        have H := HA.out
        clear HA
        simp only [slices_Equal_Entry.l0] at H
        by_cases c4 : x13_1 < (l0.length : Int)
        · rw [if_pos c4] at H
          have c4b0 : decide (x13_1 < (l0.length : Int)) = true := decide_eq_true c4
          clear c4
          by_cases c5 : 0 ≤ x13_1
          · rw [if_pos c5] at H
            have c5b0 : decide (0 ≤ x13_1) = true := decide_eq_true c5
            clear c5
            by_cases c6 : x13_1 < (l0.length : Int)
            · rw [if_pos c6] at H
              have c6b0 : decide (x13_1 < (l0.length : Int)) = true := decide_eq_true c6
              clear c6
              by_cases c7 : x13_1 < (l1.length : Int)
              · rw [if_pos c7] at H
                have c7b0 : decide (x13_1 < (l1.length : Int)) = true := decide_eq_true c7
                clear c7
                by_cases c8 : (!(((rd_T103 l0 x13_1).f0) == ((rd_T103 l1 x13_1).f0)) || ((!(((rd_T103 l0 x13_1).f1.f0) == ((rd_T103 l1 x13_1).f1.f0)) || (!(((rd_T103 l0 x13_1).f1.f1) == ((rd_T103 l1 x13_1).f1.f1)) || (!(((rd_T103 l0 x13_1).f1.f2) == ((rd_T103 l1 x13_1).f1.f2)) || (!(((rd_T103 l0 x13_1).f1.f3) == ((rd_T103 l1 x13_1).f1.f3)))))))) = true
                · rw [if_pos c8] at H
                  have c8b0 : (!(((rd_T103 l0 x13_1).f0) == ((rd_T103 l1 x13_1).f0)) || ((!(((rd_T103 l0 x13_1).f1.f0) == ((rd_T103 l1 x13_1).f1.f0)) || (!(((rd_T103 l0 x13_1).f1.f1) == ((rd_T103 l1 x13_1).f1.f1)) || (!(((rd_T103 l0 x13_1).f1.f2) == ((rd_T103 l1 x13_1).f1.f2)) || (!(((rd_T103 l0 x13_1).f1.f3) == ((rd_T103 l1 x13_1).f1.f3)))))))) = true := c8
                  clear c8
                  obtain rfl := Option.some.inj H
                  have p621 : 0 ≤ (x13_1 : Int) := of_decide_eq_true (by first | (with_reducible assumption) | assumption)
                  have q621 : x13_1 < (l0.length : Int) := of_decide_eq_true (by first | (with_reducible assumption) | assumption)
                  obtain ⟨ad621, e621, hx621_0, hx621_1, hx621_2, hx621_3, hx621_4⟩ := at_T103 HR0.out x13_1 p621 q621
                  cases e621
                  replace p621 := eq_true p621
                  replace q621 := eq_true q621
                  have p622 : 0 ≤ (x13_1 : Int) := of_decide_eq_true (by first | (with_reducible assumption) | assumption)
                  have q622 : x13_1 < (l1.length : Int) := of_decide_eq_true (by first | (with_reducible assumption) | assumption)
                  obtain ⟨ad622, e622, hx622_0, hx622_1, hx622_2, hx622_3, hx622_4⟩ := at_T103 HR1.out x13_1 p622 q622
                  cases e622
                  replace p622 := eq_true p622
                  replace q622 := eq_true q622
                  go_wp2
                  repeat (go_quiet (fail); try go_wp2)
                  go_ret
                  exact ⟨by first | rfl | (simp; done) | (simp [*]; done), by repeat (first | exact Drawn0.refl _ | apply Drawn0.step)⟩
                · rw [if_neg c8] at H
                  have c8b0 : (!(((rd_T103 l0 x13_1).f0) == ((rd_T103 l1 x13_1).f0)) || ((!(((rd_T103 l0 x13_1).f1.f0) == ((rd_T103 l1 x13_1).f1.f0)) || (!(((rd_T103 l0 x13_1).f1.f1) == ((rd_T103 l1 x13_1).f1.f1)) || (!(((rd_T103 l0 x13_1).f1.f2) == ((rd_T103 l1 x13_1).f1.f2)) || (!(((rd_T103 l0 x13_1).f1.f3) == ((rd_T103 l1 x13_1).f1.f3)))))))) = false := by simpa using c8
                  clear c8
                  have H' := Aside0.mk H
                  clear H
                  have p621 : 0 ≤ (x13_1 : Int) := of_decide_eq_true (by first | (with_reducible assumption) | assumption)
                  have q621 : x13_1 < (l0.length : Int) := of_decide_eq_true (by first | (with_reducible assumption) | assumption)
                  obtain ⟨ad621, e621, hx621_0, hx621_1, hx621_2, hx621_3, hx621_4⟩ := at_T103 HR0.out x13_1 p621 q621
                  cases e621
                  replace p621 := eq_true p621
                  replace q621 := eq_true q621
                  have p622 : 0 ≤ (x13_1 : Int) := of_decide_eq_true (by first | (with_reducible assumption) | assumption)
                  have q622 : x13_1 < (l1.length : Int) := of_decide_eq_true (by first | (with_reducible assumption) | assumption)
                  obtain ⟨ad622, e622, hx622_0, hx622_1, hx622_2, hx622_3, hx622_4⟩ := at_T103 HR1.out x13_1 p622 q622
                  cases e622
                  replace p622 := eq_true p622
                  replace q622 := eq_true q622
                  go_wp2
                  repeat (go_quiet (fail); try go_wp2)
                  go_roundg k1
                  case measure => have := HK1.out; omega
                  case rel => exact ⟨(wrap64 (x13_1 + 1)), (by first | rfl | (simp; done) | (simp [*]; done)), H', ⟨by have := HK1.out; omega⟩, by repeat (first | exact Drawn0.refl _ | apply Drawn0.step)⟩
              · rw [if_neg c7] at H
                exact absurd H (by simp)
            · rw [if_neg c6] at H
              exact absurd H (by simp)
          · rw [if_neg c5] at H
            exact absurd H (by simp)
        · rw [if_neg c4] at H
          have c4b0 : decide (x13_1 < (l0.length : Int)) = false := decide_eq_false c4
          clear c4
          obtain rfl := Option.some.inj H
          go_wp2
          repeat (go_quiet (fail); try go_wp2)
          go_ret
          exact ⟨by first | rfl | (simp; done) | (simp [*]; done), by repeat (first | exact Drawn0.refl _ | apply Drawn0.step)⟩
  · rw [if_neg c3] at H
    have c3b0 : ((l0.length : Int) == (l1.length : Int)) = false := beq_eq_false_iff_ne.mpr c3
    have c3b1 : ((l0.length : Int) != (l1.length : Int)) = true := bne_iff_ne.mpr c3
    have c3b2 : (l0.length == l1.length) = false := by first | simpa using c3 | (simp at c3 ⊢; omega)
    obtain rfl := Option.some.inj H
    go_enter Try.func126, Try.ntmps126
    go_wp2
    repeat (go_quiet (fail); try go_wp2)
    go_ret
    exact ⟨by first | rfl | (simp; done) | (simp [*]; done), by repeat (first | exact Drawn0.refl _ | apply Drawn0.step)⟩

end Go.Proofs.Ytngjaajcdbodeaa.All

namespace Go.Proofs.Ytngjaajcdbodeaa.All
open Go.RowKit Go.Proofs.YtngjaajcdbodeaaW.PrintWords Go.Proofs.YtngjaajcdbodeaaW.PrintLast Go.Proofs.YtngjaajcdbodeaaW.PrintMore
attribute [local go_sem] max2_int min2_int max_two min_two max_three min_three max_four min_four   -- for this text's walks alone
set_option linter.unusedVariables false
set_option linter.unusedSimpArgs false

/-! ### impl_SameNode: function 91 -/
def impl_SameNode.f (k : Nat) (a0_0 : Bool) (l0_1 : List (S103)) (a1_0 : Bool) (l1_1 : List (S103)) : Option (Bool) := if (a0_0 == a1_0) = true then ((slices_Equal_Entry.f k l0_1 l1_1).bind fun t625 => (some t625)) else (some false)
theorem impl_SameNode.mono : ∀ a0 a1 a2 a3 k, LeO (impl_SameNode.f k a0 a1 a2 a3) (impl_SameNode.f (k + 1) a0 a1 a2 a3) := by
  intro a0 a1 a2 a3 k
  unfold impl_SameNode.f
  repeat' first
      | (with_reducible exact slices_Equal_Entry.mono _ _ _)
      | (with_reducible exact LeO.refl _)
      | (with_reducible exact LeO.none _)
      | (with_reducible refine LeO.ite ?_ ?_)
      | (with_reducible refine LeO.bind ?_ (fun _ => ?_))
      | exact slices_Equal_Entry.mono _ _ _
      | exact LeO.none _
      | refine LeO.ite ?_ ?_
      | refine LeO.bind ?_ (fun _ => ?_)
set_option maxHeartbeats 8000000 in
set_option maxRecDepth 100000 in
theorem impl_SameNode.calls (k : Nat) (a0_0 : Bool) (A0_1 : Option Addr) (c0_1 : Nat) (l0_1 : List (S103)) (a1_0 : Bool) (A1_1 : Option Addr) (c1_1 : Nat) (l1_1 : List (S103)) (r : Bool) (w : World) (hr0_1 : Kd.C k103 w A0_1 l0_1.length l0_1) (hc0_1 : l0_1.length ≤ c0_1) (hr1_1 : Kd.C k103 w A1_1 l1_1.length l1_1) (hc1_1 : l1_1.length ≤ c1_1) (h : impl_SameNode.f k a0_0 l0_1 a1_0 l1_1 = some r) :
    Calls Try.prog 91 #[.agg #[.bool a0_0, .slice A0_1 l0_1.length c0_1], .agg #[.bool a1_0, .slice A1_1 l1_1.length c1_1]] w fun e w' => e = .returned (.bool r) ∧ Below w.heap.size w w' := by
  have hu54 := Try.underlying54
  have HR0_1 := Aside0.mk hr0_1
  have HC0_1 := Aside0.mk hc0_1
  clear hr0_1 hc0_1
  have HR1_1 := Aside0.mk hr1_1
  have HC1_1 := Aside0.mk hc1_1
  clear hr1_1 hc1_1
  have HB := Aside0.mk (Below.refl w.heap.size w)
  have H : (if (a0_0 == a1_0) = true then ((slices_Equal_Entry.f k l0_1 l1_1).bind fun t625 => (some t625)) else (some false)) = some r := h
  clear h
  by_cases c3 : (a0_0 == a1_0) = true
  · rw [if_pos c3] at H
    have c3b0 : (a0_0 == a1_0) = true := c3
    (try (have c3b1 : decide (a0_0 = a1_0) = true := by simpa using c3))
    (try (have c3b2 : (a0_0 == a1_0) = true := by simpa using c3))
    clear c3
    replace H := Option.bind_eq_some_iff.mp H
    obtain ⟨t625, A40, H⟩ := H
    replace H : (some t625) = some r := H
    have A4 := Aside0.mk A40
    clear A40
    obtain rfl := Option.some.inj H
    go_enter Try.func91, Try.ntmps91
    go_wp2_with (first | ((with_reducible refine gate_dst (N := 2) rfl ?_); refine box_event ?hg (N := 2) ?hd (cs := #[.bool a0_0, .slice A0_1 l0_1.length c0_1]) (t := 54) ?hr ?_; (case hd => rfl); (case hg => rfl); (case hr => first | (go_simp; done) | (go_simp; rfl)); intro gb623 hg w5 hbox hb; have n0_ := Aside0.mk (below_step (by repeat (first | (with_reducible first | exact HB.out | apply below_alloc | apply pw_below_drewN | apply below_drew1) | exact HB.out)) hb); have n1_ := Aside0.mk (hbox); have n2_ := Aside0.mk ((by rw [hg]; exact (below_size (by repeat (first | (with_reducible first | exact HB.out | apply below_alloc | apply pw_below_drewN | apply below_drew1) | exact HB.out))) : w.heap.size ≤ gb623)); have n3_ := Aside0.mk ((by rw [hg]; exact (below_size (by repeat (first | (with_reducible first | exact HB.out | apply below_alloc | apply pw_below_drewN | apply below_drew1) | exact HB.out))) : w.heap.size ≤ gb623)); clear HB; have HB := n0_; have BK623 := n1_; have GW623 := n2_; have GE623 := n3_; clear n0_ n1_ n2_ n3_; clear hb hbox hg) | ((with_reducible refine gate_dst (N := 3) rfl ?_); refine box_event ?hg (N := 3) ?hd (cs := #[.bool a1_0, .slice A1_1 l1_1.length c1_1]) (t := 54) ?hr ?_; (case hd => rfl); (case hg => rfl); (case hr => first | (go_simp; done) | (go_simp; rfl)); intro gb624 hg w6 hbox hb; have n0_ := Aside0.mk (blk_below (g := gb623) (o := .cells #[.bool a0_0, .slice A0_1 l0_1.length c0_1] 54 (0, 0)) (by (with_reducible repeat (first | refine blk_drewN ?_ _ | refine blk_drew ?_ | refine blk_alloc ?_ _)); exact BK623.out) hb); have n1_ := Aside0.mk (below_step (by repeat (first | (with_reducible first | exact HB.out | apply below_alloc | apply pw_below_drewN | apply below_drew1 | refine below_set ?_ GE623.out) | exact HB.out)) hb); have n2_ := Aside0.mk (hbox); have n3_ := Aside0.mk ((by rw [hg]; exact (below_size (by repeat (first | (with_reducible first | exact HB.out | apply below_alloc | apply pw_below_drewN | apply below_drew1 | refine below_set ?_ GE623.out) | exact HB.out))) : w.heap.size ≤ gb624)); have n4_ := Aside0.mk ((by rw [hg]; exact (below_size (by repeat (first | (with_reducible first | exact HB.out | apply below_alloc | apply pw_below_drewN | apply below_drew1 | refine below_set ?_ GE623.out) | exact HB.out))) : w.heap.size ≤ gb624)); have n5_ := Aside0.mk ((by rw [hg]; exact Nat.ne_of_lt (blk_lt (g := gb623) (o := .cells #[.bool a0_0, .slice A0_1 l0_1.length c0_1] 54 (0, 0)) (by (with_reducible repeat (first | refine blk_drewN ?_ _ | refine blk_drew ?_ | refine blk_alloc ?_ _)); exact BK623.out)) : gb623 ≠ gb624)); have n6_ := Aside0.mk ((by rw [hg]; exact Nat.ne_of_gt (blk_lt (g := gb623) (o := .cells #[.bool a0_0, .slice A0_1 l0_1.length c0_1] 54 (0, 0)) (by (with_reducible repeat (first | refine blk_drewN ?_ _ | refine blk_drew ?_ | refine blk_alloc ?_ _)); exact BK623.out)) : gb624 ≠ gb623)); clear BK623; clear HB; have BK623 := n0_; have HB := n1_; have BK624 := n2_; have GW624 := n3_; have GE624 := n4_; have NB623_624 := n5_; have NB624_623 := n6_; clear n0_ n1_ n2_ n3_ n4_ n5_ n6_; clear hb hbox hg; have hnb7 := NB623_624.out; have hnc7 := NB624_623.out; have hcz8_0 : w6.cell? ⟨gb623, 0, none⟩ = some (.bool a0_0) := (blk_cell BK623.out 0).trans rfl; have hcz8_1 : w6.cell? ⟨gb623, 1, none⟩ = some (.slice A0_1 l0_1.length c0_1) := (blk_cell BK623.out 1).trans rfl; have hfz8_0 := blk_frozen BK623.out 0; have hfz8_1 := blk_frozen BK623.out 1; have hcz9_0 : w6.cell? ⟨gb624, 0, none⟩ = some (.bool a1_0) := (blk_cell BK624.out 0).trans rfl; have hcz9_1 : w6.cell? ⟨gb624, 1, none⟩ = some (.slice A1_1 l1_1.length c1_1) := (blk_cell BK624.out 1).trans rfl; have hfz9_0 := blk_frozen BK624.out 0; have hfz9_1 := blk_frozen BK624.out 1) | (go_at_call 126; (with_reducible refine (slices_Equal_Entry.calls k _ _ l0_1 _ _ l1_1 t625 _ ?side1 ?side2 ?side3 ?side4 A4.out).mono ?_); (case side1 => repeat (first | exact (Kd.C_below HR0_1.out HB.out) | (with_reducible refine Kd.C_alloc ?_ _) | (with_reducible refine Kd.C_drewN ?_ _) | (with_reducible refine Kd.C_drew ?_))); (case side2 => exact HC0_1.out); (case side3 => repeat (first | exact (Kd.C_below HR1_1.out HB.out) | (with_reducible refine Kd.C_alloc ?_ _) | (with_reducible refine Kd.C_drewN ?_ _) | (with_reducible refine Kd.C_drew ?_))); (case side4 => exact HC1_1.out); rintro e w' ⟨rfl, ⟨nd, rfl⟩⟩))
    go_ret
    exact ⟨by first | rfl | (simp [errW_none, errW_some] <;> rfl) | (simp [*, errW_none, errW_some] <;> rfl), by repeat (first | (with_reducible first | exact HB.out | apply below_alloc | apply pw_below_drewN | apply below_drew1 | refine below_set ?_ GE623.out | refine below_set ?_ GE624.out) | exact HB.out)⟩
  · rw [if_neg c3] at H
    have c3b0 : (a0_0 == a1_0) = false := by simpa using c3
    (try (have c3b1 : decide (a0_0 = a1_0) = false := by simpa using c3))
    (try (have c3b2 : (a0_0 == a1_0) = false := by simpa using c3))
    (try (have c3b3 : ¬ (a0_0 = a1_0) := by simpa using c3))
    clear c3
    obtain rfl := Option.some.inj H
    go_enter Try.func91, Try.ntmps91
    go_wp2_with (first | ((with_reducible refine gate_dst (N := 2) rfl ?_); refine box_event ?hg (N := 2) ?hd (cs := #[.bool a0_0, .slice A0_1 l0_1.length c0_1]) (t := 54) ?hr ?_; (case hd => rfl); (case hg => rfl); (case hr => first | (go_simp; done) | (go_simp; rfl)); intro gb623 hg w10 hbox hb; have n0_ := Aside0.mk (below_step (by repeat (first | (with_reducible first | exact HB.out | apply below_alloc | apply pw_below_drewN | apply below_drew1) | exact HB.out)) hb); have n1_ := Aside0.mk (hbox); have n2_ := Aside0.mk ((by rw [hg]; exact (below_size (by repeat (first | (with_reducible first | exact HB.out | apply below_alloc | apply pw_below_drewN | apply below_drew1) | exact HB.out))) : w.heap.size ≤ gb623)); have n3_ := Aside0.mk ((by rw [hg]; exact (below_size (by repeat (first | (with_reducible first | exact HB.out | apply below_alloc | apply pw_below_drewN | apply below_drew1) | exact HB.out))) : w.heap.size ≤ gb623)); clear HB; have HB := n0_; have BK623 := n1_; have GW623 := n2_; have GE623 := n3_; clear n0_ n1_ n2_ n3_; clear hb hbox hg) | ((with_reducible refine gate_dst (N := 3) rfl ?_); refine box_event ?hg (N := 3) ?hd (cs := #[.bool a1_0, .slice A1_1 l1_1.length c1_1]) (t := 54) ?hr ?_; (case hd => rfl); (case hg => rfl); (case hr => first | (go_simp; done) | (go_simp; rfl)); intro gb624 hg w11 hbox hb; have n0_ := Aside0.mk (blk_below (g := gb623) (o := .cells #[.bool a0_0, .slice A0_1 l0_1.length c0_1] 54 (0, 0)) (by (with_reducible repeat (first | refine blk_drewN ?_ _ | refine blk_drew ?_ | refine blk_alloc ?_ _)); exact BK623.out) hb); have n1_ := Aside0.mk (below_step (by repeat (first | (with_reducible first | exact HB.out | apply below_alloc | apply pw_below_drewN | apply below_drew1 | refine below_set ?_ GE623.out) | exact HB.out)) hb); have n2_ := Aside0.mk (hbox); have n3_ := Aside0.mk ((by rw [hg]; exact (below_size (by repeat (first | (with_reducible first | exact HB.out | apply below_alloc | apply pw_below_drewN | apply below_drew1 | refine below_set ?_ GE623.out) | exact HB.out))) : w.heap.size ≤ gb624)); have n4_ := Aside0.mk ((by rw [hg]; exact (below_size (by repeat (first | (with_reducible first | exact HB.out | apply below_alloc | apply pw_below_drewN | apply below_drew1 | refine below_set ?_ GE623.out) | exact HB.out))) : w.heap.size ≤ gb624)); have n5_ := Aside0.mk ((by rw [hg]; exact Nat.ne_of_lt (blk_lt (g := gb623) (o := .cells #[.bool a0_0, .slice A0_1 l0_1.length c0_1] 54 (0, 0)) (by (with_reducible repeat (first | refine blk_drewN ?_ _ | refine blk_drew ?_ | refine blk_alloc ?_ _)); exact BK623.out)) : gb623 ≠ gb624)); have n6_ := Aside0.mk ((by rw [hg]; exact Nat.ne_of_gt (blk_lt (g := gb623) (o := .cells #[.bool a0_0, .slice A0_1 l0_1.length c0_1] 54 (0, 0)) (by (with_reducible repeat (first | refine blk_drewN ?_ _ | refine blk_drew ?_ | refine blk_alloc ?_ _)); exact BK623.out)) : gb624 ≠ gb623)); clear BK623; clear HB; have BK623 := n0_; have HB := n1_; have BK624 := n2_; have GW624 := n3_; have GE624 := n4_; have NB623_624 := n5_; have NB624_623 := n6_; clear n0_ n1_ n2_ n3_ n4_ n5_ n6_; clear hb hbox hg; have hnb12 := NB623_624.out; have hnc12 := NB624_623.out; have hcz13_0 : w11.cell? ⟨gb623, 0, none⟩ = some (.bool a0_0) := (blk_cell BK623.out 0).trans rfl; have hcz13_1 : w11.cell? ⟨gb623, 1, none⟩ = some (.slice A0_1 l0_1.length c0_1) := (blk_cell BK623.out 1).trans rfl; have hfz13_0 := blk_frozen BK623.out 0; have hfz13_1 := blk_frozen BK623.out 1; have hcz14_0 : w11.cell? ⟨gb624, 0, none⟩ = some (.bool a1_0) := (blk_cell BK624.out 0).trans rfl; have hcz14_1 : w11.cell? ⟨gb624, 1, none⟩ = some (.slice A1_1 l1_1.length c1_1) := (blk_cell BK624.out 1).trans rfl; have hfz14_0 := blk_frozen BK624.out 0; have hfz14_1 := blk_frozen BK624.out 1))
    go_ret
    exact ⟨by first | rfl | (simp [errW_none, errW_some] <;> rfl) | (simp [*, errW_none, errW_some] <;> rfl), by repeat (first | (with_reducible first | exact HB.out | apply below_alloc | apply pw_below_drewN | apply below_drew1 | refine below_set ?_ GE623.out | refine below_set ?_ GE624.out) | exact HB.out)⟩

end Go.Proofs.Ytngjaajcdbodeaa.All

namespace Go.Proofs.Ytngjaajcdbodeaa.All
open Go.RowKit Go.Proofs.YtngjaajcdbodeaaW.PrintWords Go.Proofs.YtngjaajcdbodeaaW.PrintLast Go.Proofs.YtngjaajcdbodeaaW.PrintMore
attribute [local go_sem] max2_int min2_int max_two min_two max_three min_three max_four min_four   -- for this text's walks alone
set_option linter.unusedVariables false
set_option linter.unusedSimpArgs false

/-! ### impl_Reach: function 92 -/
def impl_Reach.f (k : Nat) (a0_0 : Int) (l0_1 : List (S90)) : Option (List Int) := (impl_reachFrom.f k a0_0 l0_1 a0_0).bind fun t627 => (some t627)
theorem impl_Reach.mono : ∀ a0 a1 k, LeO (impl_Reach.f k a0 a1) (impl_Reach.f (k + 1) a0 a1) := by
  intro a0 a1 k
  unfold impl_Reach.f
  repeat' first
      | (with_reducible exact impl_reachFrom.mono _ _ _ _)
      | (with_reducible exact LeO.refl _)
      | (with_reducible exact LeO.none _)
      | (with_reducible refine LeO.ite ?_ ?_)
      | (with_reducible refine LeO.bind ?_ (fun _ => ?_))
      | exact impl_reachFrom.mono _ _ _ _
      | exact LeO.none _
      | refine LeO.ite ?_ ?_
      | refine LeO.bind ?_ (fun _ => ?_)
set_option maxHeartbeats 8000000 in
set_option maxRecDepth 100000 in
theorem impl_Reach.calls (k : Nat) (a0_0 : Int) (A0_1 : Option Addr) (c0_1 : Nat) (l0_1 : List (S90)) (r : List Int) (w : World) (hr0_1 : Kd.C k90 w A0_1 l0_1.length l0_1) (hc0_1 : l0_1.length ≤ c0_1) (h : impl_Reach.f k a0_0 l0_1 = some r) :
    Calls Try.prog 92 #[.agg #[.int .i64 a0_0, .slice A0_1 l0_1.length c0_1]] w fun e w' => ∃ v0_ : Value, e = .returned (v0_) ∧ Kd.R (Kd.int .i64) 3 w' w.heap.size (fun _ => True) v0_ r ∧ Below w.heap.size w w' := by
  have hu49 := Try.underlying49
  have HR0_1 := Aside0.mk hr0_1
  have HC0_1 := Aside0.mk hc0_1
  clear hr0_1 hc0_1
  have HB := Aside0.mk (Below.refl w.heap.size w)
  have H : ((impl_reachFrom.f k a0_0 l0_1 a0_0).bind fun t627 => (some t627)) = some r := h
  clear h
  replace H := Option.bind_eq_some_iff.mp H
  obtain ⟨t627, A20, H⟩ := H
  replace H : (some t627) = some r := H
  have A2 := Aside0.mk A20
  clear A20
  obtain rfl := Option.some.inj H
  go_enter Try.func92, Try.ntmps92
  go_wp2_with (first | ((with_reducible refine gate_dst (N := 1) rfl ?_); refine box_event ?hg (N := 1) ?hd (cs := #[.int .i64 a0_0, .slice A0_1 l0_1.length c0_1]) (t := 49) ?hr ?_; (case hd => rfl); (case hg => rfl); (case hr => first | (go_simp; done) | (go_simp; rfl)); intro gb626 hg w3 hbox hb; have n0_ := Aside0.mk (below_step (by repeat (first | (with_reducible first | exact HB.out | apply below_alloc | apply pw_below_drewN | apply below_drew1) | exact HB.out)) hb); have n1_ := Aside0.mk (hbox); have n2_ := Aside0.mk ((by rw [hg]; exact (below_size (by repeat (first | (with_reducible first | exact HB.out | apply below_alloc | apply pw_below_drewN | apply below_drew1) | exact HB.out))) : w.heap.size ≤ gb626)); have n3_ := Aside0.mk ((by rw [hg]; exact (below_size (by repeat (first | (with_reducible first | exact HB.out | apply below_alloc | apply pw_below_drewN | apply below_drew1) | exact HB.out))) : w.heap.size ≤ gb626)); clear HB; have HB := n0_; have BK626 := n1_; have GW626 := n2_; have GE626 := n3_; clear n0_ n1_ n2_ n3_; clear hb hbox hg; have hcz4_0 : w3.cell? ⟨gb626, 0, none⟩ = some (.int .i64 a0_0) := (blk_cell BK626.out 0).trans rfl; have hcz4_1 : w3.cell? ⟨gb626, 1, none⟩ = some (.slice A0_1 l0_1.length c0_1) := (blk_cell BK626.out 1).trans rfl; have hfz4_0 := blk_frozen BK626.out 0; have hfz4_1 := blk_frozen BK626.out 1) | ((with_reducible refine gate_callee (f := 127) rfl ?_); refine goesL_ (some 6) rfl rfl Try.func127 (by kernel_rfl) rfl #[.agg #[.int .i64 a0_0, .slice A0_1 l0_1.length c0_1], .int .i64 a0_0] rfl (by (try simp only [List.map_toArray, List.map_cons, List.map_nil]); first | done | rfl | (simp only [List.length_drop, List.length_take]; rfl)) ?_; (with_reducible refine (impl_reachFrom.calls k a0_0 _ _ l0_1 a0_0 t627 _ ?side1 ?side2 A2.out).mono ?_); (case side1 => repeat (first | exact (Kd.C_below HR0_1.out HB.out) | (with_reducible refine Kd.C_alloc ?_ _) | (with_reducible refine Kd.C_drewN ?_ _) | (with_reducible refine Kd.C_drew ?_))); (case side2 => exact HC0_1.out); rintro e w5 ⟨v628, rfl, ho0, hb⟩; refine ⟨_, rfl, ?_⟩; have n0_ := Aside0.mk (Kd.R_lower ho0 (below_size (by repeat (first | (with_reducible first | exact HB.out | apply below_alloc | apply pw_below_drewN | apply below_drew1 | refine below_set ?_ GE626.out) | exact HB.out)))); have n1_ := Aside0.mk (blk_below (g := gb626) (o := .cells #[.int .i64 a0_0, .slice A0_1 l0_1.length c0_1] 49 (0, 0)) (by (with_reducible repeat (first | refine blk_drewN ?_ _ | refine blk_drew ?_ | refine blk_alloc ?_ _)); exact BK626.out) hb); have n2_ := Aside0.mk (below_step (by repeat (first | (with_reducible first | exact HB.out | apply below_alloc | apply pw_below_drewN | apply below_drew1 | refine below_set ?_ GE626.out) | exact HB.out)) hb); clear BK626; clear HB; have HO629 := n0_; have BK626 := n1_; have HB := n2_; clear n0_ n1_ n2_; (try clear hb); (try clear hb2); (try clear hk); (try clear hi); (try clear ho0)))
  go_ret
  exact ⟨_, by first | rfl | (simp [errW_none, errW_some] <;> rfl) | (simp [*, errW_none, errW_some] <;> rfl), by (with_reducible repeat (first | apply Kd.R_alloc | apply Kd.R_drewN | apply Kd.R_drew)); exact HO629.out, by repeat (first | (with_reducible first | exact HB.out | apply below_alloc | apply pw_below_drewN | apply below_drew1 | refine below_set ?_ GE626.out) | exact HB.out)⟩

end Go.Proofs.Ytngjaajcdbodeaa.All

/- The program's BookOk comes to a plain test over the pages and over the pages that are reached. No condition. -/
namespace Go.Proofs.Ytngjaajcdbodeaa.All
open Go.RowKit Go.Proofs.YtngjaajcdbodeaaW.PrintWords Go.Proofs.YtngjaajcdbodeaaW.PrintLast Go.Proofs.YtngjaajcdbodeaaW.PrintMore
set_option linter.unusedVariables false
set_option linter.unusedSimpArgs false


/-! ### impl_BookOk: by hand -/
/-- The pages, from x on, each by itself. -/
def bokP : Nat → List S90 → Int → Option Bool
  | 0, _, _ => none
  | k + 1, ps, x => if x < (ps.length : Int) then (if 0 ≤ x then (if (rd_T90 ps x).f0 = true then ((impl_NodeOk.f k (rd_T90 ps x).f1.f0 (rd_T90 ps x).f1.f1).bind fun t => if t = true then bokP k ps (wrap64 (x + 1)) else some false) else ((impl_SameNode.f k (rd_T90 ps x).f1.f0 (rd_T90 ps x).f1.f1 false []).bind fun t => if t = true then bokP k ps (wrap64 (x + 1)) else some false)) else none) else some true
/-- A page's entries, from y on, behind those that were told; none inside: told twice, or not there. -/
def bokE : Nat → List S90 → List S103 → List Int → Int → Option (Option (List Int))
  | 0, _, _, _, _ => none
  | k + 1, ps, es, told, y => if y < (es.length : Int) then (if 0 ≤ y then (if told.length < 17592186044415 then (if pgOk ps (rd_T103 es y).f0 then (if (rd_T103 es y).f0 ∈ told then some none else bokE k ps es (told ++ [(rd_T103 es y).f0]) (wrap64 (y + 1))) else some none) else none) else none) else some (some told)
/-- The pages that are reached, from x on. -/
def bokR : Nat → List S90 → List Int → List Int → Int → Option Bool
  | 0, _, _, _, _ => none
  | k + 1, ps, r, told, x => if x < (r.length : Int) then (if 0 ≤ x then (if 0 ≤ rd r x then (if rd r x < (ps.length : Int) then (if (rd_T90 ps (rd r x)).f1.f0 = true then bokR k ps r told (wrap64 (x + 1)) else ((bokE k ps (rd_T90 ps (rd r x)).f1.f1 told 0).bind fun o => match o with | none => some false | some t => bokR k ps r t (wrap64 (x + 1)))) else none) else none) else none) else some true
def impl_BookOk.f (k : Nat) (a0_0 : Int) (l0_1 : List S90) : Option Bool := if 1 ≤ (l0_1.length : Int) ∧ (l0_1.length : Int) ≤ 48 then (if pgOk l0_1 a0_0 then ((bokP k l0_1 0).bind fun b => if b = true then ((impl_Reach.f k a0_0 l0_1).bind fun r => bokR k l0_1 r [a0_0] 0) else some false) else some false) else some false
theorem bokP_mono : ∀ k ps x, LeO (bokP k ps x) (bokP (k + 1) ps x)
  | 0, _, _ => fun r h => by simp [bokP] at h
  | k + 1, ps, x => by
    have ih := bokP_mono k
    rw [bokP, bokP]
    exact LeO.ite (LeO.ite (LeO.ite (LeO.bind (impl_NodeOk.mono _ _ _) (fun _ => LeO.ite (ih _ _) (LeO.refl _))) (LeO.bind (impl_SameNode.mono _ _ _ _ _) (fun _ => LeO.ite (ih _ _) (LeO.refl _)))) (LeO.refl _)) (LeO.refl _)
theorem bokE_mono : ∀ k ps es t y, LeO (bokE k ps es t y) (bokE (k + 1) ps es t y)
  | 0, _, _, _, _ => fun r h => by simp [bokE] at h
  | k + 1, ps, es, t, y => by
    have ih := bokE_mono k
    rw [bokE, bokE]
    exact LeO.ite (LeO.ite (LeO.ite (LeO.ite (LeO.ite (LeO.refl _) (ih _ _ _ _)) (LeO.refl _)) (LeO.refl _)) (LeO.refl _)) (LeO.refl _)
theorem bokR_mono : ∀ k ps r t x, LeO (bokR k ps r t x) (bokR (k + 1) ps r t x)
  | 0, _, _, _, _ => fun r h => by simp [bokR] at h
  | k + 1, ps, r, t, x => by
    have ih := bokR_mono k
    rw [bokR, bokR]
    refine LeO.ite (LeO.ite (LeO.ite (LeO.ite (LeO.ite (ih _ _ _ _) (LeO.bind (bokE_mono _ _ _ _ _) (fun o => ?_))) (LeO.refl _)) (LeO.refl _)) (LeO.refl _)) (LeO.refl _)
    cases o with
    | none => exact LeO.refl _
    | some t => exact ih _ _ _ _
theorem impl_BookOk.mono : ∀ a0 a1 k, LeO (impl_BookOk.f k a0 a1) (impl_BookOk.f (k + 1) a0 a1) := fun a0 a1 k => by
  unfold impl_BookOk.f
  exact LeO.ite (LeO.ite (LeO.bind (bokP_mono _ _ _) (fun _ => LeO.ite (LeO.bind (impl_Reach.mono _ _ _) (fun _ => bokR_mono _ _ _ _ _)) (LeO.refl _))) (LeO.refl _)) (LeO.refl _)
theorem in_f (a b c : Int) : impl_in.f a b c = some (decide (b ≤ a ∧ a ≤ c)) := by
  unfold impl_in.f
  split <;> simp_all
  omega
theorem gate_ins {P : Program} {ops : Array Oper} {rest : List Oper} {o : Oper} {a : Act} {Q : Exit → Act → World → Prop} {W : World} {t : TypeId} {m k v : Operand} (_ho : o.op = .insert t m k v) (h : wpList P ops Q (o :: rest) a W) : wpList P ops Q (o :: rest) a W := h
theorem wpList_insert_own {H : Type} {P : Program} (w : World) {ops : Array Oper} {rest : List Oper} {o : Oper} {a : Act} {Q : Exit → Act → World → Prop}
    (hg : o.guard = none) (m x v : Operand) (t : TypeId) (hop : o.op = Op.insert t m x v)
    (k e : TypeId) (K : Go.Maps.Keyed P k) (ht : P.underlying t = some (.map k e)) (R : Value → Option (DataW H × List MemPlace)) (b n : Nat) (D : DataW H)
    (hm : a.eval m = .map (some b)) (hown : w.ownsMap P k R b n D) (hn : n < maxLen) (key val : Value) (kl : Lit) (hx : a.eval x = key) (hv : a.eval v = val) (hkey : keyOf P k key = some kl)
    (d : DataW H) (ps : List MemPlace) (hval : R val = some (d, ps))
    (hK : ∀ w', w'.ownsMap P k R b (n + 1) (D.put kl d) → w.grownBy w' (some b) → wpList P ops Q rest (a.put o.dst undef) w') :
    wpList P ops Q (o :: rest) a w := by
  refine wpList_plain hg fun K' hK' => ?_
  obtain ⟨w', hrun, r1, r2⟩ := hown.update K ht hn hkey hval
  unfold Oper.wp
  simp [execOp, hop, hm, hx, hv, hrun, Result.andThen]
  exact hK' _ _ (hK w' r1 r2)
theorem wf_page {ps : List S90} {i : Int} (hl : ps.length ≤ 9223372036854775807) (h : pgOk ps i) : (Lit.int .i64 i).wf = true := by
  have h2 := h.1
  have h3 := h.2.1
  unfold Lit.wf
  rw [Bool.and_eq_true, decide_eq_true_eq, decide_eq_true_eq]
  have e1 : IntKind.i64.min = -9223372036854775808 := by decide
  have e2 : IntKind.i64.max = 9223372036854775807 := by decide
  rw [e1, e2]
  omega
theorem R_mapped {α : Type} {d : Kd α} {e base : Nat} {ok : Nat → Prop} {w w' : World} {v : Value} {xs : List α} {bm : Nat} {out : List Int} (h : Kd.R d e w base ok v xs) (hm : MetOk w bm out) (hg : w.grownBy w' (some bm)) : Kd.R d e w' base ok v xs := by
  obtain ⟨es, clock, hmm⟩ := hm.isMap
  refine Kd.R_mono (Kd.R_step (Kd.R_bound h) (fun k hk hlt => hg.block k hlt ?_)) (fun _ hk => hk.1)
  obtain ⟨_, _, _, q, hq, cells, hc⟩ := hk
  exact cells_ne_map hc hmm
theorem blk_mapped {w w' : World} {g bm : Nat} {cs : Array Value} {t : TypeId} {out : List Int} (h : w.heap[g]? = some (.cells cs t (0, 0))) (hm : MetOk w bm out) (hg : w.grownBy w' (some bm)) : w'.heap[g]? = some (.cells cs t (0, 0)) := by
  obtain ⟨es, clock, hmm⟩ := hm.isMap
  exact blk_grown h hg (cells_ne_map h hmm)
theorem below_mapped {w0 w w' : World} {bm : Nat} (h : Below w0.heap.size w0 w) (hg : w.grownBy w' (some bm)) (hb : w0.heap.size ≤ bm) : Below w0.heap.size w0 w' := h.grown hg h.size (fun k hk => by injection hk with hk; rw [← hk]; exact hb)

set_option maxHeartbeats 8000000 in
set_option maxRecDepth 100000 in
theorem impl_BookOk.calls (k : Nat) (a0_0 : Int) (A0_1 : Option Addr) (c0_1 : Nat) (l0_1 : List (S90)) (r : Bool) (w : World) (hr0_1 : Kd.C k90 w A0_1 l0_1.length l0_1) (hc0_1 : l0_1.length ≤ c0_1) (h : impl_BookOk.f k a0_0 l0_1 = some r) :
    Calls Try.prog 42 #[.agg #[.int .i64 a0_0, .slice A0_1 l0_1.length c0_1]] w fun e w' => e = .returned (.bool r) ∧ Below w.heap.size w w' := by
  have HR := Aside0.mk hr0_1
  have HC := Aside0.mk hc0_1
  have HMAX := Aside0.mk (show l0_1.length ≤ 9223372036854775807 from hr0_1.2.1)
  clear hr0_1 hc0_1
  have HB := Aside0.mk (Below.refl w.heap.size w)
  have hu1 := Try.underlying90
  have hu2 := Try.underlying49
  have hu3 := Try.underlying54
  have hu4 := Try.underlying103
  have HIN := Aside0.mk (in_f (l0_1.length : Int) 1 48)
  unfold impl_BookOk.f at h
  by_cases c1 : 1 ≤ (l0_1.length : Int) ∧ (l0_1.length : Int) ≤ 48
  rotate_left
  · rw [if_neg c1] at h
    obtain rfl := Option.some.inj h
    rw [decide_eq_false c1] at HIN
    clear h c1
    go_enter Try.func42, Try.ntmps42
    go_wp2_with (first
      | ((with_reducible refine gate_dst (N := 1) rfl ?_); refine box_event ?hg (N := 1) ?hd (cs := #[.int .i64 a0_0, .slice A0_1 l0_1.length c0_1]) (t := 49) ?hr ?_; (case hd => rfl); (case hg => rfl); (case hr => first | (go_simp; done) | (go_simp; rfl)); intro g1 hg w1 hbox hb; have nHB_ := Aside0.mk (below_step HB.out hb); clear HB; have HB := nHB_; clear nHB_; have BK1 := Aside0.mk hbox; clear hb hg hbox; have hk1_0 : w1.cell? ⟨g1, 0, none⟩ = some (.int .i64 a0_0) := (blk_cell BK1.out 0).trans rfl; have hk1_1 : w1.cell? ⟨g1, 1, none⟩ = some (.slice A0_1 l0_1.length c0_1) := (blk_cell BK1.out 1).trans rfl)
      | ((with_reducible refine gate_dst (N := 13) rfl ?_); refine goesL_ (some 13) rfl rfl Try.func88 (by kernel_rfl) rfl #[.int .i64 (l0_1.length : Int), .int .i64 1, .int .i64 48] rfl (by (try simp only [List.map_toArray, List.map_cons, List.map_nil]); first | done | rfl | (simp only [List.length_drop, List.length_take]; rfl)) ?_; refine (impl_in.calls (l0_1.length : Int) 1 48 false _ HIN.out).mono ?_; rintro e w2 ⟨rfl, hd⟩; refine ⟨_, rfl, ?_⟩; have hb := Drawn0.below hd; clear hd hk1_0 hk1_1; have nHB_ := Aside0.mk (below_step HB.out hb); have nBK1_ := Aside0.mk (blk_below BK1.out hb); clear HB BK1; have HB := nHB_; have BK1 := nBK1_; clear nHB_ nBK1_; clear hb; have hk1_0 : w2.cell? ⟨g1, 0, none⟩ = some (.int .i64 a0_0) := (blk_cell BK1.out 0).trans rfl; have hk1_1 : w2.cell? ⟨g1, 1, none⟩ = some (.slice A0_1 l0_1.length c0_1) := (blk_cell BK1.out 1).trans rfl))
    go_ret
    exact ⟨rfl, HB.out⟩
  rw [if_pos c1] at h
  rw [decide_eq_true c1] at HIN
  have LN48 := Aside0.mk c1.2
  clear c1
  by_cases c2 : pgOk l0_1 a0_0
  rotate_left
  · rw [if_neg c2] at h
    obtain rfl := Option.some.inj h
    have HU := Aside0.mk ((used_f a0_0 l0_1 a0_0).trans (congrArg some (decide_eq_false c2)))
    clear h c2
    go_enter Try.func42, Try.ntmps42
    go_wp2_with (first
      | ((with_reducible refine gate_dst (N := 1) rfl ?_); refine box_event ?hg (N := 1) ?hd (cs := #[.int .i64 a0_0, .slice A0_1 l0_1.length c0_1]) (t := 49) ?hr ?_; (case hd => rfl); (case hg => rfl); (case hr => first | (go_simp; done) | (go_simp; rfl)); intro g1 hg w1 hbox hb; have nHB_ := Aside0.mk (below_step HB.out hb); clear HB; have HB := nHB_; clear nHB_; have BK1 := Aside0.mk hbox; clear hb hg hbox; have hk1_0 : w1.cell? ⟨g1, 0, none⟩ = some (.int .i64 a0_0) := (blk_cell BK1.out 0).trans rfl; have hk1_1 : w1.cell? ⟨g1, 1, none⟩ = some (.slice A0_1 l0_1.length c0_1) := (blk_cell BK1.out 1).trans rfl)
      | ((with_reducible refine gate_dst (N := 13) rfl ?_); refine goesL_ (some 13) rfl rfl Try.func88 (by kernel_rfl) rfl #[.int .i64 (l0_1.length : Int), .int .i64 1, .int .i64 48] rfl (by (try simp only [List.map_toArray, List.map_cons, List.map_nil]); first | done | rfl | (simp only [List.length_drop, List.length_take]; rfl)) ?_; refine (impl_in.calls (l0_1.length : Int) 1 48 true _ HIN.out).mono ?_; rintro e w2 ⟨rfl, hd⟩; refine ⟨_, rfl, ?_⟩; have hb := Drawn0.below hd; clear hd hk1_0 hk1_1; have nHB_ := Aside0.mk (below_step HB.out hb); have nBK1_ := Aside0.mk (blk_below BK1.out hb); clear HB BK1; have HB := nHB_; have BK1 := nBK1_; clear nHB_ nBK1_; clear hb; have hk1_0 : w2.cell? ⟨g1, 0, none⟩ = some (.int .i64 a0_0) := (blk_cell BK1.out 0).trans rfl; have hk1_1 : w2.cell? ⟨g1, 1, none⟩ = some (.slice A0_1 l0_1.length c0_1) := (blk_cell BK1.out 1).trans rfl)
      | ((with_reducible refine gate_dst (N := 19) rfl ?_); (try (refine gate_guard (by rfl) ?_; dsimp only)); refine goesL_ (some 19) rfl rfl Try.func89 (by kernel_rfl) rfl #[.agg #[.int .i64 a0_0, .slice A0_1 l0_1.length c0_1], .int .i64 a0_0] rfl (by (try simp only [List.map_toArray, List.map_cons, List.map_nil]); first | done | rfl | (simp only [List.length_drop, List.length_take]; rfl)) ?_; refine (impl_used.calls a0_0 _ _ l0_1 a0_0 false _ (Kd.C_below HR.out HB.out) HC.out HU.out).mono ?_; rintro e w3 ⟨rfl, hb⟩; refine ⟨_, rfl, ?_⟩; clear hk1_0 hk1_1; have nHB_ := Aside0.mk (below_step HB.out hb); have nBK1_ := Aside0.mk (blk_below BK1.out hb); clear HB BK1; have HB := nHB_; have BK1 := nBK1_; clear nHB_ nBK1_; clear hb; have hk1_0 : w3.cell? ⟨g1, 0, none⟩ = some (.int .i64 a0_0) := (blk_cell BK1.out 0).trans rfl; have hk1_1 : w3.cell? ⟨g1, 1, none⟩ = some (.slice A0_1 l0_1.length c0_1) := (blk_cell BK1.out 1).trans rfl))
    go_ret
    exact ⟨rfl, HB.out⟩
  rw [if_pos c2] at h
  have HU := Aside0.mk ((used_f a0_0 l0_1 a0_0).trans (congrArg some (decide_eq_true c2)))
  have WFR := Aside0.mk (wf_page HMAX.out c2)
  clear c2
  obtain ⟨b, hb0, h⟩ := Option.bind_eq_some_iff.mp h
  have H' := Aside0.mk hb0
  have HREST := Aside0.mk h
  clear h hb0
  go_enter Try.func42, Try.ntmps42
  go_wp2_with (first
    | ((with_reducible refine gate_dst (N := 1) rfl ?_); refine box_event ?hg (N := 1) ?hd (cs := #[.int .i64 a0_0, .slice A0_1 l0_1.length c0_1]) (t := 49) ?hr ?_; (case hd => rfl); (case hg => rfl); (case hr => first | (go_simp; done) | (go_simp; rfl)); intro g1 hg w1 hbox hb; have nHB_ := Aside0.mk (below_step HB.out hb); clear HB; have HB := nHB_; clear nHB_; have BK1 := Aside0.mk hbox; clear hb hg hbox; have hk1_0 : w1.cell? ⟨g1, 0, none⟩ = some (.int .i64 a0_0) := (blk_cell BK1.out 0).trans rfl; have hk1_1 : w1.cell? ⟨g1, 1, none⟩ = some (.slice A0_1 l0_1.length c0_1) := (blk_cell BK1.out 1).trans rfl)
    | ((with_reducible refine gate_dst (N := 13) rfl ?_); refine goesL_ (some 13) rfl rfl Try.func88 (by kernel_rfl) rfl #[.int .i64 (l0_1.length : Int), .int .i64 1, .int .i64 48] rfl (by (try simp only [List.map_toArray, List.map_cons, List.map_nil]); first | done | rfl | (simp only [List.length_drop, List.length_take]; rfl)) ?_; refine (impl_in.calls (l0_1.length : Int) 1 48 true _ HIN.out).mono ?_; rintro e w2 ⟨rfl, hd⟩; refine ⟨_, rfl, ?_⟩; have hb := Drawn0.below hd; clear hd hk1_0 hk1_1; have nHB_ := Aside0.mk (below_step HB.out hb); have nBK1_ := Aside0.mk (blk_below BK1.out hb); clear HB BK1; have HB := nHB_; have BK1 := nBK1_; clear nHB_ nBK1_; clear hb; have hk1_0 : w2.cell? ⟨g1, 0, none⟩ = some (.int .i64 a0_0) := (blk_cell BK1.out 0).trans rfl; have hk1_1 : w2.cell? ⟨g1, 1, none⟩ = some (.slice A0_1 l0_1.length c0_1) := (blk_cell BK1.out 1).trans rfl)
    | ((with_reducible refine gate_dst (N := 19) rfl ?_); (try (refine gate_guard (by rfl) ?_; dsimp only)); refine goesL_ (some 19) rfl rfl Try.func89 (by kernel_rfl) rfl #[.agg #[.int .i64 a0_0, .slice A0_1 l0_1.length c0_1], .int .i64 a0_0] rfl (by (try simp only [List.map_toArray, List.map_cons, List.map_nil]); first | done | rfl | (simp only [List.length_drop, List.length_take]; rfl)) ?_; refine (impl_used.calls a0_0 _ _ l0_1 a0_0 true _ (Kd.C_below HR.out HB.out) HC.out HU.out).mono ?_; rintro e w3 ⟨rfl, hb⟩; refine ⟨_, rfl, ?_⟩; clear hk1_0 hk1_1; have nHB_ := Aside0.mk (below_step HB.out hb); have nBK1_ := Aside0.mk (blk_below BK1.out hb); clear HB BK1; have HB := nHB_; have BK1 := nBK1_; clear nHB_ nBK1_; clear hb; have hk1_0 : w3.cell? ⟨g1, 0, none⟩ = some (.int .i64 a0_0) := (blk_cell BK1.out 0).trans rfl; have hk1_1 : w3.cell? ⟨g1, 1, none⟩ = some (.slice A0_1 l0_1.length c0_1) := (blk_cell BK1.out 1).trans rfl))
  go_loopg [25] k (fun kq v25 w' => ∃ (x : Int), v25 = .int .i64 x ∧ Aside0 (bokP kq l0_1 x = some b) ∧ Aside0 (kq ≤ k) ∧ Aside0 (w'.heap[g1]? = some (.cells #[.int .i64 a0_0, .slice A0_1 l0_1.length c0_1] 49 (0, 0))) ∧ Aside0 (Below w.heap.size w w'))
  case atStart => exact ⟨0, rfl, H', ⟨Nat.le_refl _⟩, BK1, HB⟩
  case round =>
    clear H' BK1 HB hk1_0 hk1_1
    obtain ⟨x, rfl, HA, HK1, BK1, HB⟩ := hrel
    have hk1_0 : wr.cell? ⟨g1, 0, none⟩ = some (.int .i64 a0_0) := (blk_cell BK1.out 0).trans rfl
    have hk1_1 : wr.cell? ⟨g1, 1, none⟩ = some (.slice A0_1 l0_1.length c0_1) := (blk_cell BK1.out 1).trans rfl
    cases gk with
    | zero => exact absurd HA.out (by simp [bokP])
    | succ k1 =>
      have H := HA.out
      clear HA
      rw [bokP] at H
      by_cases c1 : x < (l0_1.length : Int)
      · rw [if_pos c1] at H
        have c1b : decide (x < (l0_1.length : Int)) = true := decide_eq_true c1
        by_cases c2 : 0 ≤ x
        rotate_left
        · rw [if_neg c2] at H
          exact absurd H (by simp)
        rw [if_pos c2] at H
        obtain ⟨ad, A2, c2_, e2, hz0, hz1, hz2, hl2, hC2⟩ := at_T90 HR.out x c2 c1
        subst e2
        replace hz0 := (HB.out.cell (World.block_lt_of_cell? w _ hz0)).trans hz0
        replace hz1 := (HB.out.cell (World.block_lt_of_cell? w _ hz1)).trans hz1
        replace hz2 := (HB.out.cell (World.block_lt_of_cell? w _ hz2)).trans hz2
        have HC2 := Aside0.mk hC2
        have HL2 := Aside0.mk hl2
        clear hC2 hl2
        generalize rd_T90 l0_1 x = pg at H hz0 hz1 hz2 HC2 HL2
        obtain ⟨u, lf, es⟩ := pg
        dsimp only at H hz0 hz1 hz2 HC2 HL2
        cases u with
        | true =>
          rw [if_pos rfl] at H
          obtain ⟨t, hq, H⟩ := Option.bind_eq_some_iff.mp H
          have HQ := Aside0.mk hq
          clear hq
          cases t with
          | true =>
            rw [if_pos rfl] at H
            have H' := Aside0.mk H
            clear H
            go_wp2_with (first
              | ((with_reducible refine gate_dst (N := 4) rfl ?_); refine box_event ?hg (N := 4) ?hd (cs := #[.bool false, .bool false, .slice none 0 0]) (t := 90) ?hr ?_; (case hd => rfl); (case hg => rfl); (case hr => first | (go_simp; done) | (go_simp; rfl)); intro g4 hg w4 hbox hb; have hs4_0 : w4.cell? ⟨g4, 0, none⟩ = some (.bool false) := (blk_cell hbox 0).trans rfl; have hf4_0 := blk_frozen hbox 0; have hs4_1 : w4.cell? ⟨g4, 1, none⟩ = some (.bool false) := (blk_cell hbox 1).trans rfl; have hf4_1 := blk_frozen hbox 1; have hs4_2 : w4.cell? ⟨g4, 2, none⟩ = some (.slice none 0 0) := (blk_cell hbox 2).trans rfl; have hf4_2 := blk_frozen hbox 2; have HG4 := Aside0.mk hg; have HX4 := Aside0.mk hbox; have HW4 := Aside0.mk hb; clear hg hbox hb)
              | ((with_reducible refine gate_store (t := 90) (p := 4) rfl ?_); refine store_event (t := 90) (p := 4) (v := ?vo4truetrue) (w1 := (((w4.setCell ⟨g4, 0, none⟩ (.bool true)).setCell ⟨g4, 1, none⟩ (.bool lf)).setCell ⟨g4, 2, none⟩ (.slice A2 es.length c2_))) ?hg ?ho ?hn ?hr ?_; (case ho => rfl); (case hg => rfl); (case hn => rfl); (case hr => first | (go_simp; done) | (go_simp; rfl)); intro w5 hw; have hb : Below wr.heap.size wr w5 := (by rw [hw]; exact (below_set (below_set (below_set HW4.out (Nat.le_of_eq HG4.out.symm)) (Nat.le_of_eq HG4.out.symm)) (Nat.le_of_eq HG4.out.symm))); have hbox : w5.heap[g4]? = some (.cells #[.bool true, .bool lf, .slice A2 es.length c2_] 90 (0, 0)) := (by rw [hw]; exact (blk_put (cs' := #[.bool true, .bool lf, .slice A2 es.length c2_]) (blk_put (cs' := #[.bool true, .bool lf, .slice none 0 0]) (blk_put (cs' := #[.bool true, .bool false, .slice none 0 0]) HX4.out 0 (.bool true) rfl) 1 (.bool lf) rfl) 2 (.slice A2 es.length c2_) rfl)); clear hw HG4 HX4 HW4 hs4_0 hf4_0 hs4_1 hf4_1 hs4_2 hf4_2; clear hk1_0 hk1_1 hz0 hz1 hz2; have nHB_ := Aside0.mk (below_step HB.out hb); have nBK1_ := Aside0.mk (blk_below BK1.out hb); clear HB BK1; have HB := nHB_; have BK1 := nBK1_; clear nHB_ nBK1_; have BK4 := Aside0.mk hbox; clear hb hbox; have hk1_0 : w5.cell? ⟨g1, 0, none⟩ = some (.int .i64 a0_0) := (blk_cell BK1.out 0).trans rfl; have hk1_1 : w5.cell? ⟨g1, 1, none⟩ = some (.slice (some ad) l0_1.length c0_1) := (blk_cell BK1.out 1).trans rfl; have hk4_0 : w5.cell? ⟨g4, 0, none⟩ = some (.bool true) := (blk_cell BK4.out 0).trans rfl; have hk4_1 : w5.cell? ⟨g4, 1, none⟩ = some (.bool lf) := (blk_cell BK4.out 1).trans rfl; have hk4_2 : w5.cell? ⟨g4, 2, none⟩ = some (.slice A2 es.length c2_) := (blk_cell BK4.out 2).trans rfl)
              | ((with_reducible refine gate_dst (N := 34) rfl ?_); (try (refine gate_guard (by rfl) ?_; dsimp only)); refine goesL_ (some 34) rfl rfl Try.func90 (by kernel_rfl) rfl #[.agg #[.bool lf, .slice A2 es.length c2_]] rfl (by (try simp only [List.map_toArray, List.map_cons, List.map_nil]); first | done | rfl | (simp only [List.length_drop, List.length_take]; rfl)) ?_; refine (impl_NodeOk.calls k1 lf _ _ es true _ (Kd.C_below HC2.out HB.out) HL2.out HQ.out).mono ?_; rintro e w6 ⟨rfl, hb⟩; refine ⟨_, rfl, ?_⟩; clear hk1_0 hk1_1 hk4_0 hk4_1 hk4_2; have nHB_ := Aside0.mk (below_step HB.out hb); have nBK1_ := Aside0.mk (blk_below BK1.out hb); have nBK4_ := Aside0.mk (blk_below BK4.out hb); clear HB BK1 BK4; have HB := nHB_; have BK1 := nBK1_; have BK4 := nBK4_; clear nHB_ nBK1_ nBK4_; clear hb; have hk1_0 : w6.cell? ⟨g1, 0, none⟩ = some (.int .i64 a0_0) := (blk_cell BK1.out 0).trans rfl; have hk1_1 : w6.cell? ⟨g1, 1, none⟩ = some (.slice (some ad) l0_1.length c0_1) := (blk_cell BK1.out 1).trans rfl; have hk4_0 : w6.cell? ⟨g4, 0, none⟩ = some (.bool true) := (blk_cell BK4.out 0).trans rfl; have hk4_1 : w6.cell? ⟨g4, 1, none⟩ = some (.bool lf) := (blk_cell BK4.out 1).trans rfl; have hk4_2 : w6.cell? ⟨g4, 2, none⟩ = some (.slice A2 es.length c2_) := (blk_cell BK4.out 2).trans rfl))
            go_roundg k1
            case measure => have := HK1.out; omega
            case rel => exact ⟨_, rfl, H', ⟨by have := HK1.out; omega⟩, BK1, HB⟩
          | false =>
            rw [if_neg (by decide)] at H
            obtain rfl := Option.some.inj H
            have HREST2 := HREST.out
            rw [if_neg (by decide)] at HREST2
            obtain rfl := Option.some.inj HREST2
            clear HREST2 H
            go_wp2_with (first
              | ((with_reducible refine gate_dst (N := 4) rfl ?_); refine box_event ?hg (N := 4) ?hd (cs := #[.bool false, .bool false, .slice none 0 0]) (t := 90) ?hr ?_; (case hd => rfl); (case hg => rfl); (case hr => first | (go_simp; done) | (go_simp; rfl)); intro g4 hg w4 hbox hb; have hs4_0 : w4.cell? ⟨g4, 0, none⟩ = some (.bool false) := (blk_cell hbox 0).trans rfl; have hf4_0 := blk_frozen hbox 0; have hs4_1 : w4.cell? ⟨g4, 1, none⟩ = some (.bool false) := (blk_cell hbox 1).trans rfl; have hf4_1 := blk_frozen hbox 1; have hs4_2 : w4.cell? ⟨g4, 2, none⟩ = some (.slice none 0 0) := (blk_cell hbox 2).trans rfl; have hf4_2 := blk_frozen hbox 2; have HG4 := Aside0.mk hg; have HX4 := Aside0.mk hbox; have HW4 := Aside0.mk hb; clear hg hbox hb)
              | ((with_reducible refine gate_store (t := 90) (p := 4) rfl ?_); refine store_event (t := 90) (p := 4) (v := ?vo4truefalse) (w1 := (((w4.setCell ⟨g4, 0, none⟩ (.bool true)).setCell ⟨g4, 1, none⟩ (.bool lf)).setCell ⟨g4, 2, none⟩ (.slice A2 es.length c2_))) ?hg ?ho ?hn ?hr ?_; (case ho => rfl); (case hg => rfl); (case hn => rfl); (case hr => first | (go_simp; done) | (go_simp; rfl)); intro w5 hw; have hb : Below wr.heap.size wr w5 := (by rw [hw]; exact (below_set (below_set (below_set HW4.out (Nat.le_of_eq HG4.out.symm)) (Nat.le_of_eq HG4.out.symm)) (Nat.le_of_eq HG4.out.symm))); have hbox : w5.heap[g4]? = some (.cells #[.bool true, .bool lf, .slice A2 es.length c2_] 90 (0, 0)) := (by rw [hw]; exact (blk_put (cs' := #[.bool true, .bool lf, .slice A2 es.length c2_]) (blk_put (cs' := #[.bool true, .bool lf, .slice none 0 0]) (blk_put (cs' := #[.bool true, .bool false, .slice none 0 0]) HX4.out 0 (.bool true) rfl) 1 (.bool lf) rfl) 2 (.slice A2 es.length c2_) rfl)); clear hw HG4 HX4 HW4 hs4_0 hf4_0 hs4_1 hf4_1 hs4_2 hf4_2; clear hk1_0 hk1_1 hz0 hz1 hz2; have nHB_ := Aside0.mk (below_step HB.out hb); have nBK1_ := Aside0.mk (blk_below BK1.out hb); clear HB BK1; have HB := nHB_; have BK1 := nBK1_; clear nHB_ nBK1_; have BK4 := Aside0.mk hbox; clear hb hbox; have hk1_0 : w5.cell? ⟨g1, 0, none⟩ = some (.int .i64 a0_0) := (blk_cell BK1.out 0).trans rfl; have hk1_1 : w5.cell? ⟨g1, 1, none⟩ = some (.slice (some ad) l0_1.length c0_1) := (blk_cell BK1.out 1).trans rfl; have hk4_0 : w5.cell? ⟨g4, 0, none⟩ = some (.bool true) := (blk_cell BK4.out 0).trans rfl; have hk4_1 : w5.cell? ⟨g4, 1, none⟩ = some (.bool lf) := (blk_cell BK4.out 1).trans rfl; have hk4_2 : w5.cell? ⟨g4, 2, none⟩ = some (.slice A2 es.length c2_) := (blk_cell BK4.out 2).trans rfl)
              | ((with_reducible refine gate_dst (N := 34) rfl ?_); (try (refine gate_guard (by rfl) ?_; dsimp only)); refine goesL_ (some 34) rfl rfl Try.func90 (by kernel_rfl) rfl #[.agg #[.bool lf, .slice A2 es.length c2_]] rfl (by (try simp only [List.map_toArray, List.map_cons, List.map_nil]); first | done | rfl | (simp only [List.length_drop, List.length_take]; rfl)) ?_; refine (impl_NodeOk.calls k1 lf _ _ es false _ (Kd.C_below HC2.out HB.out) HL2.out HQ.out).mono ?_; rintro e w6 ⟨rfl, hb⟩; refine ⟨_, rfl, ?_⟩; clear hk1_0 hk1_1 hk4_0 hk4_1 hk4_2; have nHB_ := Aside0.mk (below_step HB.out hb); have nBK1_ := Aside0.mk (blk_below BK1.out hb); have nBK4_ := Aside0.mk (blk_below BK4.out hb); clear HB BK1 BK4; have HB := nHB_; have BK1 := nBK1_; have BK4 := nBK4_; clear nHB_ nBK1_ nBK4_; clear hb; have hk1_0 : w6.cell? ⟨g1, 0, none⟩ = some (.int .i64 a0_0) := (blk_cell BK1.out 0).trans rfl; have hk1_1 : w6.cell? ⟨g1, 1, none⟩ = some (.slice (some ad) l0_1.length c0_1) := (blk_cell BK1.out 1).trans rfl; have hk4_0 : w6.cell? ⟨g4, 0, none⟩ = some (.bool true) := (blk_cell BK4.out 0).trans rfl; have hk4_1 : w6.cell? ⟨g4, 1, none⟩ = some (.bool lf) := (blk_cell BK4.out 1).trans rfl; have hk4_2 : w6.cell? ⟨g4, 2, none⟩ = some (.slice A2 es.length c2_) := (blk_cell BK4.out 2).trans rfl))
            go_ret
            exact ⟨rfl, HB.out⟩
        | false =>
          rw [if_neg (by decide)] at H
          obtain ⟨t, hq, H⟩ := Option.bind_eq_some_iff.mp H
          have HQ := Aside0.mk hq
          clear hq
          cases t with
          | true =>
            rw [if_pos rfl] at H
            have H' := Aside0.mk H
            clear H
            go_wp2_with (first
              | ((with_reducible refine gate_dst (N := 4) rfl ?_); refine box_event ?hg (N := 4) ?hd (cs := #[.bool false, .bool false, .slice none 0 0]) (t := 90) ?hr ?_; (case hd => rfl); (case hg => rfl); (case hr => first | (go_simp; done) | (go_simp; rfl)); intro g4 hg w4 hbox hb; have hs4_0 : w4.cell? ⟨g4, 0, none⟩ = some (.bool false) := (blk_cell hbox 0).trans rfl; have hf4_0 := blk_frozen hbox 0; have hs4_1 : w4.cell? ⟨g4, 1, none⟩ = some (.bool false) := (blk_cell hbox 1).trans rfl; have hf4_1 := blk_frozen hbox 1; have hs4_2 : w4.cell? ⟨g4, 2, none⟩ = some (.slice none 0 0) := (blk_cell hbox 2).trans rfl; have hf4_2 := blk_frozen hbox 2; have HG4 := Aside0.mk hg; have HX4 := Aside0.mk hbox; have HW4 := Aside0.mk hb; clear hg hbox hb)
              | ((with_reducible refine gate_store (t := 90) (p := 4) rfl ?_); refine store_event (t := 90) (p := 4) (v := ?vo4falsetrue) (w1 := (((w4.setCell ⟨g4, 0, none⟩ (.bool false)).setCell ⟨g4, 1, none⟩ (.bool lf)).setCell ⟨g4, 2, none⟩ (.slice A2 es.length c2_))) ?hg ?ho ?hn ?hr ?_; (case ho => rfl); (case hg => rfl); (case hn => rfl); (case hr => first | (go_simp; done) | (go_simp; rfl)); intro w5 hw; have hb : Below wr.heap.size wr w5 := (by rw [hw]; exact (below_set (below_set (below_set HW4.out (Nat.le_of_eq HG4.out.symm)) (Nat.le_of_eq HG4.out.symm)) (Nat.le_of_eq HG4.out.symm))); have hbox : w5.heap[g4]? = some (.cells #[.bool false, .bool lf, .slice A2 es.length c2_] 90 (0, 0)) := (by rw [hw]; exact (blk_put (cs' := #[.bool false, .bool lf, .slice A2 es.length c2_]) (blk_put (cs' := #[.bool false, .bool lf, .slice none 0 0]) (blk_put (cs' := #[.bool false, .bool false, .slice none 0 0]) HX4.out 0 (.bool false) rfl) 1 (.bool lf) rfl) 2 (.slice A2 es.length c2_) rfl)); clear hw HG4 HX4 HW4 hs4_0 hf4_0 hs4_1 hf4_1 hs4_2 hf4_2; clear hk1_0 hk1_1 hz0 hz1 hz2; have nHB_ := Aside0.mk (below_step HB.out hb); have nBK1_ := Aside0.mk (blk_below BK1.out hb); clear HB BK1; have HB := nHB_; have BK1 := nBK1_; clear nHB_ nBK1_; have BK4 := Aside0.mk hbox; clear hb hbox; have hk1_0 : w5.cell? ⟨g1, 0, none⟩ = some (.int .i64 a0_0) := (blk_cell BK1.out 0).trans rfl; have hk1_1 : w5.cell? ⟨g1, 1, none⟩ = some (.slice (some ad) l0_1.length c0_1) := (blk_cell BK1.out 1).trans rfl; have hk4_0 : w5.cell? ⟨g4, 0, none⟩ = some (.bool false) := (blk_cell BK4.out 0).trans rfl; have hk4_1 : w5.cell? ⟨g4, 1, none⟩ = some (.bool lf) := (blk_cell BK4.out 1).trans rfl; have hk4_2 : w5.cell? ⟨g4, 2, none⟩ = some (.slice A2 es.length c2_) := (blk_cell BK4.out 2).trans rfl)
              | ((with_reducible refine gate_dst (N := 45) rfl ?_); (try (refine gate_guard (by rfl) ?_; dsimp only)); refine goesL_ (some 45) rfl rfl Try.func91 (by kernel_rfl) rfl #[.agg #[.bool lf, .slice A2 es.length c2_], .agg #[.bool false, .slice none 0 0]] rfl (by (try simp only [List.map_toArray, List.map_cons, List.map_nil]); first | done | rfl | (simp only [List.length_drop, List.length_take]; rfl)) ?_; refine (impl_SameNode.calls k1 lf _ _ es false _ _ [] true _ (Kd.C_below HC2.out HB.out) HL2.out (Kd.C_nil _ _) (Nat.le_refl _) HQ.out).mono ?_; rintro e w6 ⟨rfl, hb⟩; refine ⟨_, rfl, ?_⟩; clear hk1_0 hk1_1 hk4_0 hk4_1 hk4_2; have nHB_ := Aside0.mk (below_step HB.out hb); have nBK1_ := Aside0.mk (blk_below BK1.out hb); have nBK4_ := Aside0.mk (blk_below BK4.out hb); clear HB BK1 BK4; have HB := nHB_; have BK1 := nBK1_; have BK4 := nBK4_; clear nHB_ nBK1_ nBK4_; clear hb; have hk1_0 : w6.cell? ⟨g1, 0, none⟩ = some (.int .i64 a0_0) := (blk_cell BK1.out 0).trans rfl; have hk1_1 : w6.cell? ⟨g1, 1, none⟩ = some (.slice (some ad) l0_1.length c0_1) := (blk_cell BK1.out 1).trans rfl; have hk4_0 : w6.cell? ⟨g4, 0, none⟩ = some (.bool false) := (blk_cell BK4.out 0).trans rfl; have hk4_1 : w6.cell? ⟨g4, 1, none⟩ = some (.bool lf) := (blk_cell BK4.out 1).trans rfl; have hk4_2 : w6.cell? ⟨g4, 2, none⟩ = some (.slice A2 es.length c2_) := (blk_cell BK4.out 2).trans rfl))
            go_roundg k1
            case measure => have := HK1.out; omega
            case rel => exact ⟨_, rfl, H', ⟨by have := HK1.out; omega⟩, BK1, HB⟩
          | false =>
            rw [if_neg (by decide)] at H
            obtain rfl := Option.some.inj H
            have HREST2 := HREST.out
            rw [if_neg (by decide)] at HREST2
            obtain rfl := Option.some.inj HREST2
            clear HREST2 H
            go_wp2_with (first
              | ((with_reducible refine gate_dst (N := 4) rfl ?_); refine box_event ?hg (N := 4) ?hd (cs := #[.bool false, .bool false, .slice none 0 0]) (t := 90) ?hr ?_; (case hd => rfl); (case hg => rfl); (case hr => first | (go_simp; done) | (go_simp; rfl)); intro g4 hg w4 hbox hb; have hs4_0 : w4.cell? ⟨g4, 0, none⟩ = some (.bool false) := (blk_cell hbox 0).trans rfl; have hf4_0 := blk_frozen hbox 0; have hs4_1 : w4.cell? ⟨g4, 1, none⟩ = some (.bool false) := (blk_cell hbox 1).trans rfl; have hf4_1 := blk_frozen hbox 1; have hs4_2 : w4.cell? ⟨g4, 2, none⟩ = some (.slice none 0 0) := (blk_cell hbox 2).trans rfl; have hf4_2 := blk_frozen hbox 2; have HG4 := Aside0.mk hg; have HX4 := Aside0.mk hbox; have HW4 := Aside0.mk hb; clear hg hbox hb)
              | ((with_reducible refine gate_store (t := 90) (p := 4) rfl ?_); refine store_event (t := 90) (p := 4) (v := ?vo4falsefalse) (w1 := (((w4.setCell ⟨g4, 0, none⟩ (.bool false)).setCell ⟨g4, 1, none⟩ (.bool lf)).setCell ⟨g4, 2, none⟩ (.slice A2 es.length c2_))) ?hg ?ho ?hn ?hr ?_; (case ho => rfl); (case hg => rfl); (case hn => rfl); (case hr => first | (go_simp; done) | (go_simp; rfl)); intro w5 hw; have hb : Below wr.heap.size wr w5 := (by rw [hw]; exact (below_set (below_set (below_set HW4.out (Nat.le_of_eq HG4.out.symm)) (Nat.le_of_eq HG4.out.symm)) (Nat.le_of_eq HG4.out.symm))); have hbox : w5.heap[g4]? = some (.cells #[.bool false, .bool lf, .slice A2 es.length c2_] 90 (0, 0)) := (by rw [hw]; exact (blk_put (cs' := #[.bool false, .bool lf, .slice A2 es.length c2_]) (blk_put (cs' := #[.bool false, .bool lf, .slice none 0 0]) (blk_put (cs' := #[.bool false, .bool false, .slice none 0 0]) HX4.out 0 (.bool false) rfl) 1 (.bool lf) rfl) 2 (.slice A2 es.length c2_) rfl)); clear hw HG4 HX4 HW4 hs4_0 hf4_0 hs4_1 hf4_1 hs4_2 hf4_2; clear hk1_0 hk1_1 hz0 hz1 hz2; have nHB_ := Aside0.mk (below_step HB.out hb); have nBK1_ := Aside0.mk (blk_below BK1.out hb); clear HB BK1; have HB := nHB_; have BK1 := nBK1_; clear nHB_ nBK1_; have BK4 := Aside0.mk hbox; clear hb hbox; have hk1_0 : w5.cell? ⟨g1, 0, none⟩ = some (.int .i64 a0_0) := (blk_cell BK1.out 0).trans rfl; have hk1_1 : w5.cell? ⟨g1, 1, none⟩ = some (.slice (some ad) l0_1.length c0_1) := (blk_cell BK1.out 1).trans rfl; have hk4_0 : w5.cell? ⟨g4, 0, none⟩ = some (.bool false) := (blk_cell BK4.out 0).trans rfl; have hk4_1 : w5.cell? ⟨g4, 1, none⟩ = some (.bool lf) := (blk_cell BK4.out 1).trans rfl; have hk4_2 : w5.cell? ⟨g4, 2, none⟩ = some (.slice A2 es.length c2_) := (blk_cell BK4.out 2).trans rfl)
              | ((with_reducible refine gate_dst (N := 45) rfl ?_); (try (refine gate_guard (by rfl) ?_; dsimp only)); refine goesL_ (some 45) rfl rfl Try.func91 (by kernel_rfl) rfl #[.agg #[.bool lf, .slice A2 es.length c2_], .agg #[.bool false, .slice none 0 0]] rfl (by (try simp only [List.map_toArray, List.map_cons, List.map_nil]); first | done | rfl | (simp only [List.length_drop, List.length_take]; rfl)) ?_; refine (impl_SameNode.calls k1 lf _ _ es false _ _ [] false _ (Kd.C_below HC2.out HB.out) HL2.out (Kd.C_nil _ _) (Nat.le_refl _) HQ.out).mono ?_; rintro e w6 ⟨rfl, hb⟩; refine ⟨_, rfl, ?_⟩; clear hk1_0 hk1_1 hk4_0 hk4_1 hk4_2; have nHB_ := Aside0.mk (below_step HB.out hb); have nBK1_ := Aside0.mk (blk_below BK1.out hb); have nBK4_ := Aside0.mk (blk_below BK4.out hb); clear HB BK1 BK4; have HB := nHB_; have BK1 := nBK1_; have BK4 := nBK4_; clear nHB_ nBK1_ nBK4_; clear hb; have hk1_0 : w6.cell? ⟨g1, 0, none⟩ = some (.int .i64 a0_0) := (blk_cell BK1.out 0).trans rfl; have hk1_1 : w6.cell? ⟨g1, 1, none⟩ = some (.slice (some ad) l0_1.length c0_1) := (blk_cell BK1.out 1).trans rfl; have hk4_0 : w6.cell? ⟨g4, 0, none⟩ = some (.bool false) := (blk_cell BK4.out 0).trans rfl; have hk4_1 : w6.cell? ⟨g4, 1, none⟩ = some (.bool lf) := (blk_cell BK4.out 1).trans rfl; have hk4_2 : w6.cell? ⟨g4, 2, none⟩ = some (.slice A2 es.length c2_) := (blk_cell BK4.out 2).trans rfl))
            go_ret
            exact ⟨rfl, HB.out⟩
      · rw [if_neg c1] at H
        have c1b : decide (x < (l0_1.length : Int)) = false := decide_eq_false c1
        clear c1
        obtain rfl := Option.some.inj H
        have HREST2 := HREST.out
        rw [if_pos rfl] at HREST2
        obtain ⟨rs, hrs, HREST2⟩ := Option.bind_eq_some_iff.mp HREST2
        have HRS := Aside0.mk hrs
        have HT0 := Aside0.mk HREST2
        clear hrs HREST2 H
        go_wp2_with (first
          | ((with_reducible refine gate_dst (N := 50) rfl ?_); refine map_event rfl (N := 50) rfl rfl ?_; intro bm hg w7 hmet hb; have GE := Aside0.mk (by rw [hg]; exact HB.out.size : w.heap.size ≤ bm); clear hk1_0 hk1_1; have nHB_ := Aside0.mk (below_step HB.out hb); have nBK1_ := Aside0.mk (blk_below BK1.out hb); clear HB BK1; have HB := nHB_; have BK1 := nBK1_; clear nHB_ nBK1_; have MET := Aside0.mk hmet; clear hb hg hmet; obtain ⟨nm, Dm, hnm, him, hom, hcm⟩ := MET.out; have HNM := Aside0.mk hnm; have HIM := Aside0.mk him; have HOM := Aside0.mk hom; have HCM := Aside0.mk hcm; clear hnm him hom hcm; have hk1_0 : w7.cell? ⟨g1, 0, none⟩ = some (.int .i64 a0_0) := (blk_cell BK1.out 0).trans rfl; have hk1_1 : w7.cell? ⟨g1, 1, none⟩ = some (.slice A0_1 l0_1.length c0_1) := (blk_cell BK1.out 1).trans rfl)
          | ((with_reducible refine gate_ins rfl ?_); refine wpList_insert_own _ rfl _ _ _ 104 rfl 3 3 (Go.Maps.int_keyed Try.underlying3) Try.underlying104 _ bm nm Dm rfl HOM.out (by have := HNM.out; simp only [List.length_nil] at this; unfold maxLen; omega) _ _ (.int .i64 a0_0) rfl rfl (Go.Maps.keyOf_int_mk Try.underlying3 WFR.out) (.lit (.int .i64 1)) [] (plainElem_int Try.underlying3 (by decide)) ?_; intro w8 hown hg; have hmet2 : MetOk w8 bm ([] ++ [a0_0]) := MetOk.put HNM.out HIM.out hown HCM.out; rw [List.nil_append] at hmet2; have nBK1_ := Aside0.mk (blk_mapped BK1.out MET.out hg); have nHB_ := Aside0.mk (below_mapped HB.out hg GE.out); clear hk1_0 hk1_1 BK1 HB MET hown hg HNM HIM HOM HCM; have BK1 := nBK1_; have HB := nHB_; have MET := Aside0.mk hmet2; clear nBK1_ nHB_ hmet2; have hk1_0 : w8.cell? ⟨g1, 0, none⟩ = some (.int .i64 a0_0) := (blk_cell BK1.out 0).trans rfl; have hk1_1 : w8.cell? ⟨g1, 1, none⟩ = some (.slice A0_1 l0_1.length c0_1) := (blk_cell BK1.out 1).trans rfl)
          | ((with_reducible refine gate_dst (N := 55) rfl ?_); refine goesL_ (some 55) rfl rfl Try.func92 (by kernel_rfl) rfl #[.agg #[.int .i64 a0_0, .slice A0_1 l0_1.length c0_1]] rfl (by (try simp only [List.map_toArray, List.map_cons, List.map_nil]); first | done | rfl | (simp only [List.length_drop, List.length_take]; rfl)) ?_; refine (impl_Reach.calls k a0_0 _ _ l0_1 rs _ (Kd.C_below HR.out HB.out) HC.out HRS.out).mono ?_; rintro e w9 ⟨v55, rfl, ho, hb⟩; refine ⟨_, rfl, ?_⟩; have hle := HB.out.size; clear hk1_0 hk1_1; have nHB_ := Aside0.mk (below_step HB.out hb); have nBK1_ := Aside0.mk (blk_below BK1.out hb); have nMET_ := Aside0.mk (MetOk.below MET.out hb); clear HB BK1 MET; have HB := nHB_; have BK1 := nBK1_; have MET := nMET_; clear nHB_ nBK1_ nMET_; have HO := Aside0.mk (Kd.R_lower ho hle); clear ho hb hle; obtain ⟨Ao, co, eo⟩ := Kd.R_slice HO.out; subst eo; have hk1_0 : w9.cell? ⟨g1, 0, none⟩ = some (.int .i64 a0_0) := (blk_cell BK1.out 0).trans rfl; have hk1_1 : w9.cell? ⟨g1, 1, none⟩ = some (.slice A0_1 l0_1.length c0_1) := (blk_cell BK1.out 1).trans rfl))
        go_loopg [57] k (fun kq v57 w' => ∃ (x : Int) (told : List Int), v57 = .int .i64 x ∧ Aside0 (bokR kq l0_1 rs told x = some r) ∧ Aside0 (kq ≤ k) ∧ Aside0 (w'.heap[g1]? = some (.cells #[.int .i64 a0_0, .slice A0_1 l0_1.length c0_1] 49 (0, 0))) ∧ Aside0 (Below w.heap.size w w') ∧ Aside0 (MetOk w' bm told) ∧ Aside0 (Kd.R (Kd.int .i64) 3 w' w.heap.size (fun _ => True) (.slice Ao rs.length co) rs))
        case atStart => exact ⟨0, [a0_0], rfl, HT0, ⟨Nat.le_refl _⟩, BK1, HB, MET, HO⟩
        case round =>
          clear HT0 BK1 HB MET HO hk1_0 hk1_1 HK1
          obtain ⟨x, told, rfl, HA, HK1, BK1, HB, MET, HO⟩ := hrel
          have hk1_0 : wr.cell? ⟨g1, 0, none⟩ = some (.int .i64 a0_0) := (blk_cell BK1.out 0).trans rfl
          have hk1_1 : wr.cell? ⟨g1, 1, none⟩ = some (.slice A0_1 l0_1.length c0_1) := (blk_cell BK1.out 1).trans rfl
          cases gk with
          | zero => exact absurd HA.out (by simp [bokR])
          | succ k1 =>
            have H := HA.out
            clear HA
            rw [bokR] at H
            by_cases c1 : x < (rs.length : Int)
            rotate_left
            · rw [if_neg c1] at H
              have c1b : decide (x < (rs.length : Int)) = false := decide_eq_false c1
              clear c1
              obtain rfl := Option.some.inj H
              clear H
              go_wp2
              go_ret
              exact ⟨rfl, HB.out⟩
            rw [if_pos c1] at H
            have c1b : decide (x < (rs.length : Int)) = true := decide_eq_true c1
            by_cases c2 : 0 ≤ x
            rotate_left
            · rw [if_neg c2] at H
              exact absurd H (by simp)
            rw [if_pos c2] at H
            by_cases c3 : 0 ≤ rd rs x
            rotate_left
            · rw [if_neg c3] at H
              exact absurd H (by simp)
            rw [if_pos c3] at H
            by_cases c4 : rd rs x < (l0_1.length : Int)
            rotate_left
            · rw [if_neg c4] at H
              exact absurd H (by simp)
            rw [if_pos c4] at H
            obtain ⟨ad0, e0, hy0⟩ := Kd.at_int (Kd.R_reads' HO.out).2.2 x c2 c1
            cases e0
            generalize hi : rd rs x = i at H c3 c4 hy0
            clear hi
            obtain ⟨ad, A2, c2_, e2, hz0, hz1, hz2, hl2, hC2⟩ := at_T90 HR.out i c3 c4
            subst e2
            clear hz0
            replace hz1 := (HB.out.cell (World.block_lt_of_cell? w _ hz1)).trans hz1
            replace hz2 := (HB.out.cell (World.block_lt_of_cell? w _ hz2)).trans hz2
            have HL2 := Aside0.mk hl2
            have HCC := Aside0.mk hC2
            clear hC2 hl2
            generalize rd_T90 l0_1 i = pg at H hz1 hz2 HCC HL2
            obtain ⟨u, lf, es⟩ := pg
            dsimp only at H hz1 hz2 HCC HL2
            have c3b : decide (0 ≤ i) = true := decide_eq_true c3
            have c4b : decide (i < (l0_1.length : Int)) = true := decide_eq_true c4
            cases lf with
            | true =>
              rw [if_pos rfl] at H
              have H' := Aside0.mk H
              clear H
              go_wp2
              go_roundg k1
              case measure => have := HK1.out; omega
              case rel => exact ⟨_, told, rfl, H', ⟨by have := HK1.out; omega⟩, BK1, HB, MET, HO⟩
            | false =>
              rw [if_neg (by decide)] at H
              obtain ⟨oo, hoo, H⟩ := Option.bind_eq_some_iff.mp H
              have HE := Aside0.mk hoo
              have HN := Aside0.mk H
              clear hoo H
              go_wp2
              go_loopg [76] k1 (fun kq v76 w' => ∃ (y : Int) (told2 : List Int), v76 = .int .i64 y ∧ Aside0 (bokE kq l0_1 es told2 y = some oo) ∧ Aside0 (kq ≤ k1) ∧ Aside0 (w'.heap[g1]? = some (.cells #[.int .i64 a0_0, .slice (some ad) l0_1.length c0_1] 49 (0, 0))) ∧ Aside0 (Below w.heap.size w w') ∧ Aside0 (MetOk w' bm told2) ∧ Aside0 (Kd.R (Kd.int .i64) 3 w' w.heap.size (fun _ => True) (.slice (some ad0) rs.length co) rs))
              case atStart => exact ⟨0, told, rfl, HE, ⟨Nat.le_refl _⟩, BK1, HB, MET, HO⟩
              case round =>
                clear HE BK1 HB MET HO hk1_0 hk1_1 hy0 hz1 hz2
                obtain ⟨y, told2, rfl, HA, HK2, BK1, HB, MET, HO⟩ := hrel
                have hk1_0 : wr.cell? ⟨g1, 0, none⟩ = some (.int .i64 a0_0) := (blk_cell BK1.out 0).trans rfl
                have hk1_1 : wr.cell? ⟨g1, 1, none⟩ = some (.slice (some ad) l0_1.length c0_1) := (blk_cell BK1.out 1).trans rfl
                cases gk with
                | zero => exact absurd HA.out (by simp [bokE])
                | succ k2 =>
                  have H := HA.out
                  clear HA
                  rw [bokE] at H
                  by_cases d1 : y < (es.length : Int)
                  rotate_left
                  · rw [if_neg d1] at H
                    have d1b : decide (y < (es.length : Int)) = false := decide_eq_false d1
                    clear d1
                    obtain rfl := Option.some.inj H
                    clear H
                    go_wp2
                    go_roundg k1
                    case measure => have := HK1.out; omega
                    case rel => exact ⟨_, told2, rfl, ⟨HN.out⟩, ⟨by have := HK1.out; omega⟩, BK1, HB, MET, HO⟩
                  rw [if_pos d1] at H
                  have d1b : decide (y < (es.length : Int)) = true := decide_eq_true d1
                  by_cases d2 : 0 ≤ y
                  rotate_left
                  · rw [if_neg d2] at H
                    exact absurd H (by simp)
                  rw [if_pos d2] at H
                  by_cases d3 : told2.length < 17592186044415
                  rotate_left
                  · rw [if_neg d3] at H
                    exact absurd H (by simp)
                  rw [if_pos d3] at H
                  have LEN := Aside0.mk d3
                  clear d3
                  obtain ⟨ad3, e3, hy0, hy1, hy2, hy3, hy4⟩ := at_T103 HCC.out y d2 d1
                  cases e3
                  replace hy0 := (HB.out.cell (World.block_lt_of_cell? w _ hy0)).trans hy0
                  replace hy1 := (HB.out.cell (World.block_lt_of_cell? w _ hy1)).trans hy1
                  replace hy2 := (HB.out.cell (World.block_lt_of_cell? w _ hy2)).trans hy2
                  replace hy3 := (HB.out.cell (World.block_lt_of_cell? w _ hy3)).trans hy3
                  replace hy4 := (HB.out.cell (World.block_lt_of_cell? w _ hy4)).trans hy4
                  generalize rd_T103 es y = en at H hy0 hy1 hy2 hy3 hy4
                  obtain ⟨c, b0, b1, b2, b3⟩ := en
                  dsimp only at H hy0 hy1 hy2 hy3 hy4
                  by_cases d4 : pgOk l0_1 c
                  rotate_left
                  · rw [if_neg d4] at H
                    have HUC := Aside0.mk ((used_f a0_0 l0_1 c).trans (congrArg some (decide_eq_false d4)))
                    clear d4
                    obtain rfl := Option.some.inj H
                    have HN2 := HN.out
                    obtain rfl := Option.some.inj HN2
                    clear H HN2
                    go_wp2_with (first
                      | ((with_reducible refine gate_dst (N := 9) rfl ?_); refine box_event ?hg (N := 9) ?hd (cs := #[.int .i64 0, .int .i64 0, .int .i64 0, .int .i64 0, .int .i64 0]) (t := 103) ?hr ?_; (case hd => rfl); (case hg => rfl); (case hr => first | (go_simp; done) | (go_simp; rfl)); intro g9 hg w7 hbox hb; have HG9 := Aside0.mk hg; have HX9 := Aside0.mk hbox; have HW9 := Aside0.mk hb; clear hg hbox hb)
                      | ((with_reducible refine gate_store (t := 103) (p := 9) rfl ?_); refine store_event (t := 103) (p := 9) (v := ?vo9a) (w1 := (((((w7.setCell ⟨g9, 0, none⟩ (.int .i64 c)).setCell ⟨g9, 1, none⟩ (.int .i64 b0)).setCell ⟨g9, 2, none⟩ (.int .i64 b1)).setCell ⟨g9, 3, none⟩ (.int .i64 b2)).setCell ⟨g9, 4, none⟩ (.int .i64 b3))) ?hg ?ho ?hn ?hr ?_; (case ho => rfl); (case hg => rfl); (case hn => rfl); (case hr => exact store5_run _ _ 9 79 rfl g9 w7 _ _ _ _ _ rfl rfl HX9.out); intro w8 hw; have hb : Below wr.heap.size wr w8 := (by rw [hw]; exact (below_set (below_set (below_set (below_set (below_set HW9.out (Nat.le_of_eq HG9.out.symm)) (Nat.le_of_eq HG9.out.symm)) (Nat.le_of_eq HG9.out.symm)) (Nat.le_of_eq HG9.out.symm)) (Nat.le_of_eq HG9.out.symm))); have hbox : w8.heap[g9]? = some (.cells #[.int .i64 c, .int .i64 b0, .int .i64 b1, .int .i64 b2, .int .i64 b3] 103 (0, 0)) := (by rw [hw]; exact (blk_put (cs' := #[.int .i64 c, .int .i64 b0, .int .i64 b1, .int .i64 b2, .int .i64 b3]) (blk_put (cs' := #[.int .i64 c, .int .i64 b0, .int .i64 b1, .int .i64 b2, .int .i64 0]) (blk_put (cs' := #[.int .i64 c, .int .i64 b0, .int .i64 b1, .int .i64 0, .int .i64 0]) (blk_put (cs' := #[.int .i64 c, .int .i64 b0, .int .i64 0, .int .i64 0, .int .i64 0]) (blk_put (cs' := #[.int .i64 c, .int .i64 0, .int .i64 0, .int .i64 0, .int .i64 0]) HX9.out 0 (.int .i64 c) rfl) 1 (.int .i64 b0) rfl) 2 (.int .i64 b1) rfl) 3 (.int .i64 b2) rfl) 4 (.int .i64 b3) rfl)); clear hw HG9 HX9 HW9; clear hk1_0 hk1_1 hy0 hy1 hy2 hy3 hy4; have nHB_ := Aside0.mk (below_step HB.out hb); have nBK1_ := Aside0.mk (blk_below BK1.out hb); have nMET_ := Aside0.mk (MetOk.below MET.out hb); have nHO_ := Aside0.mk (Kd.R_below HO.out hb); clear HB BK1 MET HO; have HB := nHB_; have BK1 := nBK1_; have MET := nMET_; have HO := nHO_; clear nHB_ nBK1_ nMET_ nHO_; have BK9 := Aside0.mk hbox; clear hb hbox; have hk1_0 : w8.cell? ⟨g1, 0, none⟩ = some (.int .i64 a0_0) := (blk_cell BK1.out 0).trans rfl; have hk1_1 : w8.cell? ⟨g1, 1, none⟩ = some (.slice (some ad) l0_1.length c0_1) := (blk_cell BK1.out 1).trans rfl; have hk9_0 : w8.cell? ⟨g9, 0, none⟩ = some (.int .i64 c) := (blk_cell BK9.out 0).trans rfl)
                      | ((with_reducible refine gate_dst (N := 83) rfl ?_); refine goesL_ (some 83) rfl rfl Try.func89 (by kernel_rfl) rfl #[.agg #[.int .i64 a0_0, .slice (some ad) l0_1.length c0_1], .int .i64 c] rfl (by (try simp only [List.map_toArray, List.map_cons, List.map_nil]); first | done | rfl | (simp only [List.length_drop, List.length_take]; rfl)) ?_; refine (impl_used.calls a0_0 _ _ l0_1 c false _ (Kd.C_below HR.out HB.out) HC.out HUC.out).mono ?_; rintro e w9 ⟨rfl, hb⟩; refine ⟨_, rfl, ?_⟩; clear hk1_0 hk1_1 hk9_0; have nHB_ := Aside0.mk (below_step HB.out hb); have nBK1_ := Aside0.mk (blk_below BK1.out hb); have nMET_ := Aside0.mk (MetOk.below MET.out hb); have nHO_ := Aside0.mk (Kd.R_below HO.out hb); have nBK9_ := Aside0.mk (blk_below BK9.out hb); clear HB BK1 MET HO BK9; have HB := nHB_; have BK1 := nBK1_; have MET := nMET_; have HO := nHO_; have BK9 := nBK9_; clear nHB_ nBK1_ nMET_ nHO_ nBK9_; clear hb; have hk1_0 : w9.cell? ⟨g1, 0, none⟩ = some (.int .i64 a0_0) := (blk_cell BK1.out 0).trans rfl; have hk1_1 : w9.cell? ⟨g1, 1, none⟩ = some (.slice (some ad) l0_1.length c0_1) := (blk_cell BK1.out 1).trans rfl; have hk9_0 : w9.cell? ⟨g9, 0, none⟩ = some (.int .i64 c) := (blk_cell BK9.out 0).trans rfl))
                    go_ret
                    exact ⟨rfl, HB.out⟩
                  rw [if_pos d4] at H
                  have HUC := Aside0.mk ((used_f a0_0 l0_1 c).trans (congrArg some (decide_eq_true d4)))
                  have WFC := Aside0.mk (wf_page HMAX.out d4)
                  clear d4
                  by_cases d5 : c ∈ told2
                  · rw [if_pos d5] at H
                    have HIC := Aside0.mk d5
                    clear d5
                    obtain rfl := Option.some.inj H
                    have HN2 := HN.out
                    obtain rfl := Option.some.inj HN2
                    clear H HN2
                    go_wp2_with (first
                      | ((with_reducible refine gate_dst (N := 9) rfl ?_); refine box_event ?hg (N := 9) ?hd (cs := #[.int .i64 0, .int .i64 0, .int .i64 0, .int .i64 0, .int .i64 0]) (t := 103) ?hr ?_; (case hd => rfl); (case hg => rfl); (case hr => first | (go_simp; done) | (go_simp; rfl)); intro g9 hg w7 hbox hb; have HG9 := Aside0.mk hg; have HX9 := Aside0.mk hbox; have HW9 := Aside0.mk hb; clear hg hbox hb)
                      | ((with_reducible refine gate_store (t := 103) (p := 9) rfl ?_); refine store_event (t := 103) (p := 9) (v := ?vo9b) (w1 := (((((w7.setCell ⟨g9, 0, none⟩ (.int .i64 c)).setCell ⟨g9, 1, none⟩ (.int .i64 b0)).setCell ⟨g9, 2, none⟩ (.int .i64 b1)).setCell ⟨g9, 3, none⟩ (.int .i64 b2)).setCell ⟨g9, 4, none⟩ (.int .i64 b3))) ?hg ?ho ?hn ?hr ?_; (case ho => rfl); (case hg => rfl); (case hn => rfl); (case hr => exact store5_run _ _ 9 79 rfl g9 w7 _ _ _ _ _ rfl rfl HX9.out); intro w8 hw; have hb : Below wr.heap.size wr w8 := (by rw [hw]; exact (below_set (below_set (below_set (below_set (below_set HW9.out (Nat.le_of_eq HG9.out.symm)) (Nat.le_of_eq HG9.out.symm)) (Nat.le_of_eq HG9.out.symm)) (Nat.le_of_eq HG9.out.symm)) (Nat.le_of_eq HG9.out.symm))); have hbox : w8.heap[g9]? = some (.cells #[.int .i64 c, .int .i64 b0, .int .i64 b1, .int .i64 b2, .int .i64 b3] 103 (0, 0)) := (by rw [hw]; exact (blk_put (cs' := #[.int .i64 c, .int .i64 b0, .int .i64 b1, .int .i64 b2, .int .i64 b3]) (blk_put (cs' := #[.int .i64 c, .int .i64 b0, .int .i64 b1, .int .i64 b2, .int .i64 0]) (blk_put (cs' := #[.int .i64 c, .int .i64 b0, .int .i64 b1, .int .i64 0, .int .i64 0]) (blk_put (cs' := #[.int .i64 c, .int .i64 b0, .int .i64 0, .int .i64 0, .int .i64 0]) (blk_put (cs' := #[.int .i64 c, .int .i64 0, .int .i64 0, .int .i64 0, .int .i64 0]) HX9.out 0 (.int .i64 c) rfl) 1 (.int .i64 b0) rfl) 2 (.int .i64 b1) rfl) 3 (.int .i64 b2) rfl) 4 (.int .i64 b3) rfl)); clear hw HG9 HX9 HW9; clear hk1_0 hk1_1 hy0 hy1 hy2 hy3 hy4; have nHB_ := Aside0.mk (below_step HB.out hb); have nBK1_ := Aside0.mk (blk_below BK1.out hb); have nMET_ := Aside0.mk (MetOk.below MET.out hb); have nHO_ := Aside0.mk (Kd.R_below HO.out hb); clear HB BK1 MET HO; have HB := nHB_; have BK1 := nBK1_; have MET := nMET_; have HO := nHO_; clear nHB_ nBK1_ nMET_ nHO_; have BK9 := Aside0.mk hbox; clear hb hbox; have hk1_0 : w8.cell? ⟨g1, 0, none⟩ = some (.int .i64 a0_0) := (blk_cell BK1.out 0).trans rfl; have hk1_1 : w8.cell? ⟨g1, 1, none⟩ = some (.slice (some ad) l0_1.length c0_1) := (blk_cell BK1.out 1).trans rfl; have hk9_0 : w8.cell? ⟨g9, 0, none⟩ = some (.int .i64 c) := (blk_cell BK9.out 0).trans rfl)
                      | ((with_reducible refine gate_dst (N := 83) rfl ?_); refine goesL_ (some 83) rfl rfl Try.func89 (by kernel_rfl) rfl #[.agg #[.int .i64 a0_0, .slice (some ad) l0_1.length c0_1], .int .i64 c] rfl (by (try simp only [List.map_toArray, List.map_cons, List.map_nil]); first | done | rfl | (simp only [List.length_drop, List.length_take]; rfl)) ?_; refine (impl_used.calls a0_0 _ _ l0_1 c true _ (Kd.C_below HR.out HB.out) HC.out HUC.out).mono ?_; rintro e w9 ⟨rfl, hb⟩; refine ⟨_, rfl, ?_⟩; clear hk1_0 hk1_1 hk9_0; have nHB_ := Aside0.mk (below_step HB.out hb); have nBK1_ := Aside0.mk (blk_below BK1.out hb); have nMET_ := Aside0.mk (MetOk.below MET.out hb); have nHO_ := Aside0.mk (Kd.R_below HO.out hb); have nBK9_ := Aside0.mk (blk_below BK9.out hb); clear HB BK1 MET HO BK9; have HB := nHB_; have BK1 := nBK1_; have MET := nMET_; have HO := nHO_; have BK9 := nBK9_; clear nHB_ nBK1_ nMET_ nHO_ nBK9_; clear hb; obtain ⟨nm, Dm, hnm, him, hom, hcm⟩ := MET.out; have HNM := Aside0.mk hnm; have HIM := Aside0.mk him; have HOM := Aside0.mk hom; have HCM := Aside0.mk hcm; clear hnm him hom hcm; have hk1_0 : w9.cell? ⟨g1, 0, none⟩ = some (.int .i64 a0_0) := (blk_cell BK1.out 0).trans rfl; have hk1_1 : w9.cell? ⟨g1, 1, none⟩ = some (.slice (some ad) l0_1.length c0_1) := (blk_cell BK1.out 1).trans rfl; have hk9_0 : w9.cell? ⟨g9, 0, none⟩ = some (.int .i64 c) := (blk_cell BK9.out 0).trans rfl)
                      | ((try (refine gate_guard (by rfl) ?_; dsimp only)); at_lookup; refine wpList_lookup_own_int _ rfl _ _ 104 rfl 3 3 .i64 (Go.Maps.int_keyed Try.underlying3) Try.underlying104 Try.underlying3 (zero_int _) bm nm Dm rfl HOM.out _ _ rfl (Go.Maps.keyOf_int_mk Try.underlying3 WFC.out) ?_; intro cm hat hwc; obtain rfl : cm = 1 := (look_eq (HCM.out c WFC.out) hat).trans (if_pos HIC.out); clear hat hwc))
                    go_ret
                    exact ⟨rfl, HB.out⟩
                  · rw [if_neg d5] at H
                    have HIC := Aside0.mk d5
                    clear d5
                    have H' := Aside0.mk H
                    clear H
                    go_wp2_with (first
                      | ((with_reducible refine gate_dst (N := 9) rfl ?_); refine box_event ?hg (N := 9) ?hd (cs := #[.int .i64 0, .int .i64 0, .int .i64 0, .int .i64 0, .int .i64 0]) (t := 103) ?hr ?_; (case hd => rfl); (case hg => rfl); (case hr => first | (go_simp; done) | (go_simp; rfl)); intro g9 hg w7 hbox hb; have HG9 := Aside0.mk hg; have HX9 := Aside0.mk hbox; have HW9 := Aside0.mk hb; clear hg hbox hb)
                      | ((with_reducible refine gate_store (t := 103) (p := 9) rfl ?_); refine store_event (t := 103) (p := 9) (v := ?vo9c) (w1 := (((((w7.setCell ⟨g9, 0, none⟩ (.int .i64 c)).setCell ⟨g9, 1, none⟩ (.int .i64 b0)).setCell ⟨g9, 2, none⟩ (.int .i64 b1)).setCell ⟨g9, 3, none⟩ (.int .i64 b2)).setCell ⟨g9, 4, none⟩ (.int .i64 b3))) ?hg ?ho ?hn ?hr ?_; (case ho => rfl); (case hg => rfl); (case hn => rfl); (case hr => exact store5_run _ _ 9 79 rfl g9 w7 _ _ _ _ _ rfl rfl HX9.out); intro w8 hw; have hb : Below wr.heap.size wr w8 := (by rw [hw]; exact (below_set (below_set (below_set (below_set (below_set HW9.out (Nat.le_of_eq HG9.out.symm)) (Nat.le_of_eq HG9.out.symm)) (Nat.le_of_eq HG9.out.symm)) (Nat.le_of_eq HG9.out.symm)) (Nat.le_of_eq HG9.out.symm))); have hbox : w8.heap[g9]? = some (.cells #[.int .i64 c, .int .i64 b0, .int .i64 b1, .int .i64 b2, .int .i64 b3] 103 (0, 0)) := (by rw [hw]; exact (blk_put (cs' := #[.int .i64 c, .int .i64 b0, .int .i64 b1, .int .i64 b2, .int .i64 b3]) (blk_put (cs' := #[.int .i64 c, .int .i64 b0, .int .i64 b1, .int .i64 b2, .int .i64 0]) (blk_put (cs' := #[.int .i64 c, .int .i64 b0, .int .i64 b1, .int .i64 0, .int .i64 0]) (blk_put (cs' := #[.int .i64 c, .int .i64 b0, .int .i64 0, .int .i64 0, .int .i64 0]) (blk_put (cs' := #[.int .i64 c, .int .i64 0, .int .i64 0, .int .i64 0, .int .i64 0]) HX9.out 0 (.int .i64 c) rfl) 1 (.int .i64 b0) rfl) 2 (.int .i64 b1) rfl) 3 (.int .i64 b2) rfl) 4 (.int .i64 b3) rfl)); clear hw HG9 HX9 HW9; clear hk1_0 hk1_1 hy0 hy1 hy2 hy3 hy4; have nHB_ := Aside0.mk (below_step HB.out hb); have nBK1_ := Aside0.mk (blk_below BK1.out hb); have nMET_ := Aside0.mk (MetOk.below MET.out hb); have nHO_ := Aside0.mk (Kd.R_below HO.out hb); clear HB BK1 MET HO; have HB := nHB_; have BK1 := nBK1_; have MET := nMET_; have HO := nHO_; clear nHB_ nBK1_ nMET_ nHO_; have BK9 := Aside0.mk hbox; clear hb hbox; have hk1_0 : w8.cell? ⟨g1, 0, none⟩ = some (.int .i64 a0_0) := (blk_cell BK1.out 0).trans rfl; have hk1_1 : w8.cell? ⟨g1, 1, none⟩ = some (.slice (some ad) l0_1.length c0_1) := (blk_cell BK1.out 1).trans rfl; have hk9_0 : w8.cell? ⟨g9, 0, none⟩ = some (.int .i64 c) := (blk_cell BK9.out 0).trans rfl)
                      | ((with_reducible refine gate_dst (N := 83) rfl ?_); refine goesL_ (some 83) rfl rfl Try.func89 (by kernel_rfl) rfl #[.agg #[.int .i64 a0_0, .slice (some ad) l0_1.length c0_1], .int .i64 c] rfl (by (try simp only [List.map_toArray, List.map_cons, List.map_nil]); first | done | rfl | (simp only [List.length_drop, List.length_take]; rfl)) ?_; refine (impl_used.calls a0_0 _ _ l0_1 c true _ (Kd.C_below HR.out HB.out) HC.out HUC.out).mono ?_; rintro e w9 ⟨rfl, hb⟩; refine ⟨_, rfl, ?_⟩; clear hk1_0 hk1_1 hk9_0; have nHB_ := Aside0.mk (below_step HB.out hb); have nBK1_ := Aside0.mk (blk_below BK1.out hb); have nMET_ := Aside0.mk (MetOk.below MET.out hb); have nHO_ := Aside0.mk (Kd.R_below HO.out hb); have nBK9_ := Aside0.mk (blk_below BK9.out hb); clear HB BK1 MET HO BK9; have HB := nHB_; have BK1 := nBK1_; have MET := nMET_; have HO := nHO_; have BK9 := nBK9_; clear nHB_ nBK1_ nMET_ nHO_ nBK9_; clear hb; obtain ⟨nm, Dm, hnm, him, hom, hcm⟩ := MET.out; have HNM := Aside0.mk hnm; have HIM := Aside0.mk him; have HOM := Aside0.mk hom; have HCM := Aside0.mk hcm; clear hnm him hom hcm; have hk1_0 : w9.cell? ⟨g1, 0, none⟩ = some (.int .i64 a0_0) := (blk_cell BK1.out 0).trans rfl; have hk1_1 : w9.cell? ⟨g1, 1, none⟩ = some (.slice (some ad) l0_1.length c0_1) := (blk_cell BK1.out 1).trans rfl; have hk9_0 : w9.cell? ⟨g9, 0, none⟩ = some (.int .i64 c) := (blk_cell BK9.out 0).trans rfl)
                      | ((try (refine gate_guard (by rfl) ?_; dsimp only)); at_lookup; refine wpList_lookup_own_int _ rfl _ _ 104 rfl 3 3 .i64 (Go.Maps.int_keyed Try.underlying3) Try.underlying104 Try.underlying3 (zero_int _) bm nm Dm rfl HOM.out _ _ rfl (Go.Maps.keyOf_int_mk Try.underlying3 WFC.out) ?_; intro cm hat hwc; obtain rfl : cm = 0 := (look_eq (HCM.out c WFC.out) hat).trans (if_neg HIC.out); clear hat hwc)
                      | (at_mapUpdate; refine wpList_mapUpdate_own _ rfl _ _ _ 104 rfl 3 3 (Go.Maps.int_keyed Try.underlying3) Try.underlying104 _ bm nm Dm rfl HOM.out (by have := HNM.out; have := LEN.out; unfold maxLen; omega) _ _ (.int .i64 c) rfl rfl (Go.Maps.keyOf_int_mk Try.underlying3 WFC.out) (.lit (.int .i64 1)) [] (plainElem_int Try.underlying3 (by decide)) ?_; intro w11 hown hg; have nMET_ := Aside0.mk (MetOk.put HNM.out HIM.out hown HCM.out); have nBK1_ := Aside0.mk (blk_mapped BK1.out MET.out hg); have nHB_ := Aside0.mk (below_mapped HB.out hg GE.out); have nHO_ := Aside0.mk (R_mapped HO.out MET.out hg); clear hk1_0 hk1_1 hk9_0 BK1 HB MET HO BK9 hown hg HNM HIM HOM HCM; have BK1 := nBK1_; have HB := nHB_; have MET := nMET_; have HO := nHO_; clear nBK1_ nHB_ nMET_ nHO_; have hk1_0 : w11.cell? ⟨g1, 0, none⟩ = some (.int .i64 a0_0) := (blk_cell BK1.out 0).trans rfl))
                    go_roundg k2
                    case measure => have := HK2.out; omega
                    case rel => exact ⟨_, told2 ++ [c], rfl, H', ⟨by have := HK2.out; omega⟩, BK1, HB, MET, HO⟩

end Go.Proofs.Ytngjaajcdbodeaa.All

/- The program's PathTo, a closure that hands a row back: it comes to a plain recursion over the pages. No condition. -/
namespace Go.Proofs.Ytngjaajcdbodeaa.All
open Go.RowKit Go.Proofs.YtngjaajcdbodeaaW.PrintWords Go.Proofs.YtngjaajcdbodeaaW.PrintLast Go.Proofs.YtngjaajcdbodeaaW.PrintMore
set_option linter.unusedVariables false
set_option linter.unusedSimpArgs false


/-! ### impl_PathTo: by hand -/
mutual
/-- The pages from page i on to the first leaf that has the number. -/
def pathM : Nat → List S90 → Int → Int → Option (List Int)
  | 0, _, _, _ => none
  | k + 1, ps, i, id => if 0 ≤ i then (if i < (ps.length : Int) then (if (rd_T90 ps i).f1.f0 = true then ((impl_EntryAt.f k (rd_T90 ps i).f1.f1 id).bind fun t => if 0 ≤ t then some [i] else some []) else pathL k ps (rd_T90 ps i).f1.f1 i id 0) else none) else none
def pathL : Nat → List S90 → List S103 → Int → Int → Int → Option (List Int)
  | 0, _, _, _, _, _ => none
  | k + 1, ps, es, i, id, x => if x < (es.length : Int) then (if 0 ≤ x then (pathM k ps (rd_T103 es x).f0 id).bind fun rest => if 0 < rest.length then (if rest.length < 17592186044415 then some (i :: rest) else none) else pathL k ps es i id (wrap64 (x + 1)) else none) else some []
end
theorem path_mono : ∀ k, (∀ ps i d, LeO (pathM k ps i d) (pathM (k + 1) ps i d)) ∧ (∀ ps es i d x, LeO (pathL k ps es i d x) (pathL (k + 1) ps es i d x))
  | 0 => ⟨fun _ _ _ r h => by simp [pathM] at h, fun _ _ _ _ _ r h => by simp [pathL] at h⟩
  | k + 1 => by
    obtain ⟨h1, h2⟩ := path_mono k
    refine ⟨fun ps i d => ?_, fun ps es i d x => ?_⟩
    · rw [pathM, pathM]
      exact LeO.ite (LeO.ite (LeO.ite (LeO.bind (impl_EntryAt.mono _ _ _) (fun _ => LeO.refl _)) (h2 _ _ _ _ _)) (LeO.refl _)) (LeO.refl _)
    · rw [pathL, pathL]
      exact LeO.ite (LeO.ite (LeO.bind (h1 _ _ _) (fun _ => LeO.ite (LeO.refl _) (h2 _ _ _ _ _))) (LeO.refl _)) (LeO.refl _)
def impl_PathTo.f (k : Nat) (a0_0 : Int) (l0_1 : List S90) (a1 : Int) : Option (List Int) := (impl_BookOk.f k a0_0 l0_1).bind fun t => if t = true then pathM k l0_1 a0_0 a1 else some []
theorem impl_PathTo.mono : ∀ a0 a1 a2 k, LeO (impl_PathTo.f k a0 a1 a2) (impl_PathTo.f (k + 1) a0 a1 a2) := fun a0 a1 a2 k => by
  unfold impl_PathTo.f
  exact LeO.bind (impl_BookOk.mono _ _ _) (fun _ => LeO.ite ((path_mono k).1 _ _ _) (LeO.refl _))
/-- What stands while the closure goes on. -/
structure FState (w0 : World) (g2 g3 g5 : Nat) (root : Int) (A : Option Addr) (c n : Nat) (id : Int) (w : World) : Prop where
  below : Below w0.heap.size w0 w
  box : w.heap[g2]? = some (.cells #[.int .i64 root, .slice A n c] 49 (0, 0))
  idb : w.heap[g3]? = some (.cells #[.int .i64 id] 3 (0, 0))
  fn : w.heap[g5]? = some (.cells #[.func (.func 102) #[] #[.pointer (some ⟨g2, 0, none⟩), .pointer (some ⟨g3, 0, none⟩), .pointer (some ⟨g5, 0, none⟩)]] 111 (0, 0))
section
variable {w0 : World} {g2 g3 g5 : Nat} {root id : Int} {A : Option Addr} {c n : Nat} {w w' : World}
theorem FState.next (h : FState w0 g2 g3 g5 root A c n id w) (hb : Below w.heap.size w w') : FState w0 g2 g3 g5 root A c n id w' :=
  ⟨below_step h.below hb, blk_below h.box hb, blk_below h.idb hb, blk_below h.fn hb⟩
theorem FState.fncell (h : FState w0 g2 g3 g5 root A c n id w) : w.cell? ⟨g5, 0, none⟩ = some (.func (.func 102) #[] #[.pointer (some ⟨g2, 0, none⟩), .pointer (some ⟨g3, 0, none⟩), .pointer (some ⟨g5, 0, none⟩)]) := (blk_cell h.fn 0).trans rfl
end
def PathSaid (w0 : World) (g2 g3 g5 : Nat) (root : Int) (A : Option Addr) (c : Nat) (id : Int) (ps : List S90) (k : Nat) : Prop :=
  ∀ (i : Int) (r : List Int) (w : World), FState w0 g2 g3 g5 root A c ps.length id w → pathM k ps i id = some r →
    Calls Try.prog 102 #[.int .i64 i, .pointer (some ⟨g2, 0, none⟩), .pointer (some ⟨g3, 0, none⟩), .pointer (some ⟨g5, 0, none⟩)] w (fun e w' => ∃ v, e = .returned v ∧ Kd.R (Kd.int .i64) 3 w' w.heap.size (fun _ => True) v r ∧ Below w.heap.size w w')

set_option maxHeartbeats 8000000 in
set_option maxRecDepth 100000 in
theorem path_step (w0 : World) (g2 g3 g5 : Nat) (root : Int) (A : Option Addr) (c : Nat) (id : Int) (ps : List S90) (hr0 : Kd.C k90 w0 A ps.length ps) (hc0 : ps.length ≤ c) (k : Nat) (ih : ∀ k', k' ≤ k → PathSaid w0 g2 g3 g5 root A c id ps k') : PathSaid w0 g2 g3 g5 root A c id ps (k + 1) := by
  intro i r w hv h
  have HR := Aside0.mk hr0
  have HV := Aside0.mk hv
  have IH := Aside0.mk ih
  have HB := Aside0.mk (Below.refl w.heap.size w)
  clear hr0 hc0 hv ih
  have hu1 := Try.underlying90
  have hu2 := Try.underlying49
  have hu3 := Try.underlying54
  have hu4 := Try.underlying103
  rw [pathM] at h
  by_cases c2 : 0 ≤ i
  rotate_left
  · rw [if_neg c2] at h
    exact absurd h (by simp)
  rw [if_pos c2] at h
  by_cases c3 : i < (ps.length : Int)
  rotate_left
  · rw [if_neg c3] at h
    exact absurd h (by simp)
  rw [if_pos c3] at h
  obtain ⟨ad, A2, c2_, e2, hz0, hz1, hz2, hl2, hC2⟩ := at_T90 HR.out i c2 c3
  subst e2
  clear hz0
  replace hz1 := (HV.out.below.cell (World.block_lt_of_cell? w0 _ hz1)).trans hz1
  replace hz2 := (HV.out.below.cell (World.block_lt_of_cell? w0 _ hz2)).trans hz2
  have HCC := Aside0.mk hC2
  have HL2 := Aside0.mk hl2
  clear hC2 hl2
  generalize rd_T90 ps i = pg at h hz1 hz2 HCC HL2
  obtain ⟨u, lf, es⟩ := pg
  dsimp only at h hz1 hz2 HCC HL2
  have c2b : decide (0 ≤ i) = true := decide_eq_true c2
  have c3b : decide (i < (ps.length : Int)) = true := decide_eq_true c3
  have hk2_1 : w.cell? ⟨g2, 1, none⟩ = some (.slice (some ad) ps.length c) := (blk_cell HV.out.box 1).trans rfl
  cases lf with
  | true =>
    rw [if_pos rfl] at h
    obtain ⟨t, ht, h⟩ := Option.bind_eq_some_iff.mp h
    have HT := Aside0.mk ht
    clear ht
    by_cases d1 : 0 ≤ t
    · rw [if_pos d1] at h
      obtain rfl := Option.some.inj h
      have d1b : decide (0 ≤ t) = true := decide_eq_true d1
      clear h d1
      go_enter Try.func102, Try.ntmps102
      go_wp2_with (first
        | ((with_reducible refine gate_dst (N := 6) rfl ?_); refine box_event ?hg (N := 6) ?hd (cs := #[.bool false, .slice none 0 0]) (t := 54) ?hr ?_; (case hd => rfl); (case hg => rfl); (case hr => first | (go_simp; done) | (go_simp; rfl)); intro g6 hg w7 hbox hb; have hs6_0 : w7.cell? ⟨g6, 0, none⟩ = some (.bool false) := (blk_cell hbox 0).trans rfl; have hf6_0 := blk_frozen hbox 0; have hs6_1 : w7.cell? ⟨g6, 1, none⟩ = some (.slice none 0 0) := (blk_cell hbox 1).trans rfl; have hf6_1 := blk_frozen hbox 1; have HG6 := Aside0.mk hg; have HX6 := Aside0.mk hbox; have HW6 := Aside0.mk hb; clear hg hbox hb)
        | ((with_reducible refine gate_store (t := 54) (p := 6) rfl ?_); refine store_event (t := 54) (p := 6) (v := ?vo6a) (w1 := ((w7.setCell ⟨g6, 0, none⟩ (.bool true)).setCell ⟨g6, 1, none⟩ (.slice A2 es.length c2_))) ?hg ?ho ?hn ?hr ?_; (case ho => rfl); (case hg => rfl); (case hn => rfl); (case hr => first | (go_simp; done) | (go_simp; rfl)); intro w8 hw; have hb : Below w.heap.size w w8 := (by rw [hw]; exact (below_set (below_set HW6.out (Nat.le_of_eq HG6.out.symm)) (Nat.le_of_eq HG6.out.symm))); have hbox : w8.heap[g6]? = some (.cells #[.bool true, .slice A2 es.length c2_] 54 (0, 0)) := (by rw [hw]; exact (blk_put (cs' := #[.bool true, .slice A2 es.length c2_]) (blk_put (cs' := #[.bool true, .slice none 0 0]) HX6.out 0 (.bool true) rfl) 1 (.slice A2 es.length c2_) rfl)); clear hw HG6 HX6 HW6 hs6_0 hf6_0 hs6_1 hf6_1; clear hk2_1 hz1 hz2; have HV8 := Aside0.mk (HV.out.next hb); have nHB_ := Aside0.mk (below_step HB.out hb); clear HB; have HB := nHB_; clear nHB_; have hk6_0 : w8.cell? ⟨g6, 0, none⟩ = some (.bool true) := (blk_cell hbox 0).trans rfl; have hk6_1 : w8.cell? ⟨g6, 1, none⟩ = some (.slice A2 es.length c2_) := (blk_cell hbox 1).trans rfl; clear hb hbox; have hk3 : w8.cell? ⟨g3, 0, none⟩ = some (.int .i64 id) := (blk_cell HV8.out.idb 0).trans rfl)
        | ((with_reducible refine gate_dst (N := 21) rfl ?_); refine goesL_ (some 21) rfl rfl Try.func103 (by kernel_rfl) rfl #[.slice A2 es.length c2_, .int .i64 id] rfl (by (try simp only [List.map_toArray, List.map_cons, List.map_nil]); first | done | rfl | (simp only [List.length_drop, List.length_take]; rfl)) ?_; refine (impl_EntryAt.calls k _ _ es id t _ (Kd.C_below HCC.out HV8.out.below) HL2.out HT.out).mono ?_; rintro e w9 ⟨rfl, hb⟩; refine ⟨_, rfl, ?_⟩; have nHB_ := Aside0.mk (below_step HB.out hb); clear HB hb hk3 hk6_0 hk6_1; have HB := nHB_; clear nHB_)
        | ((with_reducible refine gate_dst (N := 24) rfl ?_); refine Kd.R_lit (Kd.int .i64) _ 3 ?hg (N := 24) ?hd (xs := ([i] : List Int)) (inner := [.int .i64 i]) (ok := fun _ => True) (okp := fun _ => True) ?hr ?hp (fun _ hk => hk) trivial (Below.refl _ _) (Nat.le_refl _) (by simp) ?_; (case hd => rfl); (case hg => rfl); (case hr => first | (go_simp; done) | (go_simp; rfl)); (case hp => exact (Reps.one (show Kd.M (Kd.int .i64) _ _ _ i [.int .i64 i] from rfl) (Reps.none _ _))); intro v24 w10 ho hb hg_ hnew_; clear hg_ hnew_; have HO := Aside0.mk (Kd.R_lower ho HB.out.size); have nHB_ := Aside0.mk (below_step HB.out hb); clear HB hb ho; have HB := nHB_; clear nHB_))
      go_ret
      exact ⟨_, rfl, HO.out, HB.out⟩
    · rw [if_neg d1] at h
      obtain rfl := Option.some.inj h
      have d1b : decide (0 ≤ t) = false := decide_eq_false d1
      clear h d1
      go_enter Try.func102, Try.ntmps102
      go_wp2_with (first
        | ((with_reducible refine gate_dst (N := 6) rfl ?_); refine box_event ?hg (N := 6) ?hd (cs := #[.bool false, .slice none 0 0]) (t := 54) ?hr ?_; (case hd => rfl); (case hg => rfl); (case hr => first | (go_simp; done) | (go_simp; rfl)); intro g6 hg w7 hbox hb; have hs6_0 : w7.cell? ⟨g6, 0, none⟩ = some (.bool false) := (blk_cell hbox 0).trans rfl; have hf6_0 := blk_frozen hbox 0; have hs6_1 : w7.cell? ⟨g6, 1, none⟩ = some (.slice none 0 0) := (blk_cell hbox 1).trans rfl; have hf6_1 := blk_frozen hbox 1; have HG6 := Aside0.mk hg; have HX6 := Aside0.mk hbox; have HW6 := Aside0.mk hb; clear hg hbox hb)
        | ((with_reducible refine gate_store (t := 54) (p := 6) rfl ?_); refine store_event (t := 54) (p := 6) (v := ?vo6b) (w1 := ((w7.setCell ⟨g6, 0, none⟩ (.bool true)).setCell ⟨g6, 1, none⟩ (.slice A2 es.length c2_))) ?hg ?ho ?hn ?hr ?_; (case ho => rfl); (case hg => rfl); (case hn => rfl); (case hr => first | (go_simp; done) | (go_simp; rfl)); intro w8 hw; have hb : Below w.heap.size w w8 := (by rw [hw]; exact (below_set (below_set HW6.out (Nat.le_of_eq HG6.out.symm)) (Nat.le_of_eq HG6.out.symm))); have hbox : w8.heap[g6]? = some (.cells #[.bool true, .slice A2 es.length c2_] 54 (0, 0)) := (by rw [hw]; exact (blk_put (cs' := #[.bool true, .slice A2 es.length c2_]) (blk_put (cs' := #[.bool true, .slice none 0 0]) HX6.out 0 (.bool true) rfl) 1 (.slice A2 es.length c2_) rfl)); clear hw HG6 HX6 HW6 hs6_0 hf6_0 hs6_1 hf6_1; clear hk2_1 hz1 hz2; have HV8 := Aside0.mk (HV.out.next hb); have nHB_ := Aside0.mk (below_step HB.out hb); clear HB; have HB := nHB_; clear nHB_; have hk6_0 : w8.cell? ⟨g6, 0, none⟩ = some (.bool true) := (blk_cell hbox 0).trans rfl; have hk6_1 : w8.cell? ⟨g6, 1, none⟩ = some (.slice A2 es.length c2_) := (blk_cell hbox 1).trans rfl; clear hb hbox; have hk3 : w8.cell? ⟨g3, 0, none⟩ = some (.int .i64 id) := (blk_cell HV8.out.idb 0).trans rfl)
        | ((with_reducible refine gate_dst (N := 21) rfl ?_); refine goesL_ (some 21) rfl rfl Try.func103 (by kernel_rfl) rfl #[.slice A2 es.length c2_, .int .i64 id] rfl (by (try simp only [List.map_toArray, List.map_cons, List.map_nil]); first | done | rfl | (simp only [List.length_drop, List.length_take]; rfl)) ?_; refine (impl_EntryAt.calls k _ _ es id t _ (Kd.C_below HCC.out HV8.out.below) HL2.out HT.out).mono ?_; rintro e w9 ⟨rfl, hb⟩; refine ⟨_, rfl, ?_⟩; have nHB_ := Aside0.mk (below_step HB.out hb); clear HB hb hk3 hk6_0 hk6_1; have HB := nHB_; clear nHB_))
      go_ret
      exact ⟨_, rfl, Kd.R_nil _ _ _ _ _, HB.out⟩
  | false =>
    rw [if_neg (by decide)] at h
    have H' := Aside0.mk h
    clear h
    go_enter Try.func102, Try.ntmps102
    go_wp2_with (first
      | ((with_reducible refine gate_dst (N := 6) rfl ?_); refine box_event ?hg (N := 6) ?hd (cs := #[.bool false, .slice none 0 0]) (t := 54) ?hr ?_; (case hd => rfl); (case hg => rfl); (case hr => first | (go_simp; done) | (go_simp; rfl)); intro g6 hg w7 hbox hb; have hs6_0 : w7.cell? ⟨g6, 0, none⟩ = some (.bool false) := (blk_cell hbox 0).trans rfl; have hf6_0 := blk_frozen hbox 0; have hs6_1 : w7.cell? ⟨g6, 1, none⟩ = some (.slice none 0 0) := (blk_cell hbox 1).trans rfl; have hf6_1 := blk_frozen hbox 1; have HG6 := Aside0.mk hg; have HX6 := Aside0.mk hbox; have HW6 := Aside0.mk hb; clear hg hbox hb)
      | ((with_reducible refine gate_store (t := 54) (p := 6) rfl ?_); refine store_event (t := 54) (p := 6) (v := ?vo6c) (w1 := ((w7.setCell ⟨g6, 0, none⟩ (.bool false)).setCell ⟨g6, 1, none⟩ (.slice A2 es.length c2_))) ?hg ?ho ?hn ?hr ?_; (case ho => rfl); (case hg => rfl); (case hn => rfl); (case hr => first | (go_simp; done) | (go_simp; rfl)); intro w8 hw; have hb : Below w.heap.size w w8 := (by rw [hw]; exact (below_set (below_set HW6.out (Nat.le_of_eq HG6.out.symm)) (Nat.le_of_eq HG6.out.symm))); have hbox : w8.heap[g6]? = some (.cells #[.bool false, .slice A2 es.length c2_] 54 (0, 0)) := (by rw [hw]; exact (blk_put (cs' := #[.bool false, .slice A2 es.length c2_]) (blk_put (cs' := #[.bool false, .slice none 0 0]) HX6.out 0 (.bool false) rfl) 1 (.slice A2 es.length c2_) rfl)); clear hw HG6 HX6 HW6 hs6_0 hf6_0 hs6_1 hf6_1; clear hk2_1 hz1 hz2; have HV8 := Aside0.mk (HV.out.next hb); have nHB_ := Aside0.mk (below_step HB.out hb); clear HB; have HB := nHB_; clear nHB_; have hk6_0 : w8.cell? ⟨g6, 0, none⟩ = some (.bool false) := (blk_cell hbox 0).trans rfl; have hk6_1 : w8.cell? ⟨g6, 1, none⟩ = some (.slice A2 es.length c2_) := (blk_cell hbox 1).trans rfl; clear hb hbox))
    go_loopg [28] k (fun kq v28 w' => ∃ (x : Int), v28 = .int .i64 x ∧ Aside0 (pathL kq ps es i id x = some r) ∧ Aside0 (kq ≤ k) ∧ Aside0 (FState w0 g2 g3 g5 root (some ad) c ps.length id w') ∧ Aside0 (Below w.heap.size w w'))
    case atStart => exact ⟨0, rfl, H', ⟨Nat.le_refl _⟩, HV8, HB⟩
    case round =>
      clear H' HV8 hk6_0 hk6_1 HB
      obtain ⟨x, rfl, HA, HK1, HV2, HB⟩ := hrel
      cases gk with
      | zero => exact absurd HA.out (by simp [pathL])
      | succ k1 =>
        have H := HA.out
        clear HA
        rw [pathL] at H
        by_cases d1 : x < (es.length : Int)
        rotate_left
        · rw [if_neg d1] at H
          have d1b : decide (x < (es.length : Int)) = false := decide_eq_false d1
          obtain rfl := Option.some.inj H
          clear H d1
          go_wp2
          go_ret
          exact ⟨_, rfl, Kd.R_nil _ _ _ _ _, HB.out⟩
        rw [if_pos d1] at H
        have d1b : decide (x < (es.length : Int)) = true := decide_eq_true d1
        by_cases d2 : 0 ≤ x
        rotate_left
        · rw [if_neg d2] at H
          exact absurd H (by simp)
        rw [if_pos d2] at H
        obtain ⟨rest, hq, H⟩ := Option.bind_eq_some_iff.mp H
        have HQ := Aside0.mk hq
        clear hq
        obtain ⟨ad3, e3, hy0, hy1, hy2, hy3, hy4⟩ := at_T103 HCC.out x d2 d1
        cases e3
        replace hy0 := (HV2.out.below.cell (World.block_lt_of_cell? w0 _ hy0)).trans hy0
        replace hy1 := (HV2.out.below.cell (World.block_lt_of_cell? w0 _ hy1)).trans hy1
        replace hy2 := (HV2.out.below.cell (World.block_lt_of_cell? w0 _ hy2)).trans hy2
        replace hy3 := (HV2.out.below.cell (World.block_lt_of_cell? w0 _ hy3)).trans hy3
        replace hy4 := (HV2.out.below.cell (World.block_lt_of_cell? w0 _ hy4)).trans hy4
        generalize rd_T103 es x = en at HQ hy0 hy1 hy2 hy3 hy4
        obtain ⟨c0, b0, b1, b2, b3⟩ := en
        dsimp only at HQ hy0 hy1 hy2 hy3 hy4
        by_cases d3 : 0 < rest.length
        · rw [if_pos d3] at H
          by_cases d4 : rest.length < 17592186044415
          rotate_left
          · rw [if_neg d4] at H
            exact absurd H (by simp)
          rw [if_pos d4] at H
          obtain rfl := Option.some.inj H
          have LEN := Aside0.mk d4
          have d3b : decide (0 < (rest.length : Int)) = true := decide_eq_true (by omega)
          have d3c : decide (0 < rest.length) = true := decide_eq_true d3
          clear H d4 d3
          go_wp2_with (first
            | ((with_reducible refine gate_dst (N := 8) rfl ?_); refine box_event ?hg (N := 8) ?hd (cs := #[.int .i64 0, .int .i64 0, .int .i64 0, .int .i64 0, .int .i64 0]) (t := 103) ?hr ?_; (case hd => rfl); (case hg => rfl); (case hr => first | (go_simp; done) | (go_simp; rfl)); intro g8 hg w7 hbox hb; have HG8 := Aside0.mk hg; have HX8 := Aside0.mk hbox; have HW8 := Aside0.mk hb; clear hg hbox hb)
            | ((with_reducible refine gate_store (t := 103) (p := 8) rfl ?_); refine store_event (t := 103) (p := 8) (v := ?vo8d) (w1 := (((((w7.setCell ⟨g8, 0, none⟩ (.int .i64 c0)).setCell ⟨g8, 1, none⟩ (.int .i64 b0)).setCell ⟨g8, 2, none⟩ (.int .i64 b1)).setCell ⟨g8, 3, none⟩ (.int .i64 b2)).setCell ⟨g8, 4, none⟩ (.int .i64 b3))) ?hg ?ho ?hn ?hr ?_; (case ho => rfl); (case hg => rfl); (case hn => rfl); (case hr => exact store5_run _ _ 8 31 rfl g8 w7 _ _ _ _ _ rfl rfl HX8.out); intro w8 hw; have hb : Below wr.heap.size wr w8 := (by rw [hw]; exact (below_set (below_set (below_set (below_set (below_set HW8.out (Nat.le_of_eq HG8.out.symm)) (Nat.le_of_eq HG8.out.symm)) (Nat.le_of_eq HG8.out.symm)) (Nat.le_of_eq HG8.out.symm)) (Nat.le_of_eq HG8.out.symm))); have hbox : w8.heap[g8]? = some (.cells #[.int .i64 c0, .int .i64 b0, .int .i64 b1, .int .i64 b2, .int .i64 b3] 103 (0, 0)) := (by rw [hw]; exact (blk_put (cs' := #[.int .i64 c0, .int .i64 b0, .int .i64 b1, .int .i64 b2, .int .i64 b3]) (blk_put (cs' := #[.int .i64 c0, .int .i64 b0, .int .i64 b1, .int .i64 b2, .int .i64 0]) (blk_put (cs' := #[.int .i64 c0, .int .i64 b0, .int .i64 b1, .int .i64 0, .int .i64 0]) (blk_put (cs' := #[.int .i64 c0, .int .i64 b0, .int .i64 0, .int .i64 0, .int .i64 0]) (blk_put (cs' := #[.int .i64 c0, .int .i64 0, .int .i64 0, .int .i64 0, .int .i64 0]) HX8.out 0 (.int .i64 c0) rfl) 1 (.int .i64 b0) rfl) 2 (.int .i64 b1) rfl) 3 (.int .i64 b2) rfl) 4 (.int .i64 b3) rfl)); clear hw HG8 HX8 HW8; clear hy0 hy1 hy2 hy3 hy4; have HV8 := Aside0.mk (HV2.out.next hb); have nHB_ := Aside0.mk (below_step HB.out hb); clear HB HV2; have HB := nHB_; clear nHB_; have hk8 : w8.cell? ⟨g8, 0, none⟩ = some (.int .i64 c0) := (blk_cell hbox 0).trans rfl; have hk5 := HV8.out.fncell; clear hb hbox)
            | (go_at_call 102; refine (IH.out k1 (by have := HK1.out; omega) _ rest _ HV8.out HQ.out).mono ?_; rintro e w9 ⟨v9, rfl, ho, hb⟩; have HV9 := Aside0.mk (HV8.out.next hb); have HO9 := Aside0.mk (Kd.R_lower ho HB.out.size); have nHB_ := Aside0.mk (below_step HB.out hb); clear HB HV8 hb ho hk8 hk5; have HB := nHB_; clear nHB_; obtain ⟨Ao, co, eo⟩ := Kd.R_slice HO9.out; subst eo)
            | ((with_reducible refine gate_dst (N := 40) rfl ?_); refine Kd.R_lit (Kd.int .i64) _ 3 ?hg (N := 40) ?hd (xs := ([i] : List Int)) (inner := [.int .i64 i]) (ok := fun _ => True) (okp := fun _ => True) ?hr ?hp (fun _ hk => hk) trivial (Below.refl _ _) (Nat.le_refl _) (by simp) ?_; (case hd => rfl); (case hg => rfl); (case hr => first | (go_simp; done) | (go_simp; rfl)); (case hp => exact (Reps.one (show Kd.M (Kd.int .i64) _ _ _ i [.int .i64 i] from rfl) (Reps.none _ _))); intro v40 w10 ho hb hg_ hnew_; clear hg_ hnew_; have HO10 := Aside0.mk (Kd.R_lower ho HB.out.size); have nHB_ := Aside0.mk (below_step HB.out hb); have nHO_ := Aside0.mk (Kd.R_below HO9.out hb); clear HB hb ho HO9; have HB := nHB_; have HO9 := nHO_; clear nHB_ nHO_)
            | ((with_reducible refine gate_builtin (b := .append) (xs := #[.tmp 40, .tmp 41]) rfl ?_); at_builtin; refine Kd.R_append_rows (Kd.int .i64) (w0 := w) w.heap.size rfl (.tmp 40) (.tmp 41) 64 3 (.int .i64 0) 8 rfl Try.underlying64 hinfoInt rfl (by decide) (by omega) v40 [i] rest _ _ _ (fun _ => True) (fun _ => False) rfl rfl HO10.out (Kd.R_reads' HO9.out).2.2 (fun _ _ h => h) (fun _ h => h.elim) (fun _ _ => trivial) HB.out HB.out.size (by have := LEN.out; simp only [List.length_cons, List.length_nil]; omega) ?_; intro v42 w11 ho hb _ _; have HO11 := Aside0.mk ho; have HB11 := Aside0.mk hb; clear ho hb))
          go_ret
          exact ⟨_, rfl, HO11.out, HB11.out⟩
        · rw [if_neg d3] at H
          have H' := Aside0.mk H
          have d3b : decide (0 < (rest.length : Int)) = false := decide_eq_false (by omega)
          have d3c : decide (0 < rest.length) = false := decide_eq_false d3
          clear H d3
          go_wp2_with (first
            | ((with_reducible refine gate_dst (N := 8) rfl ?_); refine box_event ?hg (N := 8) ?hd (cs := #[.int .i64 0, .int .i64 0, .int .i64 0, .int .i64 0, .int .i64 0]) (t := 103) ?hr ?_; (case hd => rfl); (case hg => rfl); (case hr => first | (go_simp; done) | (go_simp; rfl)); intro g8 hg w7 hbox hb; have HG8 := Aside0.mk hg; have HX8 := Aside0.mk hbox; have HW8 := Aside0.mk hb; clear hg hbox hb)
            | ((with_reducible refine gate_store (t := 103) (p := 8) rfl ?_); refine store_event (t := 103) (p := 8) (v := ?vo8e) (w1 := (((((w7.setCell ⟨g8, 0, none⟩ (.int .i64 c0)).setCell ⟨g8, 1, none⟩ (.int .i64 b0)).setCell ⟨g8, 2, none⟩ (.int .i64 b1)).setCell ⟨g8, 3, none⟩ (.int .i64 b2)).setCell ⟨g8, 4, none⟩ (.int .i64 b3))) ?hg ?ho ?hn ?hr ?_; (case ho => rfl); (case hg => rfl); (case hn => rfl); (case hr => exact store5_run _ _ 8 31 rfl g8 w7 _ _ _ _ _ rfl rfl HX8.out); intro w8 hw; have hb : Below wr.heap.size wr w8 := (by rw [hw]; exact (below_set (below_set (below_set (below_set (below_set HW8.out (Nat.le_of_eq HG8.out.symm)) (Nat.le_of_eq HG8.out.symm)) (Nat.le_of_eq HG8.out.symm)) (Nat.le_of_eq HG8.out.symm)) (Nat.le_of_eq HG8.out.symm))); have hbox : w8.heap[g8]? = some (.cells #[.int .i64 c0, .int .i64 b0, .int .i64 b1, .int .i64 b2, .int .i64 b3] 103 (0, 0)) := (by rw [hw]; exact (blk_put (cs' := #[.int .i64 c0, .int .i64 b0, .int .i64 b1, .int .i64 b2, .int .i64 b3]) (blk_put (cs' := #[.int .i64 c0, .int .i64 b0, .int .i64 b1, .int .i64 b2, .int .i64 0]) (blk_put (cs' := #[.int .i64 c0, .int .i64 b0, .int .i64 b1, .int .i64 0, .int .i64 0]) (blk_put (cs' := #[.int .i64 c0, .int .i64 b0, .int .i64 0, .int .i64 0, .int .i64 0]) (blk_put (cs' := #[.int .i64 c0, .int .i64 0, .int .i64 0, .int .i64 0, .int .i64 0]) HX8.out 0 (.int .i64 c0) rfl) 1 (.int .i64 b0) rfl) 2 (.int .i64 b1) rfl) 3 (.int .i64 b2) rfl) 4 (.int .i64 b3) rfl)); clear hw HG8 HX8 HW8; clear hy0 hy1 hy2 hy3 hy4; have HV8 := Aside0.mk (HV2.out.next hb); have nHB_ := Aside0.mk (below_step HB.out hb); clear HB HV2; have HB := nHB_; clear nHB_; have hk8 : w8.cell? ⟨g8, 0, none⟩ = some (.int .i64 c0) := (blk_cell hbox 0).trans rfl; have hk5 := HV8.out.fncell; clear hb hbox)
            | (go_at_call 102; refine (IH.out k1 (by have := HK1.out; omega) _ rest _ HV8.out HQ.out).mono ?_; rintro e w9 ⟨v9, rfl, ho, hb⟩; have HV9 := Aside0.mk (HV8.out.next hb); have HO9 := Aside0.mk (Kd.R_lower ho HB.out.size); have nHB_ := Aside0.mk (below_step HB.out hb); clear HB HV8 hb ho hk8 hk5; have HB := nHB_; clear nHB_; obtain ⟨Ao, co, eo⟩ := Kd.R_slice HO9.out; subst eo))
          go_roundg k1
          case measure => have := HK1.out; omega
          case rel => exact ⟨_, rfl, H', ⟨by have := HK1.out; omega⟩, HV9, HB⟩
theorem path_all (w0 : World) (g2 g3 g5 : Nat) (root : Int) (A : Option Addr) (c : Nat) (id : Int) (ps : List S90) (hr0 : Kd.C k90 w0 A ps.length ps) (hc0 : ps.length ≤ c) : ∀ k k', k' ≤ k → PathSaid w0 g2 g3 g5 root A c id ps k'
  | 0, k', hk => by
    obtain rfl : k' = 0 := by omega
    intro i r w _ h
    simp [pathM] at h
  | k + 1, k', hk => by
    rcases Nat.lt_or_ge k' (k + 1) with hlt | hge
    · exact path_all w0 g2 g3 g5 root A c id ps hr0 hc0 k k' (by omega)
    obtain rfl : k' = k + 1 := by omega
    exact path_step w0 g2 g3 g5 root A c id ps hr0 hc0 k (fun k' hk' => path_all w0 g2 g3 g5 root A c id ps hr0 hc0 k k' hk')
theorem func_store3 (o : Oper) (a : Act) (p v : Tmp) (hop : o.op = .store 111 (.tmp p) (.tmp v)) (g : Nat) (w : World) (f : FuncId) (fs : Array Value) (hp : a.eval (.tmp p) = .pointer (some ⟨g, 0, none⟩)) (hv : a.eval (.tmp v) = .func (.func f) #[] fs)
    (hbox : w.heap[g]? = some (.cells #[.nilFunc] 111 (0, 0))) : (execOp a.eval o).run Try.prog w = .ok .skip (w.setCell ⟨g, 0, none⟩ (.func (.func f) #[] fs)) := by
  have hs : w.cell? ⟨g, 0, none⟩ = some .nilFunc := (blk_cell hbox 0).trans rfl
  have hf := blk_frozen hbox 0
  have hu := Try.underlying111
  unfold execOp
  rw [hop]
  simp only [hp, hv]
  have hone : (Value.func (.func f) #[] fs).oneCell' = true := rfl
  clear hop hp hv hbox
  first | (go_simp; done) | (go_simp; rfl) | (go_simp; rw [run_store _ _ _ _ _ hone]; simp [hs, hf]; done)
set_option maxHeartbeats 8000000 in
set_option maxRecDepth 100000 in
theorem impl_PathTo.calls (k : Nat) (a0_0 : Int) (A0_1 : Option Addr) (c0_1 : Nat) (l0_1 : List (S90)) (a1 : Int) (r : List Int) (w : World) (hr0_1 : Kd.C k90 w A0_1 l0_1.length l0_1) (hc0_1 : l0_1.length ≤ c0_1) (h : impl_PathTo.f k a0_0 l0_1 a1 = some r) :
    Calls Try.prog 51 #[.agg #[.int .i64 a0_0, .slice A0_1 l0_1.length c0_1], .int .i64 a1] w fun e w' => ∃ v0_ : Value, e = .returned (v0_) ∧ Kd.R (Kd.int .i64) 3 w' w.heap.size (fun _ => True) v0_ r ∧ Below w.heap.size w w' := by
  have HS := Aside0.mk (fun g2 g3 g5 => path_all w g2 g3 g5 a0_0 A0_1 c0_1 a1 l0_1 hr0_1 hc0_1 k k (Nat.le_refl _))
  have HR := Aside0.mk hr0_1
  have HC := Aside0.mk hc0_1
  clear hr0_1 hc0_1
  have HB := Aside0.mk (Below.refl w.heap.size w)
  have hu2 := Try.underlying49
  unfold impl_PathTo.f at h
  obtain ⟨t, ht, h⟩ := Option.bind_eq_some_iff.mp h
  have HT := Aside0.mk ht
  clear ht
  cases t with
  | false =>
    rw [if_neg (by decide)] at h
    obtain rfl := Option.some.inj h
    clear h
    go_enter Try.func51, Try.ntmps51
    go_wp2_with (first
      | ((with_reducible refine gate_dst (N := 2) rfl ?_); refine box_event ?hg (N := 2) ?hd (cs := #[.int .i64 a0_0, .slice A0_1 l0_1.length c0_1]) (t := 49) ?hr ?_; (case hd => rfl); (case hg => rfl); (case hr => first | (go_simp; done) | (go_simp; rfl)); intro g2 hg w1 hbox hb; have nHB_ := Aside0.mk (below_step HB.out hb); clear HB; have HB := nHB_; clear nHB_; have BK2 := Aside0.mk hbox; clear hb hg hbox; have hk2_0 : w1.cell? ⟨g2, 0, none⟩ = some (.int .i64 a0_0) := (blk_cell BK2.out 0).trans rfl; have hk2_1 : w1.cell? ⟨g2, 1, none⟩ = some (.slice A0_1 l0_1.length c0_1) := (blk_cell BK2.out 1).trans rfl)
      | ((with_reducible refine gate_dst (N := 3) rfl ?_); refine box_event ?hg (N := 3) ?hd (cs := #[.int .i64 a1]) (t := 3) ?hr ?_; (case hd => rfl); (case hg => rfl); (case hr => first | (go_simp; done) | (go_simp; rfl)); intro g3 hg w1b hbox hb; clear hk2_0 hk2_1; have nHB_ := Aside0.mk (below_step HB.out hb); have nBK2_ := Aside0.mk (blk_below BK2.out hb); clear HB BK2; have HB := nHB_; have BK2 := nBK2_; clear nHB_ nBK2_; have BK3 := Aside0.mk hbox; clear hb hg hbox; have hk2_0 : w1b.cell? ⟨g2, 0, none⟩ = some (.int .i64 a0_0) := (blk_cell BK2.out 0).trans rfl; have hk2_1 : w1b.cell? ⟨g2, 1, none⟩ = some (.slice A0_1 l0_1.length c0_1) := (blk_cell BK2.out 1).trans rfl)
      | ((with_reducible refine gate_dst (N := 7) rfl ?_); refine goesL_ (some 7) rfl rfl Try.func42 (by kernel_rfl) rfl #[.agg #[.int .i64 a0_0, .slice A0_1 l0_1.length c0_1]] rfl (by (try simp only [List.map_toArray, List.map_cons, List.map_nil]); first | done | rfl | (simp only [List.length_drop, List.length_take]; rfl)) ?_; refine (impl_BookOk.calls k a0_0 _ _ l0_1 false _ (Kd.C_below HR.out HB.out) HC.out HT.out).mono ?_; rintro e w2 ⟨rfl, hb⟩; refine ⟨_, rfl, ?_⟩; clear hk2_0 hk2_1; have nHB_ := Aside0.mk (below_step HB.out hb); have nBK2_ := Aside0.mk (blk_below BK2.out hb); have nBK3_ := Aside0.mk (blk_below BK3.out hb); clear HB BK2 BK3; have HB := nHB_; have BK2 := nBK2_; have BK3 := nBK3_; clear nHB_ nBK2_ nBK3_; clear hb; have hk2_0 : w2.cell? ⟨g2, 0, none⟩ = some (.int .i64 a0_0) := (blk_cell BK2.out 0).trans rfl; have hk2_1 : w2.cell? ⟨g2, 1, none⟩ = some (.slice A0_1 l0_1.length c0_1) := (blk_cell BK2.out 1).trans rfl))
    go_ret
    exact ⟨_, rfl, Kd.R_nil _ _ _ _ _, HB.out⟩
  | true =>
    rw [if_pos rfl] at h
    have HQ := Aside0.mk h
    clear h
    go_enter Try.func51, Try.ntmps51
    go_wp2_with (first
      | ((with_reducible refine gate_dst (N := 2) rfl ?_); refine box_event ?hg (N := 2) ?hd (cs := #[.int .i64 a0_0, .slice A0_1 l0_1.length c0_1]) (t := 49) ?hr ?_; (case hd => rfl); (case hg => rfl); (case hr => first | (go_simp; done) | (go_simp; rfl)); intro g2 hg w1 hbox hb; have nHB_ := Aside0.mk (below_step HB.out hb); clear HB; have HB := nHB_; clear nHB_; have BK2 := Aside0.mk hbox; clear hb hg hbox; have hk2_0 : w1.cell? ⟨g2, 0, none⟩ = some (.int .i64 a0_0) := (blk_cell BK2.out 0).trans rfl; have hk2_1 : w1.cell? ⟨g2, 1, none⟩ = some (.slice A0_1 l0_1.length c0_1) := (blk_cell BK2.out 1).trans rfl)
      | ((with_reducible refine gate_dst (N := 3) rfl ?_); refine box_event ?hg (N := 3) ?hd (cs := #[.int .i64 a1]) (t := 3) ?hr ?_; (case hd => rfl); (case hg => rfl); (case hr => first | (go_simp; done) | (go_simp; rfl)); intro g3 hg w1b hbox hb; clear hk2_0 hk2_1; have nHB_ := Aside0.mk (below_step HB.out hb); have nBK2_ := Aside0.mk (blk_below BK2.out hb); clear HB BK2; have HB := nHB_; have BK2 := nBK2_; clear nHB_ nBK2_; have BK3 := Aside0.mk hbox; clear hb hg hbox; have hk2_0 : w1b.cell? ⟨g2, 0, none⟩ = some (.int .i64 a0_0) := (blk_cell BK2.out 0).trans rfl; have hk2_1 : w1b.cell? ⟨g2, 1, none⟩ = some (.slice A0_1 l0_1.length c0_1) := (blk_cell BK2.out 1).trans rfl)
      | ((with_reducible refine gate_dst (N := 7) rfl ?_); refine goesL_ (some 7) rfl rfl Try.func42 (by kernel_rfl) rfl #[.agg #[.int .i64 a0_0, .slice A0_1 l0_1.length c0_1]] rfl (by (try simp only [List.map_toArray, List.map_cons, List.map_nil]); first | done | rfl | (simp only [List.length_drop, List.length_take]; rfl)) ?_; refine (impl_BookOk.calls k a0_0 _ _ l0_1 true _ (Kd.C_below HR.out HB.out) HC.out HT.out).mono ?_; rintro e w2 ⟨rfl, hb⟩; refine ⟨_, rfl, ?_⟩; clear hk2_0 hk2_1; have nHB_ := Aside0.mk (below_step HB.out hb); have nBK2_ := Aside0.mk (blk_below BK2.out hb); have nBK3_ := Aside0.mk (blk_below BK3.out hb); clear HB BK2 BK3; have HB := nHB_; have BK2 := nBK2_; have BK3 := nBK3_; clear nHB_ nBK2_ nBK3_; clear hb; have hk2_0 : w2.cell? ⟨g2, 0, none⟩ = some (.int .i64 a0_0) := (blk_cell BK2.out 0).trans rfl; have hk2_1 : w2.cell? ⟨g2, 1, none⟩ = some (.slice A0_1 l0_1.length c0_1) := (blk_cell BK2.out 1).trans rfl)
      | ((with_reducible refine gate_dst (N := 5) rfl ?_); refine box_event ?hg (N := 5) ?hd (cs := #[.nilFunc]) (t := 111) ?hr ?_; (case hd => rfl); (case hg => rfl); (case hr => first | (go_simp; done) | (go_simp; rfl)); intro g5 hg w7 hbox hb; have GE5 := Aside0.mk (by rw [hg]; exact HB.out.size : w.heap.size ≤ g5); clear hk2_0 hk2_1; have nHB_ := Aside0.mk (below_step HB.out hb); have nBK2_ := Aside0.mk (blk_below BK2.out hb); have nBK3_ := Aside0.mk (blk_below BK3.out hb); clear HB BK2 BK3; have HB := nHB_; have BK2 := nBK2_; have BK3 := nBK3_; clear nHB_ nBK2_ nBK3_; have BK5 := Aside0.mk hbox; clear hb hg hbox; have hk2_0 : w7.cell? ⟨g2, 0, none⟩ = some (.int .i64 a0_0) := (blk_cell BK2.out 0).trans rfl; have hk2_1 : w7.cell? ⟨g2, 1, none⟩ = some (.slice A0_1 l0_1.length c0_1) := (blk_cell BK2.out 1).trans rfl; have hs5 : w7.cell? ⟨g5, 0, none⟩ = some .nilFunc := (blk_cell BK5.out 0).trans rfl; have hf5 := blk_frozen BK5.out 0)
      | ((with_reducible refine gate_store (t := 111) (p := 5) rfl ?_); refine store_event (t := 111) (p := 5) (v := ?vs5) (w1 := (w7.setCell ⟨g5, 0, none⟩ (.func (.func 102) #[] #[.pointer (some ⟨g2, 0, none⟩), .pointer (some ⟨g3, 0, none⟩), .pointer (some ⟨g5, 0, none⟩)]))) ?hg ?ho ?hn ?hr ?_; (case ho => rfl); (case hg => rfl); (case hn => rfl); (case hr => exact func_store3 _ _ 5 9 rfl g5 w7 _ _ rfl rfl BK5.out); intro w8 hw; have HV := Aside0.mk (show FState w g2 g3 g5 a0_0 A0_1 c0_1 l0_1.length a1 w8 from hw ▸ ⟨below_set HB.out GE5.out, blkFarH BK2.out (blkNe BK2.out BK5.out (by decide)) (.func (.func 102) #[] #[.pointer (some ⟨g2, 0, none⟩), .pointer (some ⟨g3, 0, none⟩), .pointer (some ⟨g5, 0, none⟩)]), blkFarH BK3.out (blkNe BK3.out BK5.out (by decide)) (.func (.func 102) #[] #[.pointer (some ⟨g2, 0, none⟩), .pointer (some ⟨g3, 0, none⟩), .pointer (some ⟨g5, 0, none⟩)]), blk_put (cs' := #[.func (.func 102) #[] #[.pointer (some ⟨g2, 0, none⟩), .pointer (some ⟨g3, 0, none⟩), .pointer (some ⟨g5, 0, none⟩)]]) BK5.out 0 (.func (.func 102) #[] #[.pointer (some ⟨g2, 0, none⟩), .pointer (some ⟨g3, 0, none⟩), .pointer (some ⟨g5, 0, none⟩)]) rfl⟩); clear hw hk2_0 hk2_1 hs5 hf5; have hk5 := HV.out.fncell; have hk2_0 : w8.cell? ⟨g2, 0, none⟩ = some (.int .i64 a0_0) := (blk_cell HV.out.box 0).trans rfl)
      | (go_at_call 102; refine (HS.out g2 g3 g5 a0_0 r _ HV.out HQ.out).mono ?_; rintro e w11 ⟨v11, rfl, ho, hb⟩; have HOO := Aside0.mk (Kd.R_lower ho HV.out.below.size); have HBB := Aside0.mk (below_step HV.out.below hb); clear ho hb hk5 hk2_0))
    go_ret
    exact ⟨_, rfl, HOO.out, HBB.out⟩

end Go.Proofs.Ytngjaajcdbodeaa.All

/- Small lemmas on worlds for the laws' chains. No condition. -/
namespace Go.Proofs.Ytngjaajcdbodeaa.All
open Go.RowKit Go.Proofs.YtngjaajcdbodeaaW.PrintWords Go.Proofs.YtngjaajcdbodeaaW.PrintLast Go.Proofs.YtngjaajcdbodeaaW.PrintMore
theorem calls_args {P : Program} {f : FuncId} {args args' : Array Value} {w : World} {Q : Ending → World → Prop} (h : args = args') (hc : Calls P f args' w Q) : Calls P f args w Q := h ▸ hc
end Go.Proofs.Ytngjaajcdbodeaa.All

/- The law FnExactPathTo as a chain over the contracts of what it calls. No condition. -/
namespace Go.Proofs.Ytngjaajcdbodeaa.All
open Go.RowKit Go.Proofs.YtngjaajcdbodeaaW.PrintWords Go.Proofs.YtngjaajcdbodeaaW.PrintLast Go.Proofs.YtngjaajcdbodeaaW.PrintMore
set_option linter.unusedVariables false
set_option linter.unusedSimpArgs false

/-! ### laws_FnExactPathTo -/
def laws_FnExactPathTo.f (k : Nat) (a0_0 : Int) (l0_1 : List (S118)) (a1 : Int) : Option Bool := ((laws_szBook.f k a0_0 l0_1 1048576).bind fun r15_0 => (if r15_0 < 0 then some true else ((laws_toBook.f k a0_0 l0_1).bind fun (r19_0, r19_1) => ((spec_PathTo.f k r19_0 r19_1 a1).bind fun r21_0 => ((laws_toBook.f k a0_0 l0_1).bind fun (r23_0, r23_1) => ((impl_PathTo.f k r23_0 r23_1 a1).bind fun r26_0 => ((laws_eqIntS.f k r26_0 r21_0).bind fun r29_0 => (if r29_0 = true then ((laws_toBook.f k a0_0 l0_1).bind fun (r33_0, r33_1) => ((laws_eqBook.f k r23_0 r23_1 r33_0 r33_1).bind fun r34_0 => (if r34_0 = true then ((laws_markBook.f k r23_0 r23_1 1).bind fun (r38_0, r38_1) => ((laws_eqIntS.f k r26_0 r21_0).bind fun r44_0 => (if ¬ r38_0 < 0 then (if r44_0 = true then ((laws_markIntS.f k r26_0 1).bind fun (r49_0, r49_1) => ((laws_heldIntS.f k r49_1 1).bind fun r52_0 => (if ¬ r52_0 < 0 then (if r52_0 = r49_0 then ((laws_toBook.f k a0_0 l0_1).bind fun (r59_0, r59_1) => ((impl_PathTo.f k r59_0 r59_1 a1).bind fun r61_0 => ((laws_eqIntS.f k r61_0 r21_0).bind fun r64_0 => (if r64_0 = true then ((laws_heldIntS.f k r49_1 1).bind fun r68_0 => (if ¬ r68_0 < 0 then (if r68_0 = r49_0 then some true else none) else none)) else none)))) else none) else none))) else none) else none))) else none))) else none))))))))
set_option maxHeartbeats 4000000 in
set_option maxRecDepth 100000 in
theorem laws_FnExactPathTo.calls (k : Nat) (a0_0 : Int) (A0_1 : Option Addr) (c0_1 : Nat) (l0_1 : List (S118)) (a1 : Int) (r : Bool) (w : World) (hr0_1 : Kd.C k118 w A0_1 l0_1.length l0_1) (hc0_1 : l0_1.length ≤ c0_1) (h : laws_FnExactPathTo.f k a0_0 l0_1 a1 = some r) :
    Calls Try.prog 11 #[.agg #[.int .i64 a0_0, .slice A0_1 l0_1.length c0_1], .int .i64 a1] w fun e w' => e = .returned (.bool r) ∧ Below w.heap.size w w' := by
  have hu41 := Try.underlying41
  have hu49 := Try.underlying49
  have HR0_1 := Aside0.mk hr0_1
  have HC0_1 := Aside0.mk hc0_1
  clear hr0_1 hc0_1
  obtain ⟨T0, hT0⟩ : ∃ n_, n_ = w.heap.size := ⟨_, rfl⟩
  have HT := Aside0.mk (Nat.le_of_eq hT0)
  have TB0 := Aside0.mk (show w.heap.size ≤ T0 from Nat.le_of_eq hT0.symm)
  clear hT0
  have HB := Aside0.mk (Below.refl w.heap.size w)
  have H := h
  clear h
  unfold laws_FnExactPathTo.f at H
  obtain ⟨r15_0, E15_, H⟩ := Option.bind_eq_some_iff.mp H
  have E15 := Aside0.mk E15_
  clear E15_
  by_cases c17 : r15_0 < 0
  · rw [if_pos c17] at H
    have c17b : decide (r15_0 < 0) = true := decide_eq_true c17
    clear c17
    obtain rfl := Option.some.inj H
    go_enter Try.func11, Try.ntmps11
    go_wp2_with (first
      | ((with_reducible refine gate_dst (N := 2) rfl ?_); refine box_event ?hg (N := 2) ?hd (cs := #[.int .i64 a0_0, .slice A0_1 l0_1.length c0_1]) (t := 41) ?hr ?_; (case hd => rfl); (case hg => rfl); (case hr => first | (go_simp; done) | (go_simp; rfl)); intro g2 hg W1 hbox hb; have hle_ : T0 ≤ g2 := (by rw [hg]; exact HT.out); have hlt_ : g2 < W1.heap.size := blk_lt hbox; have nHB_ := Aside0.mk (below_step HB.out hb); have nHT_ := Aside0.mk (Nat.le_trans HT.out hb.size); clear HB HT; have HB := nHB_; have HT := nHT_; clear nHB_ nHT_; obtain ⟨T1, hT1⟩ : ∃ n_, n_ = W1.heap.size := ⟨_, rfl⟩; have ORD1 := Aside0.mk (show T0 ≤ T1 from by rw [hT1]; exact HT.out); clear HT; have HT := Aside0.mk (Nat.le_of_eq hT1); have BK2 := Aside0.mk hbox; have GB2 := Aside0.mk (show T0 ≤ g2 ∧ g2 < T1 from ⟨hle_, by rw [hT1]; exact hlt_⟩); clear hb hg hbox hle_ hlt_ hT1; have hk2_0 : W1.cell? ⟨g2, 0, none⟩ = some (.int .i64 a0_0) := (blk_cell BK2.out 0).trans rfl; have hk2_1 : W1.cell? ⟨g2, 1, none⟩ = some (.slice A0_1 l0_1.length c0_1) := (blk_cell BK2.out 1).trans rfl)
      | ((with_reducible refine gate_dst (N := 15) rfl ?_); refine goesL_ (some 15) rfl rfl Try.func23 (by kernel_rfl) rfl #[.agg #[.int .i64 a0_0, .slice A0_1 l0_1.length c0_1], .int .i64 1048576] rfl (by (try simp only [List.map_toArray, List.map_cons, List.map_nil]); first | done | rfl | (simp only [List.length_drop, List.length_take]; rfl)) ?_; refine (laws_szBook.calls k a0_0 _ _ l0_1 1048576 r15_0 _ (Kd.C_below HR0_1.out HB.out) HC0_1.out E15.out).mono ?_; rintro e W2 ⟨rfl, hb⟩; refine ⟨_, rfl, ?_⟩; clear hk2_0 hk2_1; have nB2_ := Aside0.mk (blk_below BK2.out hb); have nHB_ := Aside0.mk (below_step HB.out hb); have nHT_ := Aside0.mk (Nat.le_trans HT.out hb.size); clear BK2 HB HT; have BK2 := nB2_; have HB := nHB_; have HT := nHT_; clear nB2_ nHB_ nHT_; clear hb; have hk2_0 : W2.cell? ⟨g2, 0, none⟩ = some (.int .i64 a0_0) := (blk_cell BK2.out 0).trans rfl; have hk2_1 : W2.cell? ⟨g2, 1, none⟩ = some (.slice A0_1 l0_1.length c0_1) := (blk_cell BK2.out 1).trans rfl))
    go_ret
    exact ⟨rfl, HB.out⟩
  rw [if_neg c17] at H
  have c17b : decide (r15_0 < 0) = false := decide_eq_false c17
  clear c17
  obtain ⟨⟨r19_0, r19_1⟩, E19_, H⟩ := Option.bind_eq_some_iff.mp H
  have E19 := Aside0.mk E19_
  clear E19_
  try dsimp only at H
  obtain ⟨r21_0, E21_, H⟩ := Option.bind_eq_some_iff.mp H
  have E21 := Aside0.mk E21_
  clear E21_
  obtain ⟨⟨r23_0, r23_1⟩, E23_, H⟩ := Option.bind_eq_some_iff.mp H
  have E23 := Aside0.mk E23_
  clear E23_
  try dsimp only at H
  obtain ⟨r26_0, E26_, H⟩ := Option.bind_eq_some_iff.mp H
  have E26 := Aside0.mk E26_
  clear E26_
  obtain ⟨r29_0, E29_, H⟩ := Option.bind_eq_some_iff.mp H
  have E29 := Aside0.mk E29_
  clear E29_
  by_cases F30_1 : r29_0 = true
  rotate_left
  · rw [if_neg F30_1] at H
    exact absurd H (by simp)
  rw [if_pos F30_1] at H
  subst F30_1
  obtain ⟨⟨r33_0, r33_1⟩, E33_, H⟩ := Option.bind_eq_some_iff.mp H
  have E33 := Aside0.mk E33_
  clear E33_
  try dsimp only at H
  obtain ⟨r34_0, E34_, H⟩ := Option.bind_eq_some_iff.mp H
  have E34 := Aside0.mk E34_
  clear E34_
  by_cases F35_2 : r34_0 = true
  rotate_left
  · rw [if_neg F35_2] at H
    exact absurd H (by simp)
  rw [if_pos F35_2] at H
  subst F35_2
  obtain ⟨⟨r38_0, r38_1⟩, E38_, H⟩ := Option.bind_eq_some_iff.mp H
  have E38 := Aside0.mk E38_
  clear E38_
  try dsimp only at H
  obtain ⟨r44_0, E44_, H⟩ := Option.bind_eq_some_iff.mp H
  have E44 := Aside0.mk E44_
  clear E44_
  by_cases F46_3 : ¬ r38_0 < 0
  rotate_left
  · rw [if_neg F46_3] at H
    exact absurd H (by simp)
  rw [if_pos F46_3] at H
  have F46_3b : decide (r38_0 < 0) = false := decide_eq_false F46_3
  clear F46_3
  by_cases F46_4 : r44_0 = true
  rotate_left
  · rw [if_neg F46_4] at H
    exact absurd H (by simp)
  rw [if_pos F46_4] at H
  subst F46_4
  obtain ⟨⟨r49_0, r49_1⟩, E49_, H⟩ := Option.bind_eq_some_iff.mp H
  have E49 := Aside0.mk E49_
  clear E49_
  try dsimp only at H
  obtain ⟨r52_0, E52_, H⟩ := Option.bind_eq_some_iff.mp H
  have E52 := Aside0.mk E52_
  clear E52_
  by_cases F54_5 : ¬ r52_0 < 0
  rotate_left
  · rw [if_neg F54_5] at H
    exact absurd H (by simp)
  rw [if_pos F54_5] at H
  have F54_5b : decide (r52_0 < 0) = false := decide_eq_false F54_5
  clear F54_5
  by_cases F57_6 : r52_0 = r49_0
  rotate_left
  · rw [if_neg F57_6] at H
    exact absurd H (by simp)
  rw [if_pos F57_6] at H
  have F57_6a : (r52_0 != r49_0) = false := by simp [F57_6]
  have F57_6b : (r52_0 == r49_0) = true := by simp [F57_6]
  have F57_6c : decide (r52_0 = r49_0) = true := by simp [F57_6]
  clear F57_6
  obtain ⟨⟨r59_0, r59_1⟩, E59_, H⟩ := Option.bind_eq_some_iff.mp H
  have E59 := Aside0.mk E59_
  clear E59_
  try dsimp only at H
  obtain ⟨r61_0, E61_, H⟩ := Option.bind_eq_some_iff.mp H
  have E61 := Aside0.mk E61_
  clear E61_
  obtain ⟨r64_0, E64_, H⟩ := Option.bind_eq_some_iff.mp H
  have E64 := Aside0.mk E64_
  clear E64_
  by_cases F65_7 : r64_0 = true
  rotate_left
  · rw [if_neg F65_7] at H
    exact absurd H (by simp)
  rw [if_pos F65_7] at H
  subst F65_7
  obtain ⟨r68_0, E68_, H⟩ := Option.bind_eq_some_iff.mp H
  have E68 := Aside0.mk E68_
  clear E68_
  by_cases F70_8 : ¬ r68_0 < 0
  rotate_left
  · rw [if_neg F70_8] at H
    exact absurd H (by simp)
  rw [if_pos F70_8] at H
  have F70_8b : decide (r68_0 < 0) = false := decide_eq_false F70_8
  clear F70_8
  by_cases F73_9 : r68_0 = r49_0
  rotate_left
  · rw [if_neg F73_9] at H
    exact absurd H (by simp)
  rw [if_pos F73_9] at H
  have F73_9a : (r68_0 != r49_0) = false := by simp [F73_9]
  have F73_9b : (r68_0 == r49_0) = true := by simp [F73_9]
  have F73_9c : decide (r68_0 = r49_0) = true := by simp [F73_9]
  clear F73_9
  obtain rfl := Option.some.inj H
  clear H
  go_enter Try.func11, Try.ntmps11
  go_wp2_with (first
    | ((with_reducible refine gate_dst (N := 2) rfl ?_); refine box_event ?hg (N := 2) ?hd (cs := #[.int .i64 a0_0, .slice A0_1 l0_1.length c0_1]) (t := 41) ?hr ?_; (case hd => rfl); (case hg => rfl); (case hr => first | (go_simp; done) | (go_simp; rfl)); intro g2 hg W1 hbox hb; have hle_ : T0 ≤ g2 := (by rw [hg]; exact HT.out); have hlt_ : g2 < W1.heap.size := blk_lt hbox; have nHB_ := Aside0.mk (below_step HB.out hb); have nHT_ := Aside0.mk (Nat.le_trans HT.out hb.size); clear HB HT; have HB := nHB_; have HT := nHT_; clear nHB_ nHT_; obtain ⟨T1, hT1⟩ : ∃ n_, n_ = W1.heap.size := ⟨_, rfl⟩; have ORD1 := Aside0.mk (show T0 ≤ T1 from by rw [hT1]; exact HT.out); clear HT; have HT := Aside0.mk (Nat.le_of_eq hT1); have BK2 := Aside0.mk hbox; have GB2 := Aside0.mk (show T0 ≤ g2 ∧ g2 < T1 from ⟨hle_, by rw [hT1]; exact hlt_⟩); clear hb hg hbox hle_ hlt_ hT1; have hk2_0 : W1.cell? ⟨g2, 0, none⟩ = some (.int .i64 a0_0) := (blk_cell BK2.out 0).trans rfl; have hk2_1 : W1.cell? ⟨g2, 1, none⟩ = some (.slice A0_1 l0_1.length c0_1) := (blk_cell BK2.out 1).trans rfl)
    | ((with_reducible refine gate_dst (N := 15) rfl ?_); refine goesL_ (some 15) rfl rfl Try.func23 (by kernel_rfl) rfl #[.agg #[.int .i64 a0_0, .slice A0_1 l0_1.length c0_1], .int .i64 1048576] rfl (by (try simp only [List.map_toArray, List.map_cons, List.map_nil]); first | done | rfl | (simp only [List.length_drop, List.length_take]; rfl)) ?_; refine (laws_szBook.calls k a0_0 _ _ l0_1 1048576 r15_0 _ (Kd.C_below HR0_1.out HB.out) HC0_1.out E15.out).mono ?_; rintro e W2 ⟨rfl, hb⟩; refine ⟨_, rfl, ?_⟩; clear hk2_0 hk2_1; have nB2_ := Aside0.mk (blk_below BK2.out hb); have nHB_ := Aside0.mk (below_step HB.out hb); have nHT_ := Aside0.mk (Nat.le_trans HT.out hb.size); clear BK2 HB HT; have BK2 := nB2_; have HB := nHB_; have HT := nHT_; clear nB2_ nHB_ nHT_; clear hb; have hk2_0 : W2.cell? ⟨g2, 0, none⟩ = some (.int .i64 a0_0) := (blk_cell BK2.out 0).trans rfl; have hk2_1 : W2.cell? ⟨g2, 1, none⟩ = some (.slice A0_1 l0_1.length c0_1) := (blk_cell BK2.out 1).trans rfl)
    | ((with_reducible refine gate_dst (N := 19) rfl ?_); refine goesL_ (some 19) rfl rfl Try.func26 (by kernel_rfl) rfl #[.agg #[.int .i64 a0_0, .slice A0_1 l0_1.length c0_1]] rfl (by (try simp only [List.map_toArray, List.map_cons, List.map_nil]); first | done | rfl | (simp only [List.length_drop, List.length_take]; rfl)) ?_; refine (laws_toBook.calls k a0_0 _ _ l0_1 r19_0 r19_1 _ (Kd.C_below HR0_1.out HB.out) HC0_1.out E19.out).mono ?_; rintro e W3 ⟨v19, rfl, ho, hb⟩; refine ⟨_, rfl, ?_⟩; clear hk2_0 hk2_1; have nOn_ := Kd.S_lower (Kd.S_bound ho) HB.out.size; have hle_ := HT.out; have nB2_ := Aside0.mk (blk_below BK2.out hb); have nHB_ := Aside0.mk (below_step HB.out hb); have nHT_ := Aside0.mk (Nat.le_trans HT.out hb.size); clear BK2 HB HT; have BK2 := nB2_; have HB := nHB_; have HT := nHT_; clear nB2_ nHB_ nHT_; obtain ⟨T2, hT2⟩ : ∃ n_, n_ = W3.heap.size := ⟨_, rfl⟩; have ORD2 := Aside0.mk (show T1 ≤ T2 from by rw [hT2]; exact HT.out); clear HT; have HT := Aside0.mk (Nat.le_of_eq hT2); have HO19 := Aside0.mk (Kd.S_mono (ok' := fun k_ => T1 ≤ k_ ∧ k_ < T2) nOn_ (fun k_ hk_ => ⟨Nat.le_trans hle_ hk_.2.1, by rw [hT2]; exact hk_.2.2.1⟩)); clear nOn_ hle_ ho hT2; obtain ⟨Ao19, co19, eo19⟩ := Kd.S_slice HO19.out; subst eo19; clear hb; have hk2_0 : W3.cell? ⟨g2, 0, none⟩ = some (.int .i64 a0_0) := (blk_cell BK2.out 0).trans rfl; have hk2_1 : W3.cell? ⟨g2, 1, none⟩ = some (.slice A0_1 l0_1.length c0_1) := (blk_cell BK2.out 1).trans rfl)
    | ((with_reducible refine gate_dst (N := 21) rfl ?_); refine goesL_ (some 21) rfl rfl Try.func50 (by kernel_rfl) rfl #[.agg #[.int .i64 r19_0, .slice Ao19 r19_1.length co19], .int .i64 a1] rfl (by (try simp only [List.map_toArray, List.map_cons, List.map_nil]); first | done | rfl | (simp only [List.length_drop, List.length_take]; rfl)) ?_; refine (spec_PathTo.calls k r19_0 _ _ r19_1 a1 r21_0 _ (Kd.S_reads' HO19.out).2.2 (Kd.S_reads' HO19.out).2.1 E21.out).mono ?_; rintro e W4 ⟨v21, rfl, ho, hb⟩; refine ⟨_, rfl, ?_⟩; clear hk2_0 hk2_1; have nOn_ := Kd.R_lower (Kd.R_bound ho) HB.out.size; have hle_ := HT.out; have nB2_ := Aside0.mk (blk_below BK2.out hb); have nO19_ := Aside0.mk (Kd.S_below HO19.out hb); have nHB_ := Aside0.mk (below_step HB.out hb); have nHT_ := Aside0.mk (Nat.le_trans HT.out hb.size); clear BK2 HO19 HB HT; have BK2 := nB2_; have HO19 := nO19_; have HB := nHB_; have HT := nHT_; clear nB2_ nO19_ nHB_ nHT_; obtain ⟨T3, hT3⟩ : ∃ n_, n_ = W4.heap.size := ⟨_, rfl⟩; have ORD3 := Aside0.mk (show T2 ≤ T3 from by rw [hT3]; exact HT.out); clear HT; have HT := Aside0.mk (Nat.le_of_eq hT3); have HO21 := Aside0.mk (Kd.R_mono (ok' := fun k_ => T2 ≤ k_ ∧ k_ < T3) nOn_ (fun k_ hk_ => ⟨Nat.le_trans hle_ hk_.2.1, by rw [hT3]; exact hk_.2.2.1⟩)); clear nOn_ hle_ ho hT3; obtain ⟨Ao21, co21, eo21⟩ := Kd.R_slice HO21.out; subst eo21; clear hb; have hk2_0 : W4.cell? ⟨g2, 0, none⟩ = some (.int .i64 a0_0) := (blk_cell BK2.out 0).trans rfl; have hk2_1 : W4.cell? ⟨g2, 1, none⟩ = some (.slice A0_1 l0_1.length c0_1) := (blk_cell BK2.out 1).trans rfl)
    | ((with_reducible refine gate_dst (N := 23) rfl ?_); refine goesL_ (some 23) rfl rfl Try.func26 (by kernel_rfl) rfl #[.agg #[.int .i64 a0_0, .slice A0_1 l0_1.length c0_1]] rfl (by (try simp only [List.map_toArray, List.map_cons, List.map_nil]); first | done | rfl | (simp only [List.length_drop, List.length_take]; rfl)) ?_; refine (laws_toBook.calls k a0_0 _ _ l0_1 r23_0 r23_1 _ (Kd.C_below HR0_1.out HB.out) HC0_1.out E23.out).mono ?_; rintro e W5 ⟨v23, rfl, ho, hb⟩; refine ⟨_, rfl, ?_⟩; clear hk2_0 hk2_1; have nOn_ := Kd.S_lower (Kd.S_bound ho) HB.out.size; have hle_ := HT.out; have nB2_ := Aside0.mk (blk_below BK2.out hb); have nO19_ := Aside0.mk (Kd.S_below HO19.out hb); have nO21_ := Aside0.mk (Kd.R_below HO21.out hb); have nHB_ := Aside0.mk (below_step HB.out hb); have nHT_ := Aside0.mk (Nat.le_trans HT.out hb.size); clear BK2 HO19 HO21 HB HT; have BK2 := nB2_; have HO19 := nO19_; have HO21 := nO21_; have HB := nHB_; have HT := nHT_; clear nB2_ nO19_ nO21_ nHB_ nHT_; obtain ⟨T4, hT4⟩ : ∃ n_, n_ = W5.heap.size := ⟨_, rfl⟩; have ORD4 := Aside0.mk (show T3 ≤ T4 from by rw [hT4]; exact HT.out); clear HT; have HT := Aside0.mk (Nat.le_of_eq hT4); have HO23 := Aside0.mk (Kd.S_mono (ok' := fun k_ => T3 ≤ k_ ∧ k_ < T4) nOn_ (fun k_ hk_ => ⟨Nat.le_trans hle_ hk_.2.1, by rw [hT4]; exact hk_.2.2.1⟩)); clear nOn_ hle_ ho hT4; obtain ⟨Ao23, co23, eo23⟩ := Kd.S_slice HO23.out; subst eo23; clear hb; have hk2_0 : W5.cell? ⟨g2, 0, none⟩ = some (.int .i64 a0_0) := (blk_cell BK2.out 0).trans rfl; have hk2_1 : W5.cell? ⟨g2, 1, none⟩ = some (.slice A0_1 l0_1.length c0_1) := (blk_cell BK2.out 1).trans rfl)
    | ((with_reducible refine gate_dst (N := 7) rfl ?_); refine box_event ?hg (N := 7) ?hd (cs := #[.int .i64 0, .slice none 0 0]) (t := 49) ?hr ?_; (case hd => rfl); (case hg => rfl); (case hr => first | (go_simp; done) | (go_simp; rfl)); intro g7 hg W6 hbox hb; have hs7_0 : W6.cell? ⟨g7, 0, none⟩ = some (.int .i64 0) := (blk_cell hbox 0).trans rfl; have hf7_0 := blk_frozen hbox 0; have hs7_1 : W6.cell? ⟨g7, 1, none⟩ = some (.slice none 0 0) := (blk_cell hbox 1).trans rfl; have hf7_1 := blk_frozen hbox 1; have HG7 := Aside0.mk hg; have HX7 := Aside0.mk hbox; have HW7 := Aside0.mk hb; clear hg hbox hb)
    | ((with_reducible refine gate_store (t := 49) (p := 7) rfl ?_); refine store_event (t := 49) (p := 7) (v := ?vo7) (w1 := ((W6.setCell ⟨g7, 0, none⟩ (.int .i64 r23_0)).setCell ⟨g7, 1, none⟩ (.slice Ao23 r23_1.length co23))) ?hg ?ho ?hn ?hr ?_; (case ho => rfl); (case hg => rfl); (case hn => rfl); (case hr => first | (go_simp; done) | (go_simp; rfl)); intro W7 hw; have hb : Below W5.heap.size W5 W7 := (by rw [hw]; exact (below_set (below_set HW7.out (Nat.le_of_eq HG7.out.symm)) (Nat.le_of_eq HG7.out.symm))); have hbox : W7.heap[g7]? = some (.cells #[.int .i64 r23_0, .slice Ao23 r23_1.length co23] 49 (0, 0)) := (by rw [hw]; exact (blk_put (cs' := #[.int .i64 r23_0, .slice Ao23 r23_1.length co23]) (blk_put (cs' := #[.int .i64 r23_0, .slice none 0 0]) HX7.out 0 (.int .i64 r23_0) rfl) 1 (.slice Ao23 r23_1.length co23) rfl)); clear hw hs7_0 hf7_0 hs7_1 hf7_1; have hle_ : T4 ≤ g7 := (by rw [HG7.out]; exact HT.out); have hlt_ : g7 < W7.heap.size := blk_lt hbox; clear HG7 HX7 HW7; clear hk2_0 hk2_1; have nB2_ := Aside0.mk (blk_below BK2.out hb); have nO19_ := Aside0.mk (Kd.S_below HO19.out hb); have nO21_ := Aside0.mk (Kd.R_below HO21.out hb); have nO23_ := Aside0.mk (Kd.S_below HO23.out hb); have nHB_ := Aside0.mk (below_step HB.out hb); have nHT_ := Aside0.mk (Nat.le_trans HT.out hb.size); clear BK2 HO19 HO21 HO23 HB HT; have BK2 := nB2_; have HO19 := nO19_; have HO21 := nO21_; have HO23 := nO23_; have HB := nHB_; have HT := nHT_; clear nB2_ nO19_ nO21_ nO23_ nHB_ nHT_; obtain ⟨T5, hT5⟩ : ∃ n_, n_ = W7.heap.size := ⟨_, rfl⟩; have ORD5 := Aside0.mk (show T4 ≤ T5 from by rw [hT5]; exact HT.out); clear HT; have HT := Aside0.mk (Nat.le_of_eq hT5); have BK7 := Aside0.mk hbox; have GB7 := Aside0.mk (show T4 ≤ g7 ∧ g7 < T5 from ⟨hle_, by rw [hT5]; exact hlt_⟩); clear hb hbox hle_ hlt_ hT5; have hk2_0 : W7.cell? ⟨g2, 0, none⟩ = some (.int .i64 a0_0) := (blk_cell BK2.out 0).trans rfl; have hk2_1 : W7.cell? ⟨g2, 1, none⟩ = some (.slice A0_1 l0_1.length c0_1) := (blk_cell BK2.out 1).trans rfl; have hk7_0 : W7.cell? ⟨g7, 0, none⟩ = some (.int .i64 r23_0) := (blk_cell BK7.out 0).trans rfl; have hk7_1 : W7.cell? ⟨g7, 1, none⟩ = some (.slice Ao23 r23_1.length co23) := (blk_cell BK7.out 1).trans rfl)
    | ((with_reducible refine gate_dst (N := 26) rfl ?_); refine goesL_ (some 26) rfl rfl Try.func51 (by kernel_rfl) rfl #[.agg #[.int .i64 r23_0, .slice Ao23 r23_1.length co23], .int .i64 a1] rfl (by (try simp only [List.map_toArray, List.map_cons, List.map_nil]); first | done | rfl | (simp only [List.length_drop, List.length_take]; rfl)) ?_; refine (impl_PathTo.calls k r23_0 _ _ r23_1 a1 r26_0 _ (Kd.S_reads' HO23.out).2.2 (Kd.S_reads' HO23.out).2.1 E26.out).mono ?_; rintro e W8 ⟨v26, rfl, ho, hb⟩; refine ⟨_, rfl, ?_⟩; clear hk2_0 hk2_1; clear hk7_0 hk7_1; have nOn_ := Kd.R_lower (Kd.R_bound ho) HB.out.size; have hle_ := HT.out; have nB2_ := Aside0.mk (blk_below BK2.out hb); have nO19_ := Aside0.mk (Kd.S_below HO19.out hb); have nO21_ := Aside0.mk (Kd.R_below HO21.out hb); have nO23_ := Aside0.mk (Kd.S_below HO23.out hb); have nB7_ := Aside0.mk (blk_below BK7.out hb); have nHB_ := Aside0.mk (below_step HB.out hb); have nHT_ := Aside0.mk (Nat.le_trans HT.out hb.size); clear BK2 HO19 HO21 HO23 BK7 HB HT; have BK2 := nB2_; have HO19 := nO19_; have HO21 := nO21_; have HO23 := nO23_; have BK7 := nB7_; have HB := nHB_; have HT := nHT_; clear nB2_ nO19_ nO21_ nO23_ nB7_ nHB_ nHT_; obtain ⟨T6, hT6⟩ : ∃ n_, n_ = W8.heap.size := ⟨_, rfl⟩; have ORD6 := Aside0.mk (show T5 ≤ T6 from by rw [hT6]; exact HT.out); clear HT; have HT := Aside0.mk (Nat.le_of_eq hT6); have HO26 := Aside0.mk (Kd.R_mono (ok' := fun k_ => T5 ≤ k_ ∧ k_ < T6) nOn_ (fun k_ hk_ => ⟨Nat.le_trans hle_ hk_.2.1, by rw [hT6]; exact hk_.2.2.1⟩)); clear nOn_ hle_ ho hT6; obtain ⟨Ao26, co26, eo26⟩ := Kd.R_slice HO26.out; subst eo26; clear hb; have hk2_0 : W8.cell? ⟨g2, 0, none⟩ = some (.int .i64 a0_0) := (blk_cell BK2.out 0).trans rfl; have hk2_1 : W8.cell? ⟨g2, 1, none⟩ = some (.slice A0_1 l0_1.length c0_1) := (blk_cell BK2.out 1).trans rfl; have hk7_0 : W8.cell? ⟨g7, 0, none⟩ = some (.int .i64 r23_0) := (blk_cell BK7.out 0).trans rfl; have hk7_1 : W8.cell? ⟨g7, 1, none⟩ = some (.slice Ao23 r23_1.length co23) := (blk_cell BK7.out 1).trans rfl)
    | ((with_reducible refine gate_dst (N := 29) rfl ?_); refine goesL_ (some 29) rfl rfl Try.func39 (by kernel_rfl) rfl #[.slice Ao26 r26_0.length co26, .slice Ao21 r21_0.length co21] rfl (by (try simp only [List.map_toArray, List.map_cons, List.map_nil]); first | done | rfl | (simp only [List.length_drop, List.length_take]; rfl)) ?_; refine (laws_eqIntS.calls k _ _ r26_0 _ _ r21_0 true _ (Kd.R_reads' HO26.out).2.2 (Kd.R_reads' HO26.out).2.1 (Kd.R_reads' HO21.out).2.2 (Kd.R_reads' HO21.out).2.1 E29.out).mono ?_; rintro e W9 ⟨rfl, hd⟩; refine ⟨_, rfl, ?_⟩; have hb := Drawn0.below hd; clear hd; clear hk2_0 hk2_1; clear hk7_0 hk7_1; have nB2_ := Aside0.mk (blk_below BK2.out hb); have nO19_ := Aside0.mk (Kd.S_below HO19.out hb); have nO21_ := Aside0.mk (Kd.R_below HO21.out hb); have nO23_ := Aside0.mk (Kd.S_below HO23.out hb); have nB7_ := Aside0.mk (blk_below BK7.out hb); have nO26_ := Aside0.mk (Kd.R_below HO26.out hb); have nHB_ := Aside0.mk (below_step HB.out hb); have nHT_ := Aside0.mk (Nat.le_trans HT.out hb.size); clear BK2 HO19 HO21 HO23 BK7 HO26 HB HT; have BK2 := nB2_; have HO19 := nO19_; have HO21 := nO21_; have HO23 := nO23_; have BK7 := nB7_; have HO26 := nO26_; have HB := nHB_; have HT := nHT_; clear nB2_ nO19_ nO21_ nO23_ nB7_ nO26_ nHB_ nHT_; clear hb; have hk2_0 : W9.cell? ⟨g2, 0, none⟩ = some (.int .i64 a0_0) := (blk_cell BK2.out 0).trans rfl; have hk2_1 : W9.cell? ⟨g2, 1, none⟩ = some (.slice A0_1 l0_1.length c0_1) := (blk_cell BK2.out 1).trans rfl; have hk7_0 : W9.cell? ⟨g7, 0, none⟩ = some (.int .i64 r23_0) := (blk_cell BK7.out 0).trans rfl; have hk7_1 : W9.cell? ⟨g7, 1, none⟩ = some (.slice Ao23 r23_1.length co23) := (blk_cell BK7.out 1).trans rfl))
  clear hk2_0 hk2_1
  clear hk7_0 hk7_1
  have nB2_ := Aside0.mk (blk_drew BK2.out)
  have nO19_ := Aside0.mk (Kd.S_drew HO19.out)
  have nO21_ := Aside0.mk (Kd.R_drew HO21.out)
  have nO23_ := Aside0.mk (Kd.S_drew HO23.out)
  have nB7_ := Aside0.mk (blk_drew BK7.out)
  have nO26_ := Aside0.mk (Kd.R_drew HO26.out)
  have nHB_ := Aside0.mk (below_drew1 HB.out)
  have nHT_ := Aside0.mk (show T6 ≤ W9.drew.heap.size from HT.out)
  clear BK2 HO19 HO21 HO23 BK7 HO26 HB HT
  have BK2 := nB2_
  have HO19 := nO19_
  have HO21 := nO21_
  have HO23 := nO23_
  have BK7 := nB7_
  have HO26 := nO26_
  have HB := nHB_
  have HT := nHT_
  clear nB2_ nO19_ nO21_ nO23_ nB7_ nO26_ nHB_ nHT_
  refine start_ (n := 5) (S := fun w' => w'.cell? ⟨g7, 0, none⟩ = some (.int .i64 r23_0) ∧ w'.cell? ⟨g7, 1, none⟩ = some (.slice Ao23 r23_1.length co23) ∧ w'.cell? ⟨g2, 0, none⟩ = some (.int .i64 a0_0) ∧ w'.cell? ⟨g2, 1, none⟩ = some (.slice A0_1 l0_1.length c0_1)) (ds := []) #[false, false, false, false, false] (by kernel_rfl) rfl rfl ⟨(blk_cell BK7.out 0).trans rfl, (blk_cell BK7.out 1).trans rfl, (blk_cell BK2.out 0).trans rfl, (blk_cell BK2.out 1).trans rfl⟩ (fun hHeld => ?_)
  generalize W9.drew = W10 at HB HT BK2 HO19 HO21 HO23 BK7 HO26 hHeld ⊢
  refine take_ (i := 0) (N := some 31) (v := ?_) (a' := ?_) #[true, false, false, false, false] rfl rfl (by kernel_rfl) (fun _ _ _ h => h) (Or.inl ⟨by rfl, ?_⟩) hHeld ?_ ?_
  rotate_left
  · rintro w' ⟨s0, s1, s2, s3⟩
    go_simp
    with_reducible rfl
  rotate_left
  · simp only [Act.put, List.setIfInBounds_toArray, List.set_cons_zero, List.set_cons_succ, i64_w, i32_w]
    rfl
  refine take_ (i := 1) (N := some 32) (v := ?_) (a' := ?_) #[true, true, false, false, false] rfl rfl (by kernel_rfl) (fun _ _ _ h => h) (Or.inl ⟨by rfl, ?_⟩) hHeld ?_ ?_
  rotate_left
  · rintro w' ⟨s0, s1, s2, s3⟩
    go_simp
    with_reducible rfl
  rotate_left
  · simp only [Act.put, List.setIfInBounds_toArray, List.set_cons_zero, List.set_cons_succ, i64_w, i32_w]
    rfl
  refine one_ (i := 2) (N := some 33) #[true, true, true, false, false] rfl rfl (by kernel_rfl) (by decide) (fun K hK => ?_)
  refine goes_ Try.func26 (by kernel_rfl) rfl #[.agg #[.int .i64 a0_0, .slice A0_1 l0_1.length c0_1]] (by rfl) rfl rfl (by (try simp only [List.map_toArray, List.map_cons, List.map_nil]); first | done | rfl | (simp only [List.length_drop, List.length_take]; rfl)) ?_
  refine (laws_toBook.calls k a0_0 _ _ l0_1 r33_0 r33_1 _ (Kd.C_below HR0_1.out HB.out) HC0_1.out E33.out).mono ?_
  rintro e W11 ⟨v33, rfl, ho, hb⟩
  refine ⟨_, rfl, ?_⟩
  have nOn_ := Kd.S_lower (Kd.S_bound ho) HB.out.size
  have hle_ := HT.out
  have nB2_ := Aside0.mk (blk_below BK2.out hb)
  have nO19_ := Aside0.mk (Kd.S_below HO19.out hb)
  have nO21_ := Aside0.mk (Kd.R_below HO21.out hb)
  have nO23_ := Aside0.mk (Kd.S_below HO23.out hb)
  have nB7_ := Aside0.mk (blk_below BK7.out hb)
  have nO26_ := Aside0.mk (Kd.R_below HO26.out hb)
  have nHB_ := Aside0.mk (below_step HB.out hb)
  have nHT_ := Aside0.mk (Nat.le_trans HT.out hb.size)
  clear BK2 HO19 HO21 HO23 BK7 HO26 HB HT
  have BK2 := nB2_
  have HO19 := nO19_
  have HO21 := nO21_
  have HO23 := nO23_
  have BK7 := nB7_
  have HO26 := nO26_
  have HB := nHB_
  have HT := nHT_
  clear nB2_ nO19_ nO21_ nO23_ nB7_ nO26_ nHB_ nHT_
  have HO33 := Aside0.mk (Kd.S_mono (ok' := fun k_ => T6 ≤ k_) nOn_ (fun k_ hk_ => Nat.le_trans hle_ hk_.2.1))
  clear nOn_ hle_ ho
  obtain ⟨Ao33, co33, eo33⟩ := Kd.S_slice HO33.out
  subst eo33
  clear hb
  refine hK.out _ _ ⟨(blk_cell BK7.out 0).trans rfl, (blk_cell BK7.out 1).trans rfl, (blk_cell BK2.out 0).trans rfl, (blk_cell BK2.out 1).trans rfl⟩ (fun hHeld => ?_)
  clear hK K
  refine norm_ (a' := ?_) ?_ ?_
  rotate_left
  · show Act.put _ (some 33) _ = _
    simp only [Act.put, List.setIfInBounds_toArray, List.set_cons_zero, List.set_cons_succ, i64_w, i32_w]
    rfl
  refine one_ (i := 3) (N := some 34) #[true, true, true, true, false] rfl rfl (by kernel_rfl) (by decide) (fun K hK => ?_)
  refine goes_ Try.func29 (by kernel_rfl) rfl #[.agg #[.int .i64 r23_0, .slice Ao23 r23_1.length co23], .agg #[.int .i64 r33_0, .slice Ao33 r33_1.length co33]] (by rfl) rfl rfl (by (try simp only [List.map_toArray, List.map_cons, List.map_nil]); first | done | rfl | (simp only [List.length_drop, List.length_take]; rfl)) ?_
  refine (laws_eqBook.calls k r23_0 _ _ r23_1 r33_0 _ _ r33_1 true _ (Kd.S_reads' HO23.out).2.2 (Kd.S_reads' HO23.out).2.1 (Kd.S_reads' HO33.out).2.2 (Kd.S_reads' HO33.out).2.1 E34.out).mono ?_
  rintro e W12 ⟨rfl, hb⟩
  refine ⟨_, rfl, ?_⟩
  have nB2_ := Aside0.mk (blk_below BK2.out hb)
  have nO19_ := Aside0.mk (Kd.S_below HO19.out hb)
  have nO21_ := Aside0.mk (Kd.R_below HO21.out hb)
  have nO23_ := Aside0.mk (Kd.S_below HO23.out hb)
  have nB7_ := Aside0.mk (blk_below BK7.out hb)
  have nO26_ := Aside0.mk (Kd.R_below HO26.out hb)
  have nO33_ := Aside0.mk (Kd.S_below HO33.out hb)
  have nHB_ := Aside0.mk (below_step HB.out hb)
  have nHT_ := Aside0.mk (Nat.le_trans HT.out hb.size)
  clear BK2 HO19 HO21 HO23 BK7 HO26 HO33 HB HT
  have BK2 := nB2_
  have HO19 := nO19_
  have HO21 := nO21_
  have HO23 := nO23_
  have BK7 := nB7_
  have HO26 := nO26_
  have HO33 := nO33_
  have HB := nHB_
  have HT := nHT_
  clear nB2_ nO19_ nO21_ nO23_ nB7_ nO26_ nO33_ nHB_ nHT_
  clear hb
  refine hK.out _ _ ⟨(blk_cell BK7.out 0).trans rfl, (blk_cell BK7.out 1).trans rfl, (blk_cell BK2.out 0).trans rfl, (blk_cell BK2.out 1).trans rfl⟩ (fun hHeld => ?_)
  clear hK K
  refine norm_ (a' := ?_) ?_ ?_
  rotate_left
  · show Act.put _ (some 34) _ = _
    simp only [Act.put, List.setIfInBounds_toArray, List.set_cons_zero, List.set_cons_succ, i64_w, i32_w]
    rfl
  refine pure_ (i := 4) (N := some 35) (v := ?_) (a' := ?_) #[true, true, true, true, true] rfl rfl (by kernel_rfl) (fun _ _ _ h => h) (Or.inl ⟨by rfl, ?_⟩) ?_ ?_
  rotate_left
  · intro w'
    go_simp
    with_reducible rfl
  rotate_left
  · simp only [Act.put, List.setIfInBounds_toArray, List.set_cons_zero, List.set_cons_succ, i64_w, i32_w]
    rfl
  refine done_ (by kernel_rfl) ?_
  clear hHeld
  obtain ⟨T7, hT7⟩ : ∃ n_, n_ = W12.heap.size := ⟨_, rfl⟩
  have ORD7 := Aside0.mk (show T6 ≤ T7 from by rw [hT7]; exact HT.out)
  clear HT
  have HT := Aside0.mk (Nat.le_of_eq hT7)
  have nO_ := Aside0.mk (Kd.S_mono (ok' := fun k_ => T6 ≤ k_ ∧ k_ < T7) (Kd.S_bound HO33.out) (fun k_ hk_ => ⟨hk_.1, by rw [hT7]; exact hk_.2.2.1⟩))
  clear HO33
  have HO33 := nO_
  clear nO_
  clear hT7
  obtain ⟨WE7, hwe_⟩ : ∃ x_, x_ = W12 := ⟨_, rfl⟩
  rw [← hwe_] at HB HT BK2 HO19 HO21 HO23 BK7 HO26 HO33
  rw [← hwe_]
  clear hwe_
  have hk2_0 : WE7.cell? ⟨g2, 0, none⟩ = some (.int .i64 a0_0) := (blk_cell BK2.out 0).trans rfl
  have hk2_1 : WE7.cell? ⟨g2, 1, none⟩ = some (.slice A0_1 l0_1.length c0_1) := (blk_cell BK2.out 1).trans rfl
  have hk7_0 : WE7.cell? ⟨g7, 0, none⟩ = some (.int .i64 r23_0) := (blk_cell BK7.out 0).trans rfl
  have hk7_1 : WE7.cell? ⟨g7, 1, none⟩ = some (.slice Ao23 r23_1.length co23) := (blk_cell BK7.out 1).trans rfl
  go_wp2_with (first
    | ((with_reducible refine gate_dst (N := 38) rfl ?_); refine goesL_ (some 38) rfl rfl Try.func31 (by kernel_rfl) rfl #[.agg #[.int .i64 r23_0, .slice Ao23 r23_1.length co23], .int .i64 1] rfl (by (try simp only [List.map_toArray, List.map_cons, List.map_nil]); first | done | rfl | (simp only [List.length_drop, List.length_take]; rfl)) ?_; refine (laws_markBook.calls k (fun k_ => T3 ≤ k_ ∧ k_ < T4) r23_0 _ r23_1 1 r38_0 r38_1 w _ HB.out HO23.out E38.out).mono ?_; rintro e W13 ⟨rfl, ho, hb, hk⟩; refine ⟨_, rfl, ?_⟩; clear hk2_0 hk2_1; clear hk7_0 hk7_1; have nB2_ := Aside0.mk (blk_kept BK2.out hk (fun h2_ => by have o1_ := ORD1.out; have o2_ := ORD2.out; have o3_ := ORD3.out; have o4_ := ORD4.out; have o5_ := ORD5.out; have o6_ := ORD6.out; have o7_ := ORD7.out; have g_ := GB2.out; omega)); have nO19_ := Aside0.mk (Kd.S_kept HO19.out hk (fun k_ h1_ h2_ => by have o1_ := ORD1.out; have o2_ := ORD2.out; have o3_ := ORD3.out; have o4_ := ORD4.out; have o5_ := ORD5.out; have o6_ := ORD6.out; have o7_ := ORD7.out; exact absurd h1_ (by omega))); have nO21_ := Aside0.mk (Kd.R_kept HO21.out hk (fun k_ h1_ h2_ => by have o1_ := ORD1.out; have o2_ := ORD2.out; have o3_ := ORD3.out; have o4_ := ORD4.out; have o5_ := ORD5.out; have o6_ := ORD6.out; have o7_ := ORD7.out; exact absurd h1_ (by omega))); have nB7_ := Aside0.mk (blk_kept BK7.out hk (fun h2_ => by have o1_ := ORD1.out; have o2_ := ORD2.out; have o3_ := ORD3.out; have o4_ := ORD4.out; have o5_ := ORD5.out; have o6_ := ORD6.out; have o7_ := ORD7.out; have g_ := GB7.out; omega)); have nO26_ := Aside0.mk (Kd.R_kept HO26.out hk (fun k_ h1_ h2_ => by have o1_ := ORD1.out; have o2_ := ORD2.out; have o3_ := ORD3.out; have o4_ := ORD4.out; have o5_ := ORD5.out; have o6_ := ORD6.out; have o7_ := ORD7.out; exact absurd h1_ (by omega))); have nO33_ := Aside0.mk (Kd.S_kept HO33.out hk (fun k_ h1_ h2_ => by have o1_ := ORD1.out; have o2_ := ORD2.out; have o3_ := ORD3.out; have o4_ := ORD4.out; have o5_ := ORD5.out; have o6_ := ORD6.out; have o7_ := ORD7.out; exact absurd h1_ (by omega))); have nHB_ := Aside0.mk hb; have nHT_ := Aside0.mk (Nat.le_trans HT.out hk.1); clear BK2 HO19 HO21 BK7 HO26 HO33 HB HT; have BK2 := nB2_; have HO19 := nO19_; have HO21 := nO21_; have BK7 := nB7_; have HO26 := nO26_; have HO33 := nO33_; have HB := nHB_; have HT := nHT_; clear nB2_ nO19_ nO21_ nB7_ nO26_ nO33_ nHB_ nHT_; have nO_ := Aside0.mk (Kd.S_mono (ok' := fun _ => True) ho (fun _ _ => trivial)); clear HO23; have HO23 := nO_; have LN23 := Aside0.mk (show r23_1.length = r38_1.length from (Kd.S_reads' HO23.out).1); clear nO_ ho hb hk; have hk2_0 : W13.cell? ⟨g2, 0, none⟩ = some (.int .i64 a0_0) := (blk_cell BK2.out 0).trans rfl; have hk2_1 : W13.cell? ⟨g2, 1, none⟩ = some (.slice A0_1 l0_1.length c0_1) := (blk_cell BK2.out 1).trans rfl; have hk7_0 : W13.cell? ⟨g7, 0, none⟩ = some (.int .i64 r23_0) := (blk_cell BK7.out 0).trans rfl; have hk7_1 : W13.cell? ⟨g7, 1, none⟩ = some (.slice Ao23 r23_1.length co23) := (blk_cell BK7.out 1).trans rfl)
    | ((with_reducible refine gate_dst (N := 44) rfl ?_); (try (refine gate_guard (by rfl) ?_; dsimp only)); refine goesL_ (some 44) rfl rfl Try.func39 (by kernel_rfl) rfl #[.slice Ao26 r26_0.length co26, .slice Ao21 r21_0.length co21] rfl (by (try simp only [List.map_toArray, List.map_cons, List.map_nil]); first | done | rfl | (simp only [List.length_drop, List.length_take]; rfl)) ?_; refine (laws_eqIntS.calls k _ _ r26_0 _ _ r21_0 true _ (Kd.R_reads' HO26.out).2.2 (Kd.R_reads' HO26.out).2.1 (Kd.R_reads' HO21.out).2.2 (Kd.R_reads' HO21.out).2.1 E44.out).mono ?_; rintro e W14 ⟨rfl, hd⟩; refine ⟨_, rfl, ?_⟩; have hb := Drawn0.below hd; clear hd; clear hk2_0 hk2_1; clear hk7_0 hk7_1; have nB2_ := Aside0.mk (blk_below BK2.out hb); have nO19_ := Aside0.mk (Kd.S_below HO19.out hb); have nO21_ := Aside0.mk (Kd.R_below HO21.out hb); have nO23_ := Aside0.mk (Kd.S_below HO23.out hb); have nB7_ := Aside0.mk (blk_below BK7.out hb); have nO26_ := Aside0.mk (Kd.R_below HO26.out hb); have nO33_ := Aside0.mk (Kd.S_below HO33.out hb); have nHB_ := Aside0.mk (below_step HB.out hb); have nHT_ := Aside0.mk (Nat.le_trans HT.out hb.size); clear BK2 HO19 HO21 HO23 BK7 HO26 HO33 HB HT; have BK2 := nB2_; have HO19 := nO19_; have HO21 := nO21_; have HO23 := nO23_; have BK7 := nB7_; have HO26 := nO26_; have HO33 := nO33_; have HB := nHB_; have HT := nHT_; clear nB2_ nO19_ nO21_ nO23_ nB7_ nO26_ nO33_ nHB_ nHT_; clear hb; have hk2_0 : W14.cell? ⟨g2, 0, none⟩ = some (.int .i64 a0_0) := (blk_cell BK2.out 0).trans rfl; have hk2_1 : W14.cell? ⟨g2, 1, none⟩ = some (.slice A0_1 l0_1.length c0_1) := (blk_cell BK2.out 1).trans rfl; have hk7_0 : W14.cell? ⟨g7, 0, none⟩ = some (.int .i64 r23_0) := (blk_cell BK7.out 0).trans rfl; have hk7_1 : W14.cell? ⟨g7, 1, none⟩ = some (.slice Ao23 r23_1.length co23) := (blk_cell BK7.out 1).trans rfl)
    | ((with_reducible refine gate_dst (N := 49) rfl ?_); refine goesL_ (some 49) rfl rfl Try.func40 (by kernel_rfl) rfl #[.slice Ao26 r26_0.length co26, .int .i64 1] rfl (by (try simp only [List.map_toArray, List.map_cons, List.map_nil]); first | done | rfl | (simp only [List.length_drop, List.length_take]; rfl)) ?_; refine (laws_markIntS.calls k (fun k_ => T5 ≤ k_ ∧ k_ < T6) _ r26_0 1 r49_0 r49_1 w _ HB.out HO26.out E49.out).mono ?_; rintro e W15 ⟨rfl, ho, hb, hk⟩; refine ⟨_, rfl, ?_⟩; clear hk2_0 hk2_1; clear hk7_0 hk7_1; have nB2_ := Aside0.mk (blk_kept BK2.out hk (fun h2_ => by have o1_ := ORD1.out; have o2_ := ORD2.out; have o3_ := ORD3.out; have o4_ := ORD4.out; have o5_ := ORD5.out; have o6_ := ORD6.out; have o7_ := ORD7.out; have g_ := GB2.out; omega)); have nO19_ := Aside0.mk (Kd.S_kept HO19.out hk (fun k_ h1_ h2_ => by have o1_ := ORD1.out; have o2_ := ORD2.out; have o3_ := ORD3.out; have o4_ := ORD4.out; have o5_ := ORD5.out; have o6_ := ORD6.out; have o7_ := ORD7.out; exact absurd h1_ (by omega))); have nO21_ := Aside0.mk (Kd.R_kept HO21.out hk (fun k_ h1_ h2_ => by have o1_ := ORD1.out; have o2_ := ORD2.out; have o3_ := ORD3.out; have o4_ := ORD4.out; have o5_ := ORD5.out; have o6_ := ORD6.out; have o7_ := ORD7.out; exact absurd h1_ (by omega))); have nB7_ := Aside0.mk (blk_kept BK7.out hk (fun h2_ => by have o1_ := ORD1.out; have o2_ := ORD2.out; have o3_ := ORD3.out; have o4_ := ORD4.out; have o5_ := ORD5.out; have o6_ := ORD6.out; have o7_ := ORD7.out; have g_ := GB7.out; omega)); have nO33_ := Aside0.mk (Kd.S_kept HO33.out hk (fun k_ h1_ h2_ => by have o1_ := ORD1.out; have o2_ := ORD2.out; have o3_ := ORD3.out; have o4_ := ORD4.out; have o5_ := ORD5.out; have o6_ := ORD6.out; have o7_ := ORD7.out; exact absurd h1_ (by omega))); have nHB_ := Aside0.mk hb; have nHT_ := Aside0.mk (Nat.le_trans HT.out hk.1); clear BK2 HO19 HO21 BK7 HO33 HB HT HO23 LN23; have BK2 := nB2_; have HO19 := nO19_; have HO21 := nO21_; have BK7 := nB7_; have HO33 := nO33_; have HB := nHB_; have HT := nHT_; clear nB2_ nO19_ nO21_ nB7_ nO33_ nHB_ nHT_; have nO_ := Aside0.mk (Kd.R_mono (ok' := fun _ => True) ho (fun _ _ => trivial)); clear HO26; have HO26 := nO_; have LN26 := Aside0.mk (show r26_0.length = r49_1.length from (Kd.R_reads' HO26.out).1); clear nO_ ho hb hk; have hk2_0 : W15.cell? ⟨g2, 0, none⟩ = some (.int .i64 a0_0) := (blk_cell BK2.out 0).trans rfl; have hk2_1 : W15.cell? ⟨g2, 1, none⟩ = some (.slice A0_1 l0_1.length c0_1) := (blk_cell BK2.out 1).trans rfl; have hk7_0 : W15.cell? ⟨g7, 0, none⟩ = some (.int .i64 r23_0) := (blk_cell BK7.out 0).trans rfl; have hk7_1 : W15.cell? ⟨g7, 1, none⟩ = some (.slice Ao23 r23_1.length co23) := (blk_cell BK7.out 1).trans rfl)
    | ((with_reducible refine gate_dst (N := 52) rfl ?_); refine goesL_ (some 52) rfl rfl Try.func52 (by kernel_rfl) rfl #[.slice Ao26 r26_0.length co26, .int .i64 1] rfl (by (try simp only [List.map_toArray, List.map_cons, List.map_nil]); first | done | rfl | (simp only [List.length_drop, List.length_take]; rfl)) ?_; refine calls_args (by rw [LN26.out]) ((laws_heldIntS.calls k Ao26 co26 r49_1 1 r52_0 _ (Kd.R_reads' HO26.out).2.2 (by rw [← LN26.out]; exact (Kd.R_reads' HO26.out).2.1) E52.out).mono ?_); rintro e W16 ⟨rfl, hd⟩; refine ⟨_, rfl, ?_⟩; have hb := Drawn0.below hd; clear hd; clear hk2_0 hk2_1; clear hk7_0 hk7_1; have nB2_ := Aside0.mk (blk_below BK2.out hb); have nO19_ := Aside0.mk (Kd.S_below HO19.out hb); have nO21_ := Aside0.mk (Kd.R_below HO21.out hb); have nB7_ := Aside0.mk (blk_below BK7.out hb); have nO26_ := Aside0.mk (Kd.R_below HO26.out hb); have nO33_ := Aside0.mk (Kd.S_below HO33.out hb); have nHB_ := Aside0.mk (below_step HB.out hb); have nHT_ := Aside0.mk (Nat.le_trans HT.out hb.size); clear BK2 HO19 HO21 BK7 HO26 HO33 HB HT; have BK2 := nB2_; have HO19 := nO19_; have HO21 := nO21_; have BK7 := nB7_; have HO26 := nO26_; have HO33 := nO33_; have HB := nHB_; have HT := nHT_; clear nB2_ nO19_ nO21_ nB7_ nO26_ nO33_ nHB_ nHT_; clear hb; have hk2_0 : W16.cell? ⟨g2, 0, none⟩ = some (.int .i64 a0_0) := (blk_cell BK2.out 0).trans rfl; have hk2_1 : W16.cell? ⟨g2, 1, none⟩ = some (.slice A0_1 l0_1.length c0_1) := (blk_cell BK2.out 1).trans rfl; have hk7_0 : W16.cell? ⟨g7, 0, none⟩ = some (.int .i64 r23_0) := (blk_cell BK7.out 0).trans rfl; have hk7_1 : W16.cell? ⟨g7, 1, none⟩ = some (.slice Ao23 r23_1.length co23) := (blk_cell BK7.out 1).trans rfl)
    | ((with_reducible refine gate_dst (N := 59) rfl ?_); refine goesL_ (some 59) rfl rfl Try.func26 (by kernel_rfl) rfl #[.agg #[.int .i64 a0_0, .slice A0_1 l0_1.length c0_1]] rfl (by (try simp only [List.map_toArray, List.map_cons, List.map_nil]); first | done | rfl | (simp only [List.length_drop, List.length_take]; rfl)) ?_; refine (laws_toBook.calls k a0_0 _ _ l0_1 r59_0 r59_1 _ (Kd.C_below HR0_1.out HB.out) HC0_1.out E59.out).mono ?_; rintro e W17 ⟨v59, rfl, ho, hb⟩; refine ⟨_, rfl, ?_⟩; clear hk2_0 hk2_1; clear hk7_0 hk7_1; have nOn_ := Kd.S_lower (Kd.S_bound ho) HB.out.size; have hle_ := HT.out; have nB2_ := Aside0.mk (blk_below BK2.out hb); have nO19_ := Aside0.mk (Kd.S_below HO19.out hb); have nO21_ := Aside0.mk (Kd.R_below HO21.out hb); have nB7_ := Aside0.mk (blk_below BK7.out hb); have nO26_ := Aside0.mk (Kd.R_below HO26.out hb); have nO33_ := Aside0.mk (Kd.S_below HO33.out hb); have nHB_ := Aside0.mk (below_step HB.out hb); have nHT_ := Aside0.mk (Nat.le_trans HT.out hb.size); clear BK2 HO19 HO21 BK7 HO26 HO33 HB HT; have BK2 := nB2_; have HO19 := nO19_; have HO21 := nO21_; have BK7 := nB7_; have HO26 := nO26_; have HO33 := nO33_; have HB := nHB_; have HT := nHT_; clear nB2_ nO19_ nO21_ nB7_ nO26_ nO33_ nHB_ nHT_; obtain ⟨T8, hT8⟩ : ∃ n_, n_ = W17.heap.size := ⟨_, rfl⟩; have ORD8 := Aside0.mk (show T7 ≤ T8 from by rw [hT8]; exact HT.out); clear HT; have HT := Aside0.mk (Nat.le_of_eq hT8); have HO59 := Aside0.mk (Kd.S_mono (ok' := fun k_ => T7 ≤ k_ ∧ k_ < T8) nOn_ (fun k_ hk_ => ⟨Nat.le_trans hle_ hk_.2.1, by rw [hT8]; exact hk_.2.2.1⟩)); clear nOn_ hle_ ho hT8; obtain ⟨Ao59, co59, eo59⟩ := Kd.S_slice HO59.out; subst eo59; clear hb; have hk2_0 : W17.cell? ⟨g2, 0, none⟩ = some (.int .i64 a0_0) := (blk_cell BK2.out 0).trans rfl; have hk2_1 : W17.cell? ⟨g2, 1, none⟩ = some (.slice A0_1 l0_1.length c0_1) := (blk_cell BK2.out 1).trans rfl; have hk7_0 : W17.cell? ⟨g7, 0, none⟩ = some (.int .i64 r23_0) := (blk_cell BK7.out 0).trans rfl; have hk7_1 : W17.cell? ⟨g7, 1, none⟩ = some (.slice Ao23 r23_1.length co23) := (blk_cell BK7.out 1).trans rfl)
    | ((with_reducible refine gate_dst (N := 61) rfl ?_); refine goesL_ (some 61) rfl rfl Try.func51 (by kernel_rfl) rfl #[.agg #[.int .i64 r59_0, .slice Ao59 r59_1.length co59], .int .i64 a1] rfl (by (try simp only [List.map_toArray, List.map_cons, List.map_nil]); first | done | rfl | (simp only [List.length_drop, List.length_take]; rfl)) ?_; refine (impl_PathTo.calls k r59_0 _ _ r59_1 a1 r61_0 _ (Kd.S_reads' HO59.out).2.2 (Kd.S_reads' HO59.out).2.1 E61.out).mono ?_; rintro e W18 ⟨v61, rfl, ho, hb⟩; refine ⟨_, rfl, ?_⟩; clear hk2_0 hk2_1; clear hk7_0 hk7_1; have nOn_ := Kd.R_lower (Kd.R_bound ho) HB.out.size; have hle_ := HT.out; have nB2_ := Aside0.mk (blk_below BK2.out hb); have nO19_ := Aside0.mk (Kd.S_below HO19.out hb); have nO21_ := Aside0.mk (Kd.R_below HO21.out hb); have nB7_ := Aside0.mk (blk_below BK7.out hb); have nO26_ := Aside0.mk (Kd.R_below HO26.out hb); have nO33_ := Aside0.mk (Kd.S_below HO33.out hb); have nO59_ := Aside0.mk (Kd.S_below HO59.out hb); have nHB_ := Aside0.mk (below_step HB.out hb); have nHT_ := Aside0.mk (Nat.le_trans HT.out hb.size); clear BK2 HO19 HO21 BK7 HO26 HO33 HO59 HB HT; have BK2 := nB2_; have HO19 := nO19_; have HO21 := nO21_; have BK7 := nB7_; have HO26 := nO26_; have HO33 := nO33_; have HO59 := nO59_; have HB := nHB_; have HT := nHT_; clear nB2_ nO19_ nO21_ nB7_ nO26_ nO33_ nO59_ nHB_ nHT_; obtain ⟨T9, hT9⟩ : ∃ n_, n_ = W18.heap.size := ⟨_, rfl⟩; have ORD9 := Aside0.mk (show T8 ≤ T9 from by rw [hT9]; exact HT.out); clear HT; have HT := Aside0.mk (Nat.le_of_eq hT9); have HO61 := Aside0.mk (Kd.R_mono (ok' := fun k_ => T8 ≤ k_ ∧ k_ < T9) nOn_ (fun k_ hk_ => ⟨Nat.le_trans hle_ hk_.2.1, by rw [hT9]; exact hk_.2.2.1⟩)); clear nOn_ hle_ ho hT9; obtain ⟨Ao61, co61, eo61⟩ := Kd.R_slice HO61.out; subst eo61; clear hb; have hk2_0 : W18.cell? ⟨g2, 0, none⟩ = some (.int .i64 a0_0) := (blk_cell BK2.out 0).trans rfl; have hk2_1 : W18.cell? ⟨g2, 1, none⟩ = some (.slice A0_1 l0_1.length c0_1) := (blk_cell BK2.out 1).trans rfl; have hk7_0 : W18.cell? ⟨g7, 0, none⟩ = some (.int .i64 r23_0) := (blk_cell BK7.out 0).trans rfl; have hk7_1 : W18.cell? ⟨g7, 1, none⟩ = some (.slice Ao23 r23_1.length co23) := (blk_cell BK7.out 1).trans rfl)
    | ((with_reducible refine gate_dst (N := 64) rfl ?_); refine goesL_ (some 64) rfl rfl Try.func39 (by kernel_rfl) rfl #[.slice Ao61 r61_0.length co61, .slice Ao21 r21_0.length co21] rfl (by (try simp only [List.map_toArray, List.map_cons, List.map_nil]); first | done | rfl | (simp only [List.length_drop, List.length_take]; rfl)) ?_; refine (laws_eqIntS.calls k _ _ r61_0 _ _ r21_0 true _ (Kd.R_reads' HO61.out).2.2 (Kd.R_reads' HO61.out).2.1 (Kd.R_reads' HO21.out).2.2 (Kd.R_reads' HO21.out).2.1 E64.out).mono ?_; rintro e W19 ⟨rfl, hd⟩; refine ⟨_, rfl, ?_⟩; have hb := Drawn0.below hd; clear hd; clear hk2_0 hk2_1; clear hk7_0 hk7_1; have nB2_ := Aside0.mk (blk_below BK2.out hb); have nO19_ := Aside0.mk (Kd.S_below HO19.out hb); have nO21_ := Aside0.mk (Kd.R_below HO21.out hb); have nB7_ := Aside0.mk (blk_below BK7.out hb); have nO26_ := Aside0.mk (Kd.R_below HO26.out hb); have nO33_ := Aside0.mk (Kd.S_below HO33.out hb); have nO59_ := Aside0.mk (Kd.S_below HO59.out hb); have nO61_ := Aside0.mk (Kd.R_below HO61.out hb); have nHB_ := Aside0.mk (below_step HB.out hb); have nHT_ := Aside0.mk (Nat.le_trans HT.out hb.size); clear BK2 HO19 HO21 BK7 HO26 HO33 HO59 HO61 HB HT; have BK2 := nB2_; have HO19 := nO19_; have HO21 := nO21_; have BK7 := nB7_; have HO26 := nO26_; have HO33 := nO33_; have HO59 := nO59_; have HO61 := nO61_; have HB := nHB_; have HT := nHT_; clear nB2_ nO19_ nO21_ nB7_ nO26_ nO33_ nO59_ nO61_ nHB_ nHT_; clear hb; have hk2_0 : W19.cell? ⟨g2, 0, none⟩ = some (.int .i64 a0_0) := (blk_cell BK2.out 0).trans rfl; have hk2_1 : W19.cell? ⟨g2, 1, none⟩ = some (.slice A0_1 l0_1.length c0_1) := (blk_cell BK2.out 1).trans rfl; have hk7_0 : W19.cell? ⟨g7, 0, none⟩ = some (.int .i64 r23_0) := (blk_cell BK7.out 0).trans rfl; have hk7_1 : W19.cell? ⟨g7, 1, none⟩ = some (.slice Ao23 r23_1.length co23) := (blk_cell BK7.out 1).trans rfl)
    | ((with_reducible refine gate_dst (N := 68) rfl ?_); refine goesL_ (some 68) rfl rfl Try.func52 (by kernel_rfl) rfl #[.slice Ao26 r26_0.length co26, .int .i64 1] rfl (by (try simp only [List.map_toArray, List.map_cons, List.map_nil]); first | done | rfl | (simp only [List.length_drop, List.length_take]; rfl)) ?_; refine calls_args (by rw [LN26.out]) ((laws_heldIntS.calls k Ao26 co26 r49_1 1 r68_0 _ (Kd.R_reads' HO26.out).2.2 (by rw [← LN26.out]; exact (Kd.R_reads' HO26.out).2.1) E68.out).mono ?_); rintro e W20 ⟨rfl, hd⟩; refine ⟨_, rfl, ?_⟩; have hb := Drawn0.below hd; clear hd; clear hk2_0 hk2_1; clear hk7_0 hk7_1; have nB2_ := Aside0.mk (blk_below BK2.out hb); have nO19_ := Aside0.mk (Kd.S_below HO19.out hb); have nO21_ := Aside0.mk (Kd.R_below HO21.out hb); have nB7_ := Aside0.mk (blk_below BK7.out hb); have nO26_ := Aside0.mk (Kd.R_below HO26.out hb); have nO33_ := Aside0.mk (Kd.S_below HO33.out hb); have nO59_ := Aside0.mk (Kd.S_below HO59.out hb); have nO61_ := Aside0.mk (Kd.R_below HO61.out hb); have nHB_ := Aside0.mk (below_step HB.out hb); have nHT_ := Aside0.mk (Nat.le_trans HT.out hb.size); clear BK2 HO19 HO21 BK7 HO26 HO33 HO59 HO61 HB HT; have BK2 := nB2_; have HO19 := nO19_; have HO21 := nO21_; have BK7 := nB7_; have HO26 := nO26_; have HO33 := nO33_; have HO59 := nO59_; have HO61 := nO61_; have HB := nHB_; have HT := nHT_; clear nB2_ nO19_ nO21_ nB7_ nO26_ nO33_ nO59_ nO61_ nHB_ nHT_; clear hb; have hk2_0 : W20.cell? ⟨g2, 0, none⟩ = some (.int .i64 a0_0) := (blk_cell BK2.out 0).trans rfl; have hk2_1 : W20.cell? ⟨g2, 1, none⟩ = some (.slice A0_1 l0_1.length c0_1) := (blk_cell BK2.out 1).trans rfl; have hk7_0 : W20.cell? ⟨g7, 0, none⟩ = some (.int .i64 r23_0) := (blk_cell BK7.out 0).trans rfl; have hk7_1 : W20.cell? ⟨g7, 1, none⟩ = some (.slice Ao23 r23_1.length co23) := (blk_cell BK7.out 1).trans rfl))
  go_ret
  exact ⟨rfl, HB.out⟩

end Go.Proofs.Ytngjaajcdbodeaa.All
