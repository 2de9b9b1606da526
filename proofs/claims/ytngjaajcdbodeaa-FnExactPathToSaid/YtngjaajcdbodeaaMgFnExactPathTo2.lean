/- The texts on which the row FnExactPathTo rests, part 2: contracts of the functions that it reaches and plain laws of what they compute. No condition. -/
import Derived.Test.YtngjaajcdbodeaaMgFnExactPathTo1
namespace Go.Proofs.Ytngjaajcdbodeaa.All
open Go.RowKit Go.Proofs.YtngjaajcdbodeaaW.PrintWords Go.Proofs.YtngjaajcdbodeaaW.PrintLast Go.Proofs.YtngjaajcdbodeaaW.PrintMore
attribute [local go_sem] max2_int min2_int max_two min_two max_three min_three max_four min_four   -- for this text's walks alone
set_option linter.unusedVariables false
set_option linter.unusedSimpArgs false

/-! ### spec_BookOk: function 41 -/
mutual
def spec_BookOk.j0 : Nat → List Int → Bool → Int → List (S90) → Option (Bool)
  | 0, _, _, _, _ => none
  | k + 1, x3, x20, x590000, x590001 => if x20 = true then (some false) else (spec_BookOk.l0 k x3 0 x590000 x590001)
def spec_BookOk.l0 : Nat → List Int → Int → Int → List (S90) → Option (Bool)
  | 0, _, _, _, _ => none
  | k + 1, x3, x4, x590000, x590001 => if x4 < (x590001.length : Int) then (if 0 ≤ x4 then (if (rd_T90 x590001 x4).f0 = true then ((spec_NodeOk.f k ((rd_T90 x590001 x4).f1.f0) ((rd_T90 x590001 x4).f1.f1)).bind fun t596 => (if t596 = true then (if ((rd_T90 x590001 x4).f0 = true) then (spec_BookOk.l0 k x3 (wrap64 (x4 + 1)) x590000 x590001) else (if (rd_T90 x590001 x4).f1.f0 = true then (some false) else (if (((rd_T90 x590001 x4).f1.f1).length : Int) > 0 then (some false) else (spec_BookOk.l0 k x3 (wrap64 (x4 + 1)) x590000 x590001)))) else (some false))) else (if ((rd_T90 x590001 x4).f0 = true) then (spec_BookOk.l0 k x3 (wrap64 (x4 + 1)) x590000 x590001) else (if (rd_T90 x590001 x4).f1.f0 = true then (some false) else (if (((rd_T90 x590001 x4).f1.f1).length : Int) > 0 then (some false) else (spec_BookOk.l0 k x3 (wrap64 (x4 + 1)) x590000 x590001))))) else (none)) else (spec_BookOk.l1 k x3 0 0 x590000 x590001)
def spec_BookOk.l1 : Nat → List Int → Int → Int → Int → List (S90) → Option (Bool)
  | 0, _, _, _, _, _ => none
  | k + 1, x3, x5, x6, x590000, x590001 => if x6 < (x3.length : Int) then (if 0 ≤ x6 then (if 0 ≤ (rd x3 x6) then (if (rd x3 x6) < (x590001.length : Int) then (spec_BookOk.l2 k x3 x5 x6 0 x590000 x590001 ((rd_T90 x590001 (rd x3 x6)).f1.f0) ((rd_T90 x590001 (rd x3 x6)).f1.f1)) else (none)) else (none)) else (none)) else (some (x5 == (wrap64 ((x3.length : Int) - 1))))
def spec_BookOk.l2 : Nat → List Int → Int → Int → Int → Int → List (S90) → Bool → List (S103) → Option (Bool)
  | 0, _, _, _, _, _, _, _, _ => none
  | k + 1, x3, x5, x6, x8, x590000, x590001, x606000, x606001 => if x8 < (x606001.length : Int) then (spec_BookOk.j4 k x3 x5 x6 x8 (!x606000) x590000 x590001 x606000 x606001) else (spec_BookOk.j4 k x3 x5 x6 x8 false x590000 x590001 x606000 x606001)
def spec_BookOk.j4 : Nat → List Int → Int → Int → Int → Bool → Int → List (S90) → Bool → List (S103) → Option (Bool)
  | 0, _, _, _, _, _, _, _, _, _ => none
  | k + 1, x3, x5, x6, x8, x97, x590000, x590001, x606000, x606001 => if x97 = true then (if 0 ≤ x8 then (if x8 < (x606001.length : Int) then ((spec_l7Has.f k x3 ((rd_T103 x606001 x8).f0)).bind fun t607 => (if t607 = true then (if ((rd_T103 x606001 x8).f0) = x590000 then (some false) else (spec_BookOk.l2 k x3 (wrap64 (x5 + 1)) x6 (wrap64 (x8 + 1)) x590000 x590001 x606000 x606001)) else (some false))) else (none)) else (none)) else (spec_BookOk.l1 k x3 x5 (wrap64 (x6 + 1)) x590000 x590001)
end
def spec_BookOk.f (k : Nat) (a0_0 : Int) (l0_1 : List (S90)) : Option (Bool) := (spec_Reach.f k a0_0 l0_1).bind fun t590 => ((spec_l1In.f (l0_1.length : Int) 1 48).bind fun t593 => (if t593 = true then (spec_BookOk.j0 k t590 ((t590.length : Int) == 0) a0_0 l0_1) else (spec_BookOk.j0 k t590 true a0_0 l0_1)))
theorem spec_BookOk.mono_l : ∀ k, (∀ y0 y1 y2 y3, LeO (spec_BookOk.j0 k y0 y1 y2 y3) (spec_BookOk.j0 (k + 1) y0 y1 y2 y3)) ∧ (∀ y0 y1 y2 y3, LeO (spec_BookOk.l0 k y0 y1 y2 y3) (spec_BookOk.l0 (k + 1) y0 y1 y2 y3)) ∧ (∀ y0 y1 y2 y3 y4, LeO (spec_BookOk.l1 k y0 y1 y2 y3 y4) (spec_BookOk.l1 (k + 1) y0 y1 y2 y3 y4)) ∧ (∀ y0 y1 y2 y3 y4 y5 y6 y7, LeO (spec_BookOk.l2 k y0 y1 y2 y3 y4 y5 y6 y7) (spec_BookOk.l2 (k + 1) y0 y1 y2 y3 y4 y5 y6 y7)) ∧ (∀ y0 y1 y2 y3 y4 y5 y6 y7 y8, LeO (spec_BookOk.j4 k y0 y1 y2 y3 y4 y5 y6 y7 y8) (spec_BookOk.j4 (k + 1) y0 y1 y2 y3 y4 y5 y6 y7 y8))
  | 0 => ⟨fun _ _ _ _ r h => by simp [spec_BookOk.j0] at h, fun _ _ _ _ r h => by simp [spec_BookOk.l0] at h, fun _ _ _ _ _ r h => by simp [spec_BookOk.l1] at h, fun _ _ _ _ _ _ _ _ r h => by simp [spec_BookOk.l2] at h, fun _ _ _ _ _ _ _ _ _ r h => by simp [spec_BookOk.j4] at h⟩
  | k + 1 => by
    obtain ⟨ih0, ih1, ih2, ih3, ih4⟩ := spec_BookOk.mono_l k
    refine ⟨?_, ?_, ?_, ?_, ?_⟩
    · intro y0 y1 y2 y3
      unfold spec_BookOk.j0
      repeat' first
      | (with_reducible exact ih0 _ _ _ _)
      | (with_reducible exact ih1 _ _ _ _)
      | (with_reducible exact ih2 _ _ _ _ _)
      | (with_reducible exact ih3 _ _ _ _ _ _ _ _)
      | (with_reducible exact ih4 _ _ _ _ _ _ _ _ _)
      | (with_reducible exact spec_NodeOk.mono _ _ _)
      | (with_reducible exact spec_Reach.mono _ _ _)
      | (with_reducible exact spec_l7Has.mono _ _ _)
      | (with_reducible exact LeO.refl _)
      | (with_reducible exact LeO.none _)
      | (with_reducible refine LeO.ite ?_ ?_)
      | (with_reducible refine LeO.bind ?_ (fun _ => ?_))
      | exact ih0 _ _ _ _
      | exact ih1 _ _ _ _
      | exact ih2 _ _ _ _ _
      | exact ih3 _ _ _ _ _ _ _ _
      | exact ih4 _ _ _ _ _ _ _ _ _
      | exact spec_NodeOk.mono _ _ _
      | exact spec_Reach.mono _ _ _
      | exact spec_l7Has.mono _ _ _
      | exact LeO.none _
      | refine LeO.ite ?_ ?_
      | refine LeO.bind ?_ (fun _ => ?_)
    · intro y0 y1 y2 y3
      unfold spec_BookOk.l0
      repeat' first
      | (with_reducible exact ih0 _ _ _ _)
      | (with_reducible exact ih1 _ _ _ _)
      | (with_reducible exact ih2 _ _ _ _ _)
      | (with_reducible exact ih3 _ _ _ _ _ _ _ _)
      | (with_reducible exact ih4 _ _ _ _ _ _ _ _ _)
      | (with_reducible exact spec_NodeOk.mono _ _ _)
      | (with_reducible exact spec_Reach.mono _ _ _)
      | (with_reducible exact spec_l7Has.mono _ _ _)
      | (with_reducible exact LeO.refl _)
      | (with_reducible exact LeO.none _)
      | (with_reducible refine LeO.ite ?_ ?_)
      | (with_reducible refine LeO.bind ?_ (fun _ => ?_))
      | exact ih0 _ _ _ _
      | exact ih1 _ _ _ _
      | exact ih2 _ _ _ _ _
      | exact ih3 _ _ _ _ _ _ _ _
      | exact ih4 _ _ _ _ _ _ _ _ _
      | exact spec_NodeOk.mono _ _ _
      | exact spec_Reach.mono _ _ _
      | exact spec_l7Has.mono _ _ _
      | exact LeO.none _
      | refine LeO.ite ?_ ?_
      | refine LeO.bind ?_ (fun _ => ?_)
    · intro y0 y1 y2 y3 y4
      unfold spec_BookOk.l1
      repeat' first
      | (with_reducible exact ih0 _ _ _ _)
      | (with_reducible exact ih1 _ _ _ _)
      | (with_reducible exact ih2 _ _ _ _ _)
      | (with_reducible exact ih3 _ _ _ _ _ _ _ _)
      | (with_reducible exact ih4 _ _ _ _ _ _ _ _ _)
      | (with_reducible exact spec_NodeOk.mono _ _ _)
      | (with_reducible exact spec_Reach.mono _ _ _)
      | (with_reducible exact spec_l7Has.mono _ _ _)
      | (with_reducible exact LeO.refl _)
      | (with_reducible exact LeO.none _)
      | (with_reducible refine LeO.ite ?_ ?_)
      | (with_reducible refine LeO.bind ?_ (fun _ => ?_))
      | exact ih0 _ _ _ _
      | exact ih1 _ _ _ _
      | exact ih2 _ _ _ _ _
      | exact ih3 _ _ _ _ _ _ _ _
      | exact ih4 _ _ _ _ _ _ _ _ _
      | exact spec_NodeOk.mono _ _ _
      | exact spec_Reach.mono _ _ _
      | exact spec_l7Has.mono _ _ _
      | exact LeO.none _
      | refine LeO.ite ?_ ?_
      | refine LeO.bind ?_ (fun _ => ?_)
    · intro y0 y1 y2 y3 y4 y5 y6 y7
      unfold spec_BookOk.l2
      repeat' first
      | (with_reducible exact ih0 _ _ _ _)
      | (with_reducible exact ih1 _ _ _ _)
      | (with_reducible exact ih2 _ _ _ _ _)
      | (with_reducible exact ih3 _ _ _ _ _ _ _ _)
      | (with_reducible exact ih4 _ _ _ _ _ _ _ _ _)
      | (with_reducible exact spec_NodeOk.mono _ _ _)
      | (with_reducible exact spec_Reach.mono _ _ _)
      | (with_reducible exact spec_l7Has.mono _ _ _)
      | (with_reducible exact LeO.refl _)
      | (with_reducible exact LeO.none _)
      | (with_reducible refine LeO.ite ?_ ?_)
      | (with_reducible refine LeO.bind ?_ (fun _ => ?_))
      | exact ih0 _ _ _ _
      | exact ih1 _ _ _ _
      | exact ih2 _ _ _ _ _
      | exact ih3 _ _ _ _ _ _ _ _
      | exact ih4 _ _ _ _ _ _ _ _ _
      | exact spec_NodeOk.mono _ _ _
      | exact spec_Reach.mono _ _ _
      | exact spec_l7Has.mono _ _ _
      | exact LeO.none _
      | refine LeO.ite ?_ ?_
      | refine LeO.bind ?_ (fun _ => ?_)
    · intro y0 y1 y2 y3 y4 y5 y6 y7 y8
      unfold spec_BookOk.j4
      repeat' first
      | (with_reducible exact ih0 _ _ _ _)
      | (with_reducible exact ih1 _ _ _ _)
      | (with_reducible exact ih2 _ _ _ _ _)
      | (with_reducible exact ih3 _ _ _ _ _ _ _ _)
      | (with_reducible exact ih4 _ _ _ _ _ _ _ _ _)
      | (with_reducible exact spec_NodeOk.mono _ _ _)
      | (with_reducible exact spec_Reach.mono _ _ _)
      | (with_reducible exact spec_l7Has.mono _ _ _)
      | (with_reducible exact LeO.refl _)
      | (with_reducible exact LeO.none _)
      | (with_reducible refine LeO.ite ?_ ?_)
      | (with_reducible refine LeO.bind ?_ (fun _ => ?_))
      | exact ih0 _ _ _ _
      | exact ih1 _ _ _ _
      | exact ih2 _ _ _ _ _
      | exact ih3 _ _ _ _ _ _ _ _
      | exact ih4 _ _ _ _ _ _ _ _ _
      | exact spec_NodeOk.mono _ _ _
      | exact spec_Reach.mono _ _ _
      | exact spec_l7Has.mono _ _ _
      | exact LeO.none _
      | refine LeO.ite ?_ ?_
      | refine LeO.bind ?_ (fun _ => ?_)
theorem spec_BookOk.mono : ∀ a0 a1 k, LeO (spec_BookOk.f k a0 a1) (spec_BookOk.f (k + 1) a0 a1) := by
  intro a0 a1 k
  obtain ⟨ih0, ih1, ih2, ih3, ih4⟩ := spec_BookOk.mono_l k
  unfold spec_BookOk.f
  repeat' first
      | (with_reducible exact ih0 _ _ _ _)
      | (with_reducible exact ih1 _ _ _ _)
      | (with_reducible exact ih2 _ _ _ _ _)
      | (with_reducible exact ih3 _ _ _ _ _ _ _ _)
      | (with_reducible exact ih4 _ _ _ _ _ _ _ _ _)
      | (with_reducible exact spec_NodeOk.mono _ _ _)
      | (with_reducible exact spec_Reach.mono _ _ _)
      | (with_reducible exact spec_l7Has.mono _ _ _)
      | (with_reducible exact LeO.refl _)
      | (with_reducible exact LeO.none _)
      | (with_reducible refine LeO.ite ?_ ?_)
      | (with_reducible refine LeO.bind ?_ (fun _ => ?_))
      | exact ih0 _ _ _ _
      | exact ih1 _ _ _ _
      | exact ih2 _ _ _ _ _
      | exact ih3 _ _ _ _ _ _ _ _
      | exact ih4 _ _ _ _ _ _ _ _ _
      | exact spec_NodeOk.mono _ _ _
      | exact spec_Reach.mono _ _ _
      | exact spec_l7Has.mono _ _ _
      | exact LeO.none _
      | refine LeO.ite ?_ ?_
      | refine LeO.bind ?_ (fun _ => ?_)
def spec_BookOk.T13 : Bool × List (List Nat × List Nat) := (true, [([], []), ([0], [0]), ([], []), ([], []), ([2, 3], [2, 3]), ([4], [4]), ([1, 5], [1, 5]), ([6], [6]), ([7], [7]), ([], []), ([9, 8, 0, 1, 2, 3, 4, 5, 6, 7, 8, 9], [8, 9])])
def spec_BookOk.B13 : List Nat := [0, 1, 0, 0, 12, 28, 63, 127, 255, 0, 1023]
theorem spec_BookOk.tab13 : rtab .any (opsOf Try.f41 13) = spec_BookOk.T13 := by kernel_rfl
theorem spec_BookOk.bits13 : waitsOk spec_BookOk.T13.2 spec_BookOk.B13 = true := by kernel_rfl
def spec_BookOk.T17 : Bool × List (List Nat × List Nat) := (true, [([], []), ([], []), ([1], [1]), ([], []), ([2, 3], [2, 3]), ([4], [4]), ([5], [5]), ([0, 6], [0, 6]), ([7], [7]), ([8, 7], [8]), ([9], [9]), ([10, 9], [9, 10]), ([9], [9]), ([11, 12, 9], [9, 11, 12]), ([13, 9], [9, 13]), ([14, 9], [9, 14]), ([9], [9]), ([16, 9], [9, 16]), ([15, 17, 9], [9, 15, 17]), ([9, 18], [9, 18])])
def spec_BookOk.B17 : List Nat := [0, 0, 2, 0, 14, 30, 62, 127, 255, 511, 1023, 2047, 1023, 8191, 16383, 32767, 1023, 66559, 262143, 524287]
theorem spec_BookOk.tab17 : rtab .any (opsOf Try.f41 17) = spec_BookOk.T17 := by kernel_rfl
theorem spec_BookOk.bits17 : waitsOk spec_BookOk.T17.2 spec_BookOk.B17 = true := by kernel_rfl
set_option maxHeartbeats 8000000 in
set_option maxRecDepth 100000 in
theorem spec_BookOk.calls (k : Nat) (a0_0 : Int) (A0_1 : Option Addr) (c0_1 : Nat) (l0_1 : List (S90)) (r : Bool) (w : World) (hr0_1 : Kd.C k90 w A0_1 l0_1.length l0_1) (hc0_1 : l0_1.length ≤ c0_1) (h : spec_BookOk.f k a0_0 l0_1 = some r) :
    Calls Try.prog 41 #[.agg #[.int .i64 a0_0, .slice A0_1 l0_1.length c0_1]] w fun e w' => e = .returned (.bool r) ∧ Below w.heap.size w w' := by
  have hu49 := Try.underlying49
  have hu54 := Try.underlying54
  have HR0_1 := Aside0.mk hr0_1
  have HC0_1 := Aside0.mk hc0_1
  clear hr0_1 hc0_1
  have HB := Aside0.mk (Below.refl w.heap.size w)
  have H : ((spec_Reach.f k a0_0 l0_1).bind fun t590 => ((spec_l1In.f (l0_1.length : Int) 1 48).bind fun t593 => (if t593 = true then (spec_BookOk.j0 k t590 ((t590.length : Int) == 0) a0_0 l0_1) else (spec_BookOk.j0 k t590 true a0_0 l0_1)))) = some r := h
  clear h
  replace H := Option.bind_eq_some_iff.mp H
  obtain ⟨t590, A20, H⟩ := H
  replace H : ((spec_l1In.f (l0_1.length : Int) 1 48).bind fun t593 => (if t593 = true then (spec_BookOk.j0 k t590 ((t590.length : Int) == 0) a0_0 l0_1) else (spec_BookOk.j0 k t590 true a0_0 l0_1))) = some r := H
  have A2 := Aside0.mk A20
  clear A20
  have HC3 := Aside0.mk H
  clear H
  go_enter Try.func41, Try.ntmps41
  go_upto_region 2 with (first | ((with_reducible refine gate_dst (N := 1) rfl ?_); (try (refine gate_guard (by rfl) ?_; dsimp only)); refine box_event ?hg (N := 1) ?hd (cs := #[.int .i64 a0_0, .slice A0_1 l0_1.length c0_1]) (t := 49) ?hr ?_; (case hd => rfl); (case hg => rfl); (case hr => first | (go_simp; done) | (go_simp; rfl)); intro gb589 hg w4 hbox hb; have n0_ := Aside0.mk (below_step (by repeat (first | (with_reducible first | exact HB.out | apply below_alloc | apply pw_below_drewN | apply below_drew1) | exact HB.out)) hb); have n1_ := Aside0.mk (hbox); have n2_ := Aside0.mk ((by rw [hg]; exact (below_size (by repeat (first | (with_reducible first | exact HB.out | apply below_alloc | apply pw_below_drewN | apply below_drew1) | exact HB.out))) : w.heap.size ≤ gb589)); have n3_ := Aside0.mk ((by rw [hg]; exact (below_size (by repeat (first | (with_reducible first | exact HB.out | apply below_alloc | apply pw_below_drewN | apply below_drew1) | exact HB.out))) : w.heap.size ≤ gb589)); clear HB; have HB := n0_; have BK589 := n1_; have GW589 := n2_; have GE589 := n3_; clear n0_ n1_ n2_ n3_; clear hb hbox hg; have hcz5_0 : w4.cell? ⟨gb589, 0, none⟩ = some (.int .i64 a0_0) := (blk_cell BK589.out 0).trans rfl; have hcz5_1 : w4.cell? ⟨gb589, 1, none⟩ = some (.slice A0_1 l0_1.length c0_1) := (blk_cell BK589.out 1).trans rfl; have hfz5_0 := blk_frozen BK589.out 0; have hfz5_1 := blk_frozen BK589.out 1) | ((with_reducible refine gate_callee (f := 85) rfl ?_); refine goesL_ (some 10) rfl rfl Try.func85 (by kernel_rfl) rfl #[.agg #[.int .i64 a0_0, .slice A0_1 l0_1.length c0_1]] rfl (by (try simp only [List.map_toArray, List.map_cons, List.map_nil]); first | done | rfl | (simp only [List.length_drop, List.length_take]; rfl)) ?_; (with_reducible refine (spec_Reach.calls k a0_0 _ _ l0_1 t590 _ ?side1 ?side2 A2.out).mono ?_); (case side1 => repeat (first | exact (Kd.C_below HR0_1.out HB.out) | (with_reducible refine Kd.C_alloc ?_ _) | (with_reducible refine Kd.C_drewN ?_ _) | (with_reducible refine Kd.C_drew ?_))); (case side2 => exact HC0_1.out); rintro e w6 ⟨v591, rfl, ho0, hb⟩; refine ⟨_, rfl, ?_⟩; have n0_ := Aside0.mk (Kd.R_lower ho0 (below_size (by repeat (first | (with_reducible first | exact HB.out | apply below_alloc | apply pw_below_drewN | apply below_drew1 | refine below_set ?_ GE589.out) | exact HB.out)))); have n1_ := Aside0.mk (blk_below (g := gb589) (o := .cells #[.int .i64 a0_0, .slice A0_1 l0_1.length c0_1] 49 (0, 0)) (by (with_reducible repeat (first | refine blk_drewN ?_ _ | refine blk_drew ?_ | refine blk_alloc ?_ _)); exact BK589.out) hb); have n2_ := Aside0.mk (below_step (by repeat (first | (with_reducible first | exact HB.out | apply below_alloc | apply pw_below_drewN | apply below_drew1 | refine below_set ?_ GE589.out) | exact HB.out)) hb); clear BK589; clear HB; have HO592 := n0_; have BK589 := n1_; have HB := n2_; clear n0_ n1_ n2_; (try clear hb); (try clear hb2); (try clear hk); (try clear hi); (try clear ho0)))
  (try simp only [Act.put, List.setIfInBounds_toArray, List.set_cons_zero, List.set_cons_succ])
  go_cut [20] (fun v20 wc => ∃ (kq : Nat) (x20_2 : Bool), v20 = .bool x20_2 ∧ Aside0 (spec_BookOk.j0 kq t590 x20_2 a0_0 l0_1 = some r) ∧ Aside0 (kq ≤ k) ∧ Aside0 (Kd.R (Kd.int .i64) 3 wc w.heap.size (fun _ => True) v591 t590) ∧ Aside0 (wc.heap[gb589]? = some (.cells #[.int .i64 a0_0, (.slice A0_1 l0_1.length c0_1)] 49 (0, 0))) ∧ Aside0 (Below w.heap.size w wc))
  case first =>
    have H := HC3.out
    clear HC3
    replace H := Option.bind_eq_some_iff.mp H
    obtain ⟨t593, A70, H⟩ := H
    replace H : (if t593 = true then (spec_BookOk.j0 k t590 ((t590.length : Int) == 0) a0_0 l0_1) else (spec_BookOk.j0 k t590 true a0_0 l0_1)) = some r := H
    have A7 := Aside0.mk A70
    clear A70
    by_cases c8 : t593 = true
    · subst c8
      have H1 : (spec_BookOk.j0 k t590 ((t590.length : Int) == 0) a0_0 l0_1) = some r := by rw [if_pos rfl] at H; exact H
      clear H
      have H := H1
      clear H1
      have H' := Aside0.mk H
      clear H
      have hcz9_0 : w6.cell? ⟨gb589, 0, none⟩ = some (.int .i64 a0_0) := (blk_cell BK589.out 0).trans rfl
      have hcz9_1 : w6.cell? ⟨gb589, 1, none⟩ = some (.slice A0_1 l0_1.length c0_1) := (blk_cell BK589.out 1).trans rfl
      have hfz9_0 := blk_frozen BK589.out 0
      have hfz9_1 := blk_frozen BK589.out 1
      go_wp2_with (first | ((with_reducible refine gate_callee (f := 72) rfl ?_); refine goesL_ (some 14) rfl rfl Try.func72 (by kernel_rfl) rfl #[.int .i64 (l0_1.length : Int), .int .i64 1, .int .i64 48] rfl (by (try simp only [List.map_toArray, List.map_cons, List.map_nil]); first | done | rfl | (simp only [List.length_drop, List.length_take]; rfl)) ?_; (with_reducible refine (spec_l1In.calls (l0_1.length : Int) 1 48 true _ A7.out).mono ?_); rintro e w' ⟨rfl, ⟨nd, rfl⟩⟩; refine ⟨_, rfl, ?_⟩; obtain ⟨Ao10, co10, eo10⟩ := Kd.R_slice HO592.out; subst eo10))
      go_meet
      case rel => exact ⟨_, (((t590.length : Int) == 0)), (by first | rfl | (simp; done) | (simp [*]; done)), H', ⟨by first | omega | exact Nat.le_refl _⟩, ⟨by (with_reducible repeat (first | apply Kd.R_alloc | apply Kd.R_drewN | apply Kd.R_drew)); exact HO592.out⟩, ⟨by (with_reducible repeat (first | refine blk_drewN ?_ _ | refine blk_drew ?_ | refine blk_alloc ?_ _)); exact BK589.out⟩, ⟨by repeat (first | (with_reducible first | exact HB.out | apply below_alloc | apply pw_below_drewN | apply below_drew1 | refine below_set ?_ GE589.out) | exact HB.out)⟩⟩
    · replace c8 := Bool.eq_false_iff.mpr c8
      subst c8
      have H1 : (spec_BookOk.j0 k t590 true a0_0 l0_1) = some r := by rw [if_neg (show ¬ (false = true) by decide)] at H; exact H
      clear H
      have H := H1
      clear H1
      have H' := Aside0.mk H
      clear H
      have hcz11_0 : w6.cell? ⟨gb589, 0, none⟩ = some (.int .i64 a0_0) := (blk_cell BK589.out 0).trans rfl
      have hcz11_1 : w6.cell? ⟨gb589, 1, none⟩ = some (.slice A0_1 l0_1.length c0_1) := (blk_cell BK589.out 1).trans rfl
      have hfz11_0 := blk_frozen BK589.out 0
      have hfz11_1 := blk_frozen BK589.out 1
      go_wp2_with (first | ((with_reducible refine gate_callee (f := 72) rfl ?_); refine goesL_ (some 14) rfl rfl Try.func72 (by kernel_rfl) rfl #[.int .i64 (l0_1.length : Int), .int .i64 1, .int .i64 48] rfl (by (try simp only [List.map_toArray, List.map_cons, List.map_nil]); first | done | rfl | (simp only [List.length_drop, List.length_take]; rfl)) ?_; (with_reducible refine (spec_l1In.calls (l0_1.length : Int) 1 48 false _ A7.out).mono ?_); rintro e w' ⟨rfl, ⟨nd, rfl⟩⟩; refine ⟨_, rfl, ?_⟩))
      go_meet
      case rel => exact ⟨_, (true), (by first | rfl | (simp; done) | (simp [*]; done)), H', ⟨by first | omega | exact Nat.le_refl _⟩, ⟨by (with_reducible repeat (first | apply Kd.R_alloc | apply Kd.R_drewN | apply Kd.R_drew)); exact HO592.out⟩, ⟨by (with_reducible repeat (first | refine blk_drewN ?_ _ | refine blk_drew ?_ | refine blk_alloc ?_ _)); exact BK589.out⟩, ⟨by repeat (first | (with_reducible first | exact HB.out | apply below_alloc | apply pw_below_drewN | apply below_drew1 | refine below_set ?_ GE589.out) | exact HB.out)⟩⟩
  case rest =>
    clear HC3
    try clear p2
    try clear c4
    try clear c7
    try clear c8
    try clear hcz11_0
    try clear hcz11_1
    try clear hcz5_0
    try clear hcz5_1
    try clear hcz9_0
    try clear hcz9_1
    try clear hfz11_0
    try clear hfz11_1
    try clear hfz5_0
    try clear hfz5_1
    try clear hfz9_0
    try clear hfz9_1
    obtain ⟨kq, x20_2, rfl, HA, HJ2, HO_3, BK589, HB⟩ := hcut
    cases kq with
    | zero => exact absurd HA.out (by simp [spec_BookOk.j0])
    | succ kj2 =>
      have H := HA.out
      clear HA
      simp only [spec_BookOk.j0] at H
      by_cases c12 : x20_2 = true
      · subst c12
        have H1 : (some false) = some r := by rw [if_pos rfl] at H; exact H
        clear H
        have H := H1
        clear H1
        obtain rfl := Option.some.inj H
        go_wp2
        go_ret
        exact ⟨by first | rfl | (simp [errW_none, errW_some] <;> rfl) | (simp [*, errW_none, errW_some] <;> rfl), by repeat (first | (with_reducible first | exact HB.out | apply below_alloc | apply pw_below_drewN | apply below_drew1 | refine below_set ?_ GE589.out) | exact HB.out)⟩
      · replace c12 := Bool.eq_false_iff.mpr c12
        subst c12
        have H1 : (spec_BookOk.l0 kj2 t590 0 a0_0 l0_1) = some r := by rw [if_neg (show ¬ (false = true) by decide)] at H; exact H
        clear H
        have H := H1
        clear H1
        have H' := Aside0.mk H
        clear H
        go_wp2
        go_loopg [4] kj2 (fun kq v4 w' => ∃ (x4_2 : Int), v4 = .int .i64 x4_2 ∧ Aside0 (spec_BookOk.l0 kq t590 x4_2 a0_0 l0_1 = some r) ∧ Aside0 (kq ≤ kj2) ∧ Aside0 (Kd.R (Kd.int .i64) 3 w' w.heap.size (fun _ => True) v591 t590) ∧ Aside0 (w'.heap[gb589]? = some (.cells #[.int .i64 a0_0, (.slice A0_1 l0_1.length c0_1)] 49 (0, 0))) ∧ Aside0 (Below w.heap.size w w'))
        case atStart => exact ⟨(0), (by first | rfl | (simp; done) | (simp [*]; done)), H', ⟨Nat.le_refl _⟩, ⟨by (with_reducible repeat (first | apply Kd.R_alloc | apply Kd.R_drewN | apply Kd.R_drew)); exact HO_3.out⟩, ⟨by (with_reducible repeat (first | refine blk_drewN ?_ _ | refine blk_drew ?_ | refine blk_alloc ?_ _)); exact BK589.out⟩, ⟨by repeat (first | (with_reducible first | exact HB.out | apply below_alloc | apply pw_below_drewN | apply below_drew1 | refine below_set ?_ GE589.out) | exact HB.out)⟩⟩
        case round =>
          clear H'
          try clear c1
          try clear p2
          try clear c4
          try clear c7
          try clear c8
          try clear c12
          try clear hcz11_0
          try clear hcz11_1
          try clear hcz5_0
          try clear hcz5_1
          try clear hcz9_0
          try clear hcz9_1
          try clear hfz11_0
          try clear hfz11_1
          try clear hfz5_0
          try clear hfz5_1
          try clear hfz9_0
          try clear hfz9_1
          try clear p2
          obtain ⟨x4_2, rfl, HA, HK2, HO_3, BK589, HB⟩ := hrel
          cases gk with
          | zero => exact absurd HA.out (by simp [spec_BookOk.l0])
          | succ k2 =>
            have H := HA.out
            clear HA
            simp only [spec_BookOk.l0] at H
            by_cases c13 : x4_2 < (l0_1.length : Int)
            · rw [if_pos c13] at H
              have c13b0 : decide (x4_2 < (l0_1.length : Int)) = true := decide_eq_true c13
              clear c13
              by_cases c14 : 0 ≤ x4_2
              · rw [if_pos c14] at H
                have c14b0 : decide (0 ≤ x4_2) = true := decide_eq_true c14
                clear c14
                obtain ⟨bq15, hbq15⟩ : ∃ b_ : Bool, b_ = ((rd_T90 l0_1 x4_2).f0) := ⟨_, rfl⟩
                replace H : (if bq15 = true then ((spec_NodeOk.f k2 ((rd_T90 l0_1 x4_2).f1.f0) ((rd_T90 l0_1 x4_2).f1.f1)).bind fun t596 => (if t596 = true then (if (bq15 = true) then (spec_BookOk.l0 k2 t590 (wrap64 (x4_2 + 1)) a0_0 l0_1) else (if (rd_T90 l0_1 x4_2).f1.f0 = true then (some false) else (if (((rd_T90 l0_1 x4_2).f1.f1).length : Int) > 0 then (some false) else (spec_BookOk.l0 k2 t590 (wrap64 (x4_2 + 1)) a0_0 l0_1)))) else (some false))) else (if (bq15 = true) then (spec_BookOk.l0 k2 t590 (wrap64 (x4_2 + 1)) a0_0 l0_1) else (if (rd_T90 l0_1 x4_2).f1.f0 = true then (some false) else (if (((rd_T90 l0_1 x4_2).f1.f1).length : Int) > 0 then (some false) else (spec_BookOk.l0 k2 t590 (wrap64 (x4_2 + 1)) a0_0 l0_1))))) = some r := by rw [← hbq15] at H; exact H
                have Nbq15 := Aside0.mk hbq15
                clear hbq15
                by_cases c16 : bq15 = true
                · subst c16
                  have H1 : ((spec_NodeOk.f k2 ((rd_T90 l0_1 x4_2).f1.f0) ((rd_T90 l0_1 x4_2).f1.f1)).bind fun t596 => (if t596 = true then (if (true = true) then (spec_BookOk.l0 k2 t590 (wrap64 (x4_2 + 1)) a0_0 l0_1) else (if (rd_T90 l0_1 x4_2).f1.f0 = true then (some false) else (if (((rd_T90 l0_1 x4_2).f1.f1).length : Int) > 0 then (some false) else (spec_BookOk.l0 k2 t590 (wrap64 (x4_2 + 1)) a0_0 l0_1)))) else (some false))) = some r := by rw [if_pos rfl] at H; exact H
                  clear H
                  have H := H1
                  clear H1
                  replace H := Option.bind_eq_some_iff.mp H
                  obtain ⟨t596, A170, H⟩ := H
                  replace H : (if t596 = true then (if (true = true) then (spec_BookOk.l0 k2 t590 (wrap64 (x4_2 + 1)) a0_0 l0_1) else (if (rd_T90 l0_1 x4_2).f1.f0 = true then (some false) else (if (((rd_T90 l0_1 x4_2).f1.f1).length : Int) > 0 then (some false) else (spec_BookOk.l0 k2 t590 (wrap64 (x4_2 + 1)) a0_0 l0_1)))) else (some false)) = some r := H
                  have A17 := Aside0.mk A170
                  clear A170
                  by_cases c18 : t596 = true
                  · subst c18
                    have H1 : (if (true = true) then (spec_BookOk.l0 k2 t590 (wrap64 (x4_2 + 1)) a0_0 l0_1) else (if (rd_T90 l0_1 x4_2).f1.f0 = true then (some false) else (if (((rd_T90 l0_1 x4_2).f1.f1).length : Int) > 0 then (some false) else (spec_BookOk.l0 k2 t590 (wrap64 (x4_2 + 1)) a0_0 l0_1)))) = some r := by rw [if_pos rfl] at H; exact H
                    clear H
                    have H := H1
                    clear H1
                    by_cases c19 : (true = true)
                    · clear c19
                      have H1 : (spec_BookOk.l0 k2 t590 (wrap64 (x4_2 + 1)) a0_0 l0_1) = some r := by rw [if_pos rfl] at H; exact H
                      clear H
                      have H := H1
                      clear H1
                      have H' := Aside0.mk H
                      clear H
                      have hcz20_0 : wr.cell? ⟨gb589, 0, none⟩ = some (.int .i64 a0_0) := (blk_cell BK589.out 0).trans rfl
                      have hcz20_1 : wr.cell? ⟨gb589, 1, none⟩ = some (.slice A0_1 l0_1.length c0_1) := (blk_cell BK589.out 1).trans rfl
                      have hfz20_0 := blk_frozen BK589.out 0
                      have hfz20_1 := blk_frozen BK589.out 1
                      have p594 : 0 ≤ (x4_2 : Int) := of_decide_eq_true (by first | (with_reducible assumption) | assumption)
                      have q594 : x4_2 < (l0_1.length : Int) := of_decide_eq_true (by first | (with_reducible assumption) | assumption)
                      obtain ⟨ad594, A594_2, c594_2, e594, hx594_0, hx594_1, hx594_2, hl594_2, hi594_2⟩ := at_T90 HR0_1.out x4_2 p594 q594
                      (try rw [← Nbq15.out] at hx594_0)
                      (try rw [← Nbq15.out] at hx594_1)
                      cases e594
                      replace hx594_0 := (HB.out.cell (World.block_lt_of_cell? w _ hx594_0)).trans hx594_0
                      replace hx594_1 := (HB.out.cell (World.block_lt_of_cell? w _ hx594_1)).trans hx594_1
                      replace hx594_2 := (HB.out.cell (World.block_lt_of_cell? w _ hx594_2)).trans hx594_2
                      have HR594_2 := Aside0.mk hi594_2
                      have HC594_2 := Aside0.mk hl594_2
                      clear hi594_2 hl594_2
                      replace p594 := eq_true p594
                      replace q594 := eq_true q594
                      have p595 : 0 ≤ (x4_2 : Int) := of_decide_eq_true (by first | (with_reducible assumption) | assumption)
                      have q595 : x4_2 < (l0_1.length : Int) := of_decide_eq_true (by first | (with_reducible assumption) | assumption)
                      obtain ⟨ad595, A595_2, c595_2, e595, hx595_0, hx595_1, hx595_2, hl595_2, hi595_2⟩ := at_T90 HR0_1.out x4_2 p595 q595
                      (try rw [← Nbq15.out] at hx595_0)
                      (try rw [← Nbq15.out] at hx595_1)
                      obtain rfl : ad594 = ad595 := (by injection e595)
                      replace hx595_0 := (HB.out.cell (World.block_lt_of_cell? w _ hx595_0)).trans hx595_0
                      replace hx595_1 := (HB.out.cell (World.block_lt_of_cell? w _ hx595_1)).trans hx595_1
                      replace hx595_2 := (HB.out.cell (World.block_lt_of_cell? w _ hx595_2)).trans hx595_2
                      have HR595_2 := Aside0.mk hi595_2
                      have HC595_2 := Aside0.mk hl595_2
                      clear hi595_2 hl595_2
                      replace p595 := eq_true p595
                      replace q595 := eq_true q595
                      have ea_ := Option.some.inj (hx594_2.symm.trans hx595_2)
                      injection ea_ with ea_ en_ ec_
                      subst ea_
                      subst ec_
                      clear en_
                      go_wp2_with (first | (go_at_call 86; (with_reducible refine (spec_NodeOk.calls k2 ((rd_T90 l0_1 x4_2).f1.f0) _ _ ((rd_T90 l0_1 x4_2).f1.f1) true _ ?side1 ?side2 A17.out).mono ?_); (case side1 => repeat (first | exact (Kd.C_below HR595_2.out HB.out) | (with_reducible refine Kd.C_alloc ?_ _) | (with_reducible refine Kd.C_drewN ?_ _) | (with_reducible refine Kd.C_drew ?_))); (case side2 => exact HC595_2.out); rintro e w21 ⟨rfl, hb⟩; have n0_ := Aside0.mk (Kd.R_below (by (with_reducible repeat (first | apply Kd.R_alloc | apply Kd.R_drewN | apply Kd.R_drew)); exact HO_3.out) hb); have n1_ := Aside0.mk (blk_below (g := gb589) (o := .cells #[.int .i64 a0_0, .slice (some ad594) l0_1.length c0_1] 49 (0, 0)) (by (with_reducible repeat (first | refine blk_drewN ?_ _ | refine blk_drew ?_ | refine blk_alloc ?_ _)); exact BK589.out) hb); have n2_ := Aside0.mk (below_step (by repeat (first | (with_reducible first | exact HB.out | apply below_alloc | apply pw_below_drewN | apply below_drew1 | refine below_set ?_ GE589.out) | exact HB.out)) hb); clear HO_3; clear BK589; clear HB; have HO_3 := n0_; have BK589 := n1_; have HB := n2_; clear n0_ n1_ n2_; (try clear hb); (try clear hb2); (try clear hk); (try clear hi); have hcz22_0 : w21.cell? ⟨gb589, 0, none⟩ = some (.int .i64 a0_0) := (blk_cell BK589.out 0).trans rfl; have hcz22_1 : w21.cell? ⟨gb589, 1, none⟩ = some (.slice (some ad594) l0_1.length c0_1) := (blk_cell BK589.out 1).trans rfl; have hfz22_0 := blk_frozen BK589.out 0; have hfz22_1 := blk_frozen BK589.out 1; have p597 : 0 ≤ (x4_2 : Int) := of_decide_eq_true (by first | (with_reducible assumption) | assumption); have q597 : x4_2 < (l0_1.length : Int) := of_decide_eq_true (by first | (with_reducible assumption) | assumption); obtain ⟨ad597, A597_2, c597_2, e597, hx597_0, hx597_1, hx597_2, hl597_2, hi597_2⟩ := at_T90 HR0_1.out x4_2 p597 q597; (try rw [← Nbq15.out] at hx597_0); (try rw [← Nbq15.out] at hx597_1); obtain rfl : ad594 = ad597 := (by injection e597); replace hx597_0 := (HB.out.cell (World.block_lt_of_cell? w _ hx597_0)).trans hx597_0; replace hx597_1 := (HB.out.cell (World.block_lt_of_cell? w _ hx597_1)).trans hx597_1; replace hx597_2 := (HB.out.cell (World.block_lt_of_cell? w _ hx597_2)).trans hx597_2; have HR597_2 := Aside0.mk hi597_2; have HC597_2 := Aside0.mk hl597_2; clear hi597_2 hl597_2; replace p597 := eq_true p597; replace q597 := eq_true q597))
                      go_roundg k2
                      case measure => have := HJ2.out; have := HK2.out; omega
                      case rel => exact ⟨(wrap64 (x4_2 + 1)), (by first | rfl | (simp; done) | (simp [*]; done)), H', ⟨by have := HJ2.out; have := HK2.out; omega⟩, ⟨by (with_reducible repeat (first | apply Kd.R_alloc | apply Kd.R_drewN | apply Kd.R_drew)); exact HO_3.out⟩, ⟨by (with_reducible repeat (first | refine blk_drewN ?_ _ | refine blk_drew ?_ | refine blk_alloc ?_ _)); exact BK589.out⟩, ⟨by repeat (first | (with_reducible first | exact HB.out | apply below_alloc | apply pw_below_drewN | apply below_drew1 | refine below_set ?_ GE589.out) | exact HB.out)⟩⟩
                    · exact absurd rfl c19
                  · replace c18 := Bool.eq_false_iff.mpr c18
                    subst c18
                    have H1 : (some false) = some r := by rw [if_neg (show ¬ (false = true) by decide)] at H; exact H
                    clear H
                    have H := H1
                    clear H1
                    obtain rfl := Option.some.inj H
                    have hcz34_0 : wr.cell? ⟨gb589, 0, none⟩ = some (.int .i64 a0_0) := (blk_cell BK589.out 0).trans rfl
                    have hcz34_1 : wr.cell? ⟨gb589, 1, none⟩ = some (.slice A0_1 l0_1.length c0_1) := (blk_cell BK589.out 1).trans rfl
                    have hfz34_0 := blk_frozen BK589.out 0
                    have hfz34_1 := blk_frozen BK589.out 1
                    have p594 : 0 ≤ (x4_2 : Int) := of_decide_eq_true (by first | (with_reducible assumption) | assumption)
                    have q594 : x4_2 < (l0_1.length : Int) := of_decide_eq_true (by first | (with_reducible assumption) | assumption)
                    obtain ⟨ad594, A594_2, c594_2, e594, hx594_0, hx594_1, hx594_2, hl594_2, hi594_2⟩ := at_T90 HR0_1.out x4_2 p594 q594
                    (try rw [← Nbq15.out] at hx594_0)
                    (try rw [← Nbq15.out] at hx594_1)
                    cases e594
                    replace hx594_0 := (HB.out.cell (World.block_lt_of_cell? w _ hx594_0)).trans hx594_0
                    replace hx594_1 := (HB.out.cell (World.block_lt_of_cell? w _ hx594_1)).trans hx594_1
                    replace hx594_2 := (HB.out.cell (World.block_lt_of_cell? w _ hx594_2)).trans hx594_2
                    have HR594_2 := Aside0.mk hi594_2
                    have HC594_2 := Aside0.mk hl594_2
                    clear hi594_2 hl594_2
                    replace p594 := eq_true p594
                    replace q594 := eq_true q594
                    have p595 : 0 ≤ (x4_2 : Int) := of_decide_eq_true (by first | (with_reducible assumption) | assumption)
                    have q595 : x4_2 < (l0_1.length : Int) := of_decide_eq_true (by first | (with_reducible assumption) | assumption)
                    obtain ⟨ad595, A595_2, c595_2, e595, hx595_0, hx595_1, hx595_2, hl595_2, hi595_2⟩ := at_T90 HR0_1.out x4_2 p595 q595
                    (try rw [← Nbq15.out] at hx595_0)
                    (try rw [← Nbq15.out] at hx595_1)
                    obtain rfl : ad594 = ad595 := (by injection e595)
                    replace hx595_0 := (HB.out.cell (World.block_lt_of_cell? w _ hx595_0)).trans hx595_0
                    replace hx595_1 := (HB.out.cell (World.block_lt_of_cell? w _ hx595_1)).trans hx595_1
                    replace hx595_2 := (HB.out.cell (World.block_lt_of_cell? w _ hx595_2)).trans hx595_2
                    have HR595_2 := Aside0.mk hi595_2
                    have HC595_2 := Aside0.mk hl595_2
                    clear hi595_2 hl595_2
                    replace p595 := eq_true p595
                    replace q595 := eq_true q595
                    have ea_ := Option.some.inj (hx594_2.symm.trans hx595_2)
                    injection ea_ with ea_ en_ ec_
                    subst ea_
                    subst ec_
                    clear en_
                    go_wp2_with (first | (go_at_call 86; (with_reducible refine (spec_NodeOk.calls k2 ((rd_T90 l0_1 x4_2).f1.f0) _ _ ((rd_T90 l0_1 x4_2).f1.f1) false _ ?side1 ?side2 A17.out).mono ?_); (case side1 => repeat (first | exact (Kd.C_below HR595_2.out HB.out) | (with_reducible refine Kd.C_alloc ?_ _) | (with_reducible refine Kd.C_drewN ?_ _) | (with_reducible refine Kd.C_drew ?_))); (case side2 => exact HC595_2.out); rintro e w35 ⟨rfl, hb⟩; have n0_ := Aside0.mk (Kd.R_below (by (with_reducible repeat (first | apply Kd.R_alloc | apply Kd.R_drewN | apply Kd.R_drew)); exact HO_3.out) hb); have n1_ := Aside0.mk (blk_below (g := gb589) (o := .cells #[.int .i64 a0_0, .slice (some ad594) l0_1.length c0_1] 49 (0, 0)) (by (with_reducible repeat (first | refine blk_drewN ?_ _ | refine blk_drew ?_ | refine blk_alloc ?_ _)); exact BK589.out) hb); have n2_ := Aside0.mk (below_step (by repeat (first | (with_reducible first | exact HB.out | apply below_alloc | apply pw_below_drewN | apply below_drew1 | refine below_set ?_ GE589.out) | exact HB.out)) hb); clear HO_3; clear BK589; clear HB; have HO_3 := n0_; have BK589 := n1_; have HB := n2_; clear n0_ n1_ n2_; (try clear hb); (try clear hb2); (try clear hk); (try clear hi)))
                    go_ret
                    exact ⟨by first | rfl | (simp [errW_none, errW_some] <;> rfl) | (simp [*, errW_none, errW_some] <;> rfl), by repeat (first | (with_reducible first | exact HB.out | apply below_alloc | apply pw_below_drewN | apply below_drew1 | refine below_set ?_ GE589.out) | exact HB.out)⟩
                · replace c16 := Bool.eq_false_iff.mpr c16
                  subst c16
                  have H1 : (if (false = true) then (spec_BookOk.l0 k2 t590 (wrap64 (x4_2 + 1)) a0_0 l0_1) else (if (rd_T90 l0_1 x4_2).f1.f0 = true then (some false) else (if (((rd_T90 l0_1 x4_2).f1.f1).length : Int) > 0 then (some false) else (spec_BookOk.l0 k2 t590 (wrap64 (x4_2 + 1)) a0_0 l0_1)))) = some r := by rw [if_neg (show ¬ (false = true) by decide)] at H; exact H
                  clear H
                  have H := H1
                  clear H1
                  by_cases c36 : (false = true)
                  · exact absurd c36 (by decide)
                  · clear c36
                    have H1 : (if (rd_T90 l0_1 x4_2).f1.f0 = true then (some false) else (if (((rd_T90 l0_1 x4_2).f1.f1).length : Int) > 0 then (some false) else (spec_BookOk.l0 k2 t590 (wrap64 (x4_2 + 1)) a0_0 l0_1))) = some r := by rw [if_neg (show ¬ (false = true) by decide)] at H; exact H
                    clear H
                    have H := H1
                    clear H1
                    obtain ⟨bq38, hbq38⟩ : ∃ b_ : Bool, b_ = ((rd_T90 l0_1 x4_2).f1.f0) := ⟨_, rfl⟩
                    replace H : (if bq38 = true then (some false) else (if (((rd_T90 l0_1 x4_2).f1.f1).length : Int) > 0 then (some false) else (spec_BookOk.l0 k2 t590 (wrap64 (x4_2 + 1)) a0_0 l0_1))) = some r := by rw [← hbq38] at H; exact H
                    have Nbq38 := Aside0.mk hbq38
                    clear hbq38
                    by_cases c39 : bq38 = true
                    · subst c39
                      have H1 : (some false) = some r := by rw [if_pos rfl] at H; exact H
                      clear H
                      have H := H1
                      clear H1
                      obtain rfl := Option.some.inj H
                      have hcz40_0 : wr.cell? ⟨gb589, 0, none⟩ = some (.int .i64 a0_0) := (blk_cell BK589.out 0).trans rfl
                      have hcz40_1 : wr.cell? ⟨gb589, 1, none⟩ = some (.slice A0_1 l0_1.length c0_1) := (blk_cell BK589.out 1).trans rfl
                      have hfz40_0 := blk_frozen BK589.out 0
                      have hfz40_1 := blk_frozen BK589.out 1
                      have p594 : 0 ≤ (x4_2 : Int) := of_decide_eq_true (by first | (with_reducible assumption) | assumption)
                      have q594 : x4_2 < (l0_1.length : Int) := of_decide_eq_true (by first | (with_reducible assumption) | assumption)
                      obtain ⟨ad594, A594_2, c594_2, e594, hx594_0, hx594_1, hx594_2, hl594_2, hi594_2⟩ := at_T90 HR0_1.out x4_2 p594 q594
                      (try rw [← Nbq15.out] at hx594_0)
                      (try rw [← Nbq38.out] at hx594_0)
                      (try rw [← Nbq15.out] at hx594_1)
                      (try rw [← Nbq38.out] at hx594_1)
                      cases e594
                      replace hx594_0 := (HB.out.cell (World.block_lt_of_cell? w _ hx594_0)).trans hx594_0
                      replace hx594_1 := (HB.out.cell (World.block_lt_of_cell? w _ hx594_1)).trans hx594_1
                      replace hx594_2 := (HB.out.cell (World.block_lt_of_cell? w _ hx594_2)).trans hx594_2
                      have HR594_2 := Aside0.mk hi594_2
                      have HC594_2 := Aside0.mk hl594_2
                      clear hi594_2 hl594_2
                      replace p594 := eq_true p594
                      replace q594 := eq_true q594
                      have p600 : 0 ≤ (x4_2 : Int) := of_decide_eq_true (by first | (with_reducible assumption) | assumption)
                      have q600 : x4_2 < (l0_1.length : Int) := of_decide_eq_true (by first | (with_reducible assumption) | assumption)
                      obtain ⟨ad600, A600_2, c600_2, e600, hx600_0, hx600_1, hx600_2, hl600_2, hi600_2⟩ := at_T90 HR0_1.out x4_2 p600 q600
                      (try rw [← Nbq15.out] at hx600_0)
                      (try rw [← Nbq38.out] at hx600_0)
                      (try rw [← Nbq15.out] at hx600_1)
                      (try rw [← Nbq38.out] at hx600_1)
                      obtain rfl : ad594 = ad600 := (by injection e600)
                      replace hx600_0 := (HB.out.cell (World.block_lt_of_cell? w _ hx600_0)).trans hx600_0
                      replace hx600_1 := (HB.out.cell (World.block_lt_of_cell? w _ hx600_1)).trans hx600_1
                      replace hx600_2 := (HB.out.cell (World.block_lt_of_cell? w _ hx600_2)).trans hx600_2
                      have HR600_2 := Aside0.mk hi600_2
                      have HC600_2 := Aside0.mk hl600_2
                      clear hi600_2 hl600_2
                      replace p600 := eq_true p600
                      replace q600 := eq_true q600
                      have ea_ := Option.some.inj (hx594_2.symm.trans hx600_2)
                      injection ea_ with ea_ en_ ec_
                      subst ea_
                      subst ec_
                      clear en_
                      have p601 : 0 ≤ (x4_2 : Int) := of_decide_eq_true (by first | (with_reducible assumption) | assumption)
                      have q601 : x4_2 < (l0_1.length : Int) := of_decide_eq_true (by first | (with_reducible assumption) | assumption)
                      obtain ⟨ad601, A601_2, c601_2, e601, hx601_0, hx601_1, hx601_2, hl601_2, hi601_2⟩ := at_T90 HR0_1.out x4_2 p601 q601
                      (try rw [← Nbq15.out] at hx601_0)
                      (try rw [← Nbq38.out] at hx601_0)
                      (try rw [← Nbq15.out] at hx601_1)
                      (try rw [← Nbq38.out] at hx601_1)
                      obtain rfl : ad594 = ad601 := (by injection e601)
                      replace hx601_0 := (HB.out.cell (World.block_lt_of_cell? w _ hx601_0)).trans hx601_0
                      replace hx601_1 := (HB.out.cell (World.block_lt_of_cell? w _ hx601_1)).trans hx601_1
                      replace hx601_2 := (HB.out.cell (World.block_lt_of_cell? w _ hx601_2)).trans hx601_2
                      have HR601_2 := Aside0.mk hi601_2
                      have HC601_2 := Aside0.mk hl601_2
                      clear hi601_2 hl601_2
                      replace p601 := eq_true p601
                      replace q601 := eq_true q601
                      have ea_ := Option.some.inj (hx594_2.symm.trans hx601_2)
                      injection ea_ with ea_ en_ ec_
                      subst ea_
                      subst ec_
                      clear en_
                      go_wp2
                      go_ret
                      exact ⟨by first | rfl | (simp [errW_none, errW_some] <;> rfl) | (simp [*, errW_none, errW_some] <;> rfl), by repeat (first | (with_reducible first | exact HB.out | apply below_alloc | apply pw_below_drewN | apply below_drew1 | refine below_set ?_ GE589.out) | exact HB.out)⟩
                    · replace c39 := Bool.eq_false_iff.mpr c39
                      subst c39
                      have H1 : (if (((rd_T90 l0_1 x4_2).f1.f1).length : Int) > 0 then (some false) else (spec_BookOk.l0 k2 t590 (wrap64 (x4_2 + 1)) a0_0 l0_1)) = some r := by rw [if_neg (show ¬ (false = true) by decide)] at H; exact H
                      clear H
                      have H := H1
                      clear H1
                      by_cases c41 : (((rd_T90 l0_1 x4_2).f1.f1).length : Int) > 0
                      · rw [if_pos c41] at H
                        have c41b0 : decide (0 < (((rd_T90 l0_1 x4_2).f1.f1).length : Int)) = true := decide_eq_true c41
                        have c41b1 : decide (0 < ((rd_T90 l0_1 x4_2).f1.f1).length) = true := decide_eq_true (by omega)
                        clear c41
                        obtain rfl := Option.some.inj H
                        have hcz42_0 : wr.cell? ⟨gb589, 0, none⟩ = some (.int .i64 a0_0) := (blk_cell BK589.out 0).trans rfl
                        have hcz42_1 : wr.cell? ⟨gb589, 1, none⟩ = some (.slice A0_1 l0_1.length c0_1) := (blk_cell BK589.out 1).trans rfl
                        have hfz42_0 := blk_frozen BK589.out 0
                        have hfz42_1 := blk_frozen BK589.out 1
                        have p594 : 0 ≤ (x4_2 : Int) := of_decide_eq_true (by first | (with_reducible assumption) | assumption)
                        have q594 : x4_2 < (l0_1.length : Int) := of_decide_eq_true (by first | (with_reducible assumption) | assumption)
                        obtain ⟨ad594, A594_2, c594_2, e594, hx594_0, hx594_1, hx594_2, hl594_2, hi594_2⟩ := at_T90 HR0_1.out x4_2 p594 q594
                        (try rw [← Nbq15.out] at hx594_0)
                        (try rw [← Nbq38.out] at hx594_0)
                        (try rw [← Nbq15.out] at hx594_1)
                        (try rw [← Nbq38.out] at hx594_1)
                        cases e594
                        replace hx594_0 := (HB.out.cell (World.block_lt_of_cell? w _ hx594_0)).trans hx594_0
                        replace hx594_1 := (HB.out.cell (World.block_lt_of_cell? w _ hx594_1)).trans hx594_1
                        replace hx594_2 := (HB.out.cell (World.block_lt_of_cell? w _ hx594_2)).trans hx594_2
                        have HR594_2 := Aside0.mk hi594_2
                        have HC594_2 := Aside0.mk hl594_2
                        clear hi594_2 hl594_2
                        replace p594 := eq_true p594
                        replace q594 := eq_true q594
                        have p600 : 0 ≤ (x4_2 : Int) := of_decide_eq_true (by first | (with_reducible assumption) | assumption)
                        have q600 : x4_2 < (l0_1.length : Int) := of_decide_eq_true (by first | (with_reducible assumption) | assumption)
                        obtain ⟨ad600, A600_2, c600_2, e600, hx600_0, hx600_1, hx600_2, hl600_2, hi600_2⟩ := at_T90 HR0_1.out x4_2 p600 q600
                        (try rw [← Nbq15.out] at hx600_0)
                        (try rw [← Nbq38.out] at hx600_0)
                        (try rw [← Nbq15.out] at hx600_1)
                        (try rw [← Nbq38.out] at hx600_1)
                        obtain rfl : ad594 = ad600 := (by injection e600)
                        replace hx600_0 := (HB.out.cell (World.block_lt_of_cell? w _ hx600_0)).trans hx600_0
                        replace hx600_1 := (HB.out.cell (World.block_lt_of_cell? w _ hx600_1)).trans hx600_1
                        replace hx600_2 := (HB.out.cell (World.block_lt_of_cell? w _ hx600_2)).trans hx600_2
                        have HR600_2 := Aside0.mk hi600_2
                        have HC600_2 := Aside0.mk hl600_2
                        clear hi600_2 hl600_2
                        replace p600 := eq_true p600
                        replace q600 := eq_true q600
                        have ea_ := Option.some.inj (hx594_2.symm.trans hx600_2)
                        injection ea_ with ea_ en_ ec_
                        subst ea_
                        subst ec_
                        clear en_
                        have p601 : 0 ≤ (x4_2 : Int) := of_decide_eq_true (by first | (with_reducible assumption) | assumption)
                        have q601 : x4_2 < (l0_1.length : Int) := of_decide_eq_true (by first | (with_reducible assumption) | assumption)
                        obtain ⟨ad601, A601_2, c601_2, e601, hx601_0, hx601_1, hx601_2, hl601_2, hi601_2⟩ := at_T90 HR0_1.out x4_2 p601 q601
                        (try rw [← Nbq15.out] at hx601_0)
                        (try rw [← Nbq38.out] at hx601_0)
                        (try rw [← Nbq15.out] at hx601_1)
                        (try rw [← Nbq38.out] at hx601_1)
                        obtain rfl : ad594 = ad601 := (by injection e601)
                        replace hx601_0 := (HB.out.cell (World.block_lt_of_cell? w _ hx601_0)).trans hx601_0
                        replace hx601_1 := (HB.out.cell (World.block_lt_of_cell? w _ hx601_1)).trans hx601_1
                        replace hx601_2 := (HB.out.cell (World.block_lt_of_cell? w _ hx601_2)).trans hx601_2
                        have HR601_2 := Aside0.mk hi601_2
                        have HC601_2 := Aside0.mk hl601_2
                        clear hi601_2 hl601_2
                        replace p601 := eq_true p601
                        replace q601 := eq_true q601
                        have ea_ := Option.some.inj (hx594_2.symm.trans hx601_2)
                        injection ea_ with ea_ en_ ec_
                        subst ea_
                        subst ec_
                        clear en_
                        have p602 : 0 ≤ (x4_2 : Int) := of_decide_eq_true (by first | (with_reducible assumption) | assumption)
                        have q602 : x4_2 < (l0_1.length : Int) := of_decide_eq_true (by first | (with_reducible assumption) | assumption)
                        obtain ⟨ad602, A602_2, c602_2, e602, hx602_0, hx602_1, hx602_2, hl602_2, hi602_2⟩ := at_T90 HR0_1.out x4_2 p602 q602
                        (try rw [← Nbq15.out] at hx602_0)
                        (try rw [← Nbq38.out] at hx602_0)
                        (try rw [← Nbq15.out] at hx602_1)
                        (try rw [← Nbq38.out] at hx602_1)
                        obtain rfl : ad594 = ad602 := (by injection e602)
                        replace hx602_0 := (HB.out.cell (World.block_lt_of_cell? w _ hx602_0)).trans hx602_0
                        replace hx602_1 := (HB.out.cell (World.block_lt_of_cell? w _ hx602_1)).trans hx602_1
                        replace hx602_2 := (HB.out.cell (World.block_lt_of_cell? w _ hx602_2)).trans hx602_2
                        have HR602_2 := Aside0.mk hi602_2
                        have HC602_2 := Aside0.mk hl602_2
                        clear hi602_2 hl602_2
                        replace p602 := eq_true p602
                        replace q602 := eq_true q602
                        have ea_ := Option.some.inj (hx594_2.symm.trans hx602_2)
                        injection ea_ with ea_ en_ ec_
                        subst ea_
                        subst ec_
                        clear en_
                        go_wp2
                        go_ret
                        exact ⟨by first | rfl | (simp [errW_none, errW_some] <;> rfl) | (simp [*, errW_none, errW_some] <;> rfl), by repeat (first | (with_reducible first | exact HB.out | apply below_alloc | apply pw_below_drewN | apply below_drew1 | refine below_set ?_ GE589.out) | exact HB.out)⟩
                      · rw [if_neg c41] at H
                        have c41b0 : decide (0 < (((rd_T90 l0_1 x4_2).f1.f1).length : Int)) = false := decide_eq_false c41
                        have c41b1 : decide (0 < ((rd_T90 l0_1 x4_2).f1.f1).length) = false := decide_eq_false (by omega)
                        clear c41
                        have H' := Aside0.mk H
                        clear H
                        have hcz43_0 : wr.cell? ⟨gb589, 0, none⟩ = some (.int .i64 a0_0) := (blk_cell BK589.out 0).trans rfl
                        have hcz43_1 : wr.cell? ⟨gb589, 1, none⟩ = some (.slice A0_1 l0_1.length c0_1) := (blk_cell BK589.out 1).trans rfl
                        have hfz43_0 := blk_frozen BK589.out 0
                        have hfz43_1 := blk_frozen BK589.out 1
                        have p594 : 0 ≤ (x4_2 : Int) := of_decide_eq_true (by first | (with_reducible assumption) | assumption)
                        have q594 : x4_2 < (l0_1.length : Int) := of_decide_eq_true (by first | (with_reducible assumption) | assumption)
                        obtain ⟨ad594, A594_2, c594_2, e594, hx594_0, hx594_1, hx594_2, hl594_2, hi594_2⟩ := at_T90 HR0_1.out x4_2 p594 q594
                        (try rw [← Nbq15.out] at hx594_0)
                        (try rw [← Nbq38.out] at hx594_0)
                        (try rw [← Nbq15.out] at hx594_1)
                        (try rw [← Nbq38.out] at hx594_1)
                        cases e594
                        replace hx594_0 := (HB.out.cell (World.block_lt_of_cell? w _ hx594_0)).trans hx594_0
                        replace hx594_1 := (HB.out.cell (World.block_lt_of_cell? w _ hx594_1)).trans hx594_1
                        replace hx594_2 := (HB.out.cell (World.block_lt_of_cell? w _ hx594_2)).trans hx594_2
                        have HR594_2 := Aside0.mk hi594_2
                        have HC594_2 := Aside0.mk hl594_2
                        clear hi594_2 hl594_2
                        replace p594 := eq_true p594
                        replace q594 := eq_true q594
                        have p600 : 0 ≤ (x4_2 : Int) := of_decide_eq_true (by first | (with_reducible assumption) | assumption)
                        have q600 : x4_2 < (l0_1.length : Int) := of_decide_eq_true (by first | (with_reducible assumption) | assumption)
                        obtain ⟨ad600, A600_2, c600_2, e600, hx600_0, hx600_1, hx600_2, hl600_2, hi600_2⟩ := at_T90 HR0_1.out x4_2 p600 q600
                        (try rw [← Nbq15.out] at hx600_0)
                        (try rw [← Nbq38.out] at hx600_0)
                        (try rw [← Nbq15.out] at hx600_1)
                        (try rw [← Nbq38.out] at hx600_1)
                        obtain rfl : ad594 = ad600 := (by injection e600)
                        replace hx600_0 := (HB.out.cell (World.block_lt_of_cell? w _ hx600_0)).trans hx600_0
                        replace hx600_1 := (HB.out.cell (World.block_lt_of_cell? w _ hx600_1)).trans hx600_1
                        replace hx600_2 := (HB.out.cell (World.block_lt_of_cell? w _ hx600_2)).trans hx600_2
                        have HR600_2 := Aside0.mk hi600_2
                        have HC600_2 := Aside0.mk hl600_2
                        clear hi600_2 hl600_2
                        replace p600 := eq_true p600
                        replace q600 := eq_true q600
                        have ea_ := Option.some.inj (hx594_2.symm.trans hx600_2)
                        injection ea_ with ea_ en_ ec_
                        subst ea_
                        subst ec_
                        clear en_
                        have p601 : 0 ≤ (x4_2 : Int) := of_decide_eq_true (by first | (with_reducible assumption) | assumption)
                        have q601 : x4_2 < (l0_1.length : Int) := of_decide_eq_true (by first | (with_reducible assumption) | assumption)
                        obtain ⟨ad601, A601_2, c601_2, e601, hx601_0, hx601_1, hx601_2, hl601_2, hi601_2⟩ := at_T90 HR0_1.out x4_2 p601 q601
                        (try rw [← Nbq15.out] at hx601_0)
                        (try rw [← Nbq38.out] at hx601_0)
                        (try rw [← Nbq15.out] at hx601_1)
                        (try rw [← Nbq38.out] at hx601_1)
                        obtain rfl : ad594 = ad601 := (by injection e601)
                        replace hx601_0 := (HB.out.cell (World.block_lt_of_cell? w _ hx601_0)).trans hx601_0
                        replace hx601_1 := (HB.out.cell (World.block_lt_of_cell? w _ hx601_1)).trans hx601_1
                        replace hx601_2 := (HB.out.cell (World.block_lt_of_cell? w _ hx601_2)).trans hx601_2
                        have HR601_2 := Aside0.mk hi601_2
                        have HC601_2 := Aside0.mk hl601_2
                        clear hi601_2 hl601_2
                        replace p601 := eq_true p601
                        replace q601 := eq_true q601
                        have ea_ := Option.some.inj (hx594_2.symm.trans hx601_2)
                        injection ea_ with ea_ en_ ec_
                        subst ea_
                        subst ec_
                        clear en_
                        have p602 : 0 ≤ (x4_2 : Int) := of_decide_eq_true (by first | (with_reducible assumption) | assumption)
                        have q602 : x4_2 < (l0_1.length : Int) := of_decide_eq_true (by first | (with_reducible assumption) | assumption)
                        obtain ⟨ad602, A602_2, c602_2, e602, hx602_0, hx602_1, hx602_2, hl602_2, hi602_2⟩ := at_T90 HR0_1.out x4_2 p602 q602
                        (try rw [← Nbq15.out] at hx602_0)
                        (try rw [← Nbq38.out] at hx602_0)
                        (try rw [← Nbq15.out] at hx602_1)
                        (try rw [← Nbq38.out] at hx602_1)
                        obtain rfl : ad594 = ad602 := (by injection e602)
                        replace hx602_0 := (HB.out.cell (World.block_lt_of_cell? w _ hx602_0)).trans hx602_0
                        replace hx602_1 := (HB.out.cell (World.block_lt_of_cell? w _ hx602_1)).trans hx602_1
                        replace hx602_2 := (HB.out.cell (World.block_lt_of_cell? w _ hx602_2)).trans hx602_2
                        have HR602_2 := Aside0.mk hi602_2
                        have HC602_2 := Aside0.mk hl602_2
                        clear hi602_2 hl602_2
                        replace p602 := eq_true p602
                        replace q602 := eq_true q602
                        have ea_ := Option.some.inj (hx594_2.symm.trans hx602_2)
                        injection ea_ with ea_ en_ ec_
                        subst ea_
                        subst ec_
                        clear en_
                        go_wp2
                        go_roundg k2
                        case measure => have := HJ2.out; have := HK2.out; omega
                        case rel => exact ⟨(wrap64 (x4_2 + 1)), (by first | rfl | (simp; done) | (simp [*]; done)), H', ⟨by have := HJ2.out; have := HK2.out; omega⟩, ⟨by (with_reducible repeat (first | apply Kd.R_alloc | apply Kd.R_drewN | apply Kd.R_drew)); exact HO_3.out⟩, ⟨by (with_reducible repeat (first | refine blk_drewN ?_ _ | refine blk_drew ?_ | refine blk_alloc ?_ _)); exact BK589.out⟩, ⟨by repeat (first | (with_reducible first | exact HB.out | apply below_alloc | apply pw_below_drewN | apply below_drew1 | refine below_set ?_ GE589.out) | exact HB.out)⟩⟩
              · rw [if_neg c14] at H
                exact absurd H (by simp)
            · rw [if_neg c13] at H
              have c13b0 : decide (x4_2 < (l0_1.length : Int)) = false := decide_eq_false c13
              clear c13
              have H' := Aside0.mk H
              clear H
              have hcz44_0 : wr.cell? ⟨gb589, 0, none⟩ = some (.int .i64 a0_0) := (blk_cell BK589.out 0).trans rfl
              have hcz44_1 : wr.cell? ⟨gb589, 1, none⟩ = some (.slice A0_1 l0_1.length c0_1) := (blk_cell BK589.out 1).trans rfl
              have hfz44_0 := blk_frozen BK589.out 0
              have hfz44_1 := blk_frozen BK589.out 1
              go_wp2
              go_loopg [5, 6] k2 (fun kq v5 v6 w' => ∃ (x5_3 : Int) (x6_3 : Int), v5 = .int .i64 x5_3 ∧ v6 = .int .i64 x6_3 ∧ Aside0 (spec_BookOk.l1 kq t590 x5_3 x6_3 a0_0 l0_1 = some r) ∧ Aside0 (kq ≤ k2) ∧ Aside0 (Kd.R (Kd.int .i64) 3 w' w.heap.size (fun _ => True) v591 t590) ∧ Aside0 (w'.heap[gb589]? = some (.cells #[.int .i64 a0_0, (.slice A0_1 l0_1.length c0_1)] 49 (0, 0))) ∧ Aside0 (Below w.heap.size w w'))
              case atStart => exact ⟨(0), (0), (by first | rfl | (simp; done) | (simp [*]; done)), (by first | rfl | (simp; done) | (simp [*]; done)), H', ⟨Nat.le_refl _⟩, ⟨by (with_reducible repeat (first | apply Kd.R_alloc | apply Kd.R_drewN | apply Kd.R_drew)); exact HO_3.out⟩, ⟨by (with_reducible repeat (first | refine blk_drewN ?_ _ | refine blk_drew ?_ | refine blk_alloc ?_ _)); exact BK589.out⟩, ⟨by repeat (first | (with_reducible first | exact HB.out | apply below_alloc | apply pw_below_drewN | apply below_drew1 | refine below_set ?_ GE589.out) | exact HB.out)⟩⟩
              case round =>
                clear H'
                try clear c1
                try clear q1
                try clear c2
                try clear p2
                try clear c3
                try clear q3
                try clear c4
                try clear c5
                try clear p5
                try clear q5
                try clear hx5
                try clear c6
                try clear p6
                try clear q6
                try clear hx6
                try clear c13
                try clear c13b0
                try clear c14
                try clear q15
                try clear c16
                try clear c18
                try clear c19
                try clear c23
                try clear c23b0
                try clear c27
                try clear c27b0
                try clear c27b1
                try clear c36
                try clear q38
                try clear c39
                try clear c41
                try clear c41b0
                try clear c41b1
                try clear hcz20_0
                try clear hcz20_1
                try clear hcz22_0
                try clear hcz22_1
                try clear hcz24_0
                try clear hcz24_1
                try clear hcz26_0
                try clear hcz26_1
                try clear hcz28_0
                try clear hcz28_1
                try clear hcz30_0
                try clear hcz30_1
                try clear hcz31_0
                try clear hcz31_1
                try clear hcz33_0
                try clear hcz33_1
                try clear hcz34_0
                try clear hcz34_1
                try clear hcz37_0
                try clear hcz37_1
                try clear hcz40_0
                try clear hcz40_1
                try clear hcz42_0
                try clear hcz42_1
                try clear hcz43_0
                try clear hcz43_1
                try clear hcz44_0
                try clear hcz44_1
                try clear hfz20_0
                try clear hfz20_1
                try clear hfz22_0
                try clear hfz22_1
                try clear hfz24_0
                try clear hfz24_1
                try clear hfz26_0
                try clear hfz26_1
                try clear hfz28_0
                try clear hfz28_1
                try clear hfz30_0
                try clear hfz30_1
                try clear hfz31_0
                try clear hfz31_1
                try clear hfz33_0
                try clear hfz33_1
                try clear hfz34_0
                try clear hfz34_1
                try clear hfz37_0
                try clear hfz37_1
                try clear hfz40_0
                try clear hfz40_1
                try clear hfz42_0
                try clear hfz42_1
                try clear hfz43_0
                try clear hfz43_1
                try clear hfz44_0
                try clear hfz44_1
                try clear hx594_0
                try clear hx594_1
                try clear hx594_2
                try clear hx595_0
                try clear hx595_1
                try clear hx595_2
                try clear hx597_0
                try clear hx597_1
                try clear hx597_2
                try clear hx598_0
                try clear hx598_1
                try clear hx598_2
                try clear hx599_0
                try clear hx599_1
                try clear hx599_2
                try clear hx600_0
                try clear hx600_1
                try clear hx600_2
                try clear hx601_0
                try clear hx601_1
                try clear hx601_2
                try clear hx602_0
                try clear hx602_1
                try clear hx602_2
                try clear p594
                try clear p595
                try clear p597
                try clear p598
                try clear p599
                try clear p600
                try clear p601
                try clear p602
                try clear q594
                try clear q595
                try clear q597
                try clear q598
                try clear q599
                try clear q600
                try clear q601
                try clear q602
                obtain ⟨x5_3, x6_3, rfl, rfl, HA, HK3, HO_3, BK589, HB⟩ := hrel
                cases gk with
                | zero => exact absurd HA.out (by simp [spec_BookOk.l1])
                | succ k3 =>
                  have H := HA.out
                  clear HA
                  simp only [spec_BookOk.l1] at H
                  by_cases c45 : x6_3 < (t590.length : Int)
                  · rw [if_pos c45] at H
                    have c45b0 : decide (x6_3 < (t590.length : Int)) = true := decide_eq_true c45
                    clear c45
                    by_cases c46 : 0 ≤ x6_3
                    · rw [if_pos c46] at H
                      have c46b0 : decide (0 ≤ x6_3) = true := decide_eq_true c46
                      clear c46
                      by_cases c47 : 0 ≤ (rd t590 x6_3)
                      · rw [if_pos c47] at H
                        have c47b0 : decide (0 ≤ (rd t590 x6_3)) = true := decide_eq_true c47
                        clear c47
                        by_cases c48 : (rd t590 x6_3) < (l0_1.length : Int)
                        · rw [if_pos c48] at H
                          have c48b0 : decide ((rd t590 x6_3) < (l0_1.length : Int)) = true := decide_eq_true c48
                          clear c48
                          have H' := Aside0.mk H
                          clear H
                          obtain ⟨Ao49, co49, eo49⟩ := Kd.R_slice HO_3.out
                          subst eo49
                          try go_wp2
                          have n0_ := Aside0.mk (Kd.R_drew HO_3.out)
                          have n1_ := Aside0.mk (blk_drew BK589.out)
                          have n2_ := Aside0.mk (below_drew1 HB.out)
                          clear HO_3
                          clear BK589
                          clear HB
                          have HO_3 := n0_
                          have BK589 := n1_
                          have HB := n2_
                          clear n0_ n1_ n2_
                          have p603 : 0 ≤ (x6_3 : Int) := of_decide_eq_true (by first | (with_reducible assumption) | assumption)
                          have q603 : x6_3 < (t590.length : Int) := of_decide_eq_true (by first | (with_reducible assumption) | assumption)
                          obtain ⟨ad603, e603, hx603_0⟩ := Kd.at_int (Kd.R_reads' HO_3.out).2.2 x6_3 p603 q603
                          cases e603
                          replace p603 := eq_true p603
                          replace q603 := eq_true q603
                          have p604 : 0 ≤ ((rd t590 x6_3) : Int) := of_decide_eq_true (by first | (with_reducible assumption) | assumption)
                          have q604 : (rd t590 x6_3) < (l0_1.length : Int) := of_decide_eq_true (by first | (with_reducible assumption) | assumption)
                          obtain ⟨ad604, A604_2, c604_2, e604, hx604_0, hx604_1, hx604_2, hl604_2, hi604_2⟩ := at_T90 HR0_1.out (rd t590 x6_3) p604 q604
                          have hw604_2 := hx604_2
                          have hw604_1 := hx604_1
                          have hw604_0 := hx604_0
                          cases e604
                          replace hx604_0 := (HB.out.cell (World.block_lt_of_cell? w _ hx604_0)).trans hx604_0
                          replace hx604_1 := (HB.out.cell (World.block_lt_of_cell? w _ hx604_1)).trans hx604_1
                          replace hx604_2 := (HB.out.cell (World.block_lt_of_cell? w _ hx604_2)).trans hx604_2
                          have HR604_2 := Aside0.mk hi604_2
                          have HC604_2 := Aside0.mk hl604_2
                          clear hi604_2 hl604_2
                          replace p604 := eq_true p604
                          replace q604 := eq_true q604
                          refine start_ (n := 11) (S := fun w' => w'.cell? ⟨gb589, 0, none⟩ = some (.int .i64 a0_0) ∧ w'.cell? ⟨gb589, 1, none⟩ = some (.slice (some ad604) l0_1.length c0_1) ∧ w'.cell? (ad603.add (x6_3).toNat) = some (.int .i64 (rd t590 x6_3)) ∧ w'.cell? (ad604.add (((rd t590 x6_3)).toNat * 3)) = some (.bool ((rd_T90 l0_1 (rd t590 x6_3)).f0)) ∧ w'.cell? ⟨(ad604.add (((rd t590 x6_3)).toNat * 3)).block, (ad604.add (((rd t590 x6_3)).toNat * 3)).off + 1, none⟩ = some (.bool ((rd_T90 l0_1 (rd t590 x6_3)).f1.f0)) ∧ w'.cell? ⟨(ad604.add (((rd t590 x6_3)).toNat * 3)).block, (ad604.add (((rd t590 x6_3)).toNat * 3)).off + 2, none⟩ = some (.slice A604_2 ((rd_T90 l0_1 (rd t590 x6_3)).f1.f1).length c604_2)) (ds := []) #[false, false, false, false, false, false, false, false, false, false, false] (by kernel_rfl) rfl rfl ⟨(blk_cell BK589.out 0).trans rfl, (blk_cell BK589.out 1).trans rfl, hx603_0, ((HB.out.cell (World.block_lt_of_cell? w _ hw604_0)).trans hw604_0), ((HB.out.cell (World.block_lt_of_cell? w _ hw604_1)).trans hw604_1), ((HB.out.cell (World.block_lt_of_cell? w _ hw604_2)).trans hw604_2)⟩ (fun hHeld => ?_); refine with_tabW spec_BookOk.tab13 spec_BookOk.bits13 (fun HT_ HW_ => ?_)
                          generalize wr.drew = w50 at HO_3 BK589 HB HR604_2 hx603_0 hx604_0 hx604_1 hx604_2 hHeld ⊢
                          refine pure_ (i := 0) (N := some 79) (v := ?_) (a' := ?_) #[true, false, false, false, false, false, false, false, false, false, false] rfl rfl (any_of HT_.out (by kernel_rfl)) (fun _ _ _ h => h) (Or.inl ⟨by rfl, ?_⟩) ?_ ?_
                          rotate_left
                          · intro w'
                            go_simp
                            with_reducible rfl
                          rotate_left
                          · simp only [Act.put, List.setIfInBounds_toArray, List.set_cons_zero, List.set_cons_succ, i64_w, i32_w]
                            rfl
                          refine pure_ (i := 2) (N := some 81) (v := ?_) (a' := ?_) #[true, false, true, false, false, false, false, false, false, false, false] rfl rfl (any_of HT_.out (by kernel_rfl)) (fun _ _ _ h => h) (Or.inl ⟨by rfl, ?_⟩) ?_ ?_
                          rotate_left
                          · intro w'
                            go_simp
                            with_reducible rfl
                          rotate_left
                          · simp only [Act.put, List.setIfInBounds_toArray, List.set_cons_zero, List.set_cons_succ, i64_w, i32_w]
                            rfl
                          refine pure_ (i := 3) (N := some 82) (v := ?_) (a' := ?_) #[true, false, true, true, false, false, false, false, false, false, false] rfl rfl (any_of HT_.out (by kernel_rfl)) (fun _ _ _ h => h) (Or.inl ⟨by rfl, ?_⟩) ?_ ?_
                          rotate_left
                          · intro w'
                            go_simp
                            with_reducible rfl
                          rotate_left
                          · simp only [Act.put, List.setIfInBounds_toArray, List.set_cons_zero, List.set_cons_succ, i64_w, i32_w]
                            rfl
                          refine pure_ (i := 4) (N := some 83) (v := ?_) (a' := ?_) #[true, false, true, true, true, false, false, false, false, false, false] rfl rfl (any_of HT_.out (by kernel_rfl)) (fun _ _ _ h => h) (Or.inl ⟨by rfl, ?_⟩) ?_ ?_
                          rotate_left
                          · intro w'
                            go_simp
                            with_reducible rfl
                          rotate_left
                          · simp only [Act.put, List.setIfInBounds_toArray, List.set_cons_zero, List.set_cons_succ, i64_w, i32_w]
                            rfl
                          refine take_ (i := 1) (N := some 80) (v := ?_) (a' := ?_) #[true, true, true, true, true, false, false, false, false, false, false] rfl rfl (take_ofW HT_.out HW_.out (by kernel_rfl)) (fun _ _ _ h => h) (Or.inl ⟨by rfl, ?_⟩) hHeld ?_ ?_
                          rotate_left
                          · rintro w' ⟨s0, s1, s2, s3, s4, s5⟩
                            go_simp
                            with_reducible rfl
                          rotate_left
                          · simp only [Act.put, List.setIfInBounds_toArray, List.set_cons_zero, List.set_cons_succ, i64_w, i32_w]
                            rfl
                          refine take_ (i := 5) (N := some 84) (v := ?_) (a' := ?_) #[true, true, true, true, true, true, false, false, false, false, false] rfl rfl (take_ofW HT_.out HW_.out (by kernel_rfl)) (fun _ _ _ h => h) (Or.inl ⟨by rfl, ?_⟩) hHeld ?_ ?_
                          rotate_left
                          · rintro w' ⟨s0, s1, s2, s3, s4, s5⟩
                            go_simp
                            with_reducible rfl
                          rotate_left
                          · simp only [Act.put, List.setIfInBounds_toArray, List.set_cons_zero, List.set_cons_succ, i64_w, i32_w]
                            rfl
                          refine pure_ (i := 6) (N := some 85) (v := ?_) (a' := ?_) #[true, true, true, true, true, true, true, false, false, false, false] rfl rfl (any_of HT_.out (by kernel_rfl)) (fun _ _ _ h => h) (Or.inl ⟨by rfl, ?_⟩) ?_ ?_
                          rotate_left
                          · intro w'
                            go_simp
                            with_reducible rfl
                          rotate_left
                          · simp only [Act.put, List.setIfInBounds_toArray, List.set_cons_zero, List.set_cons_succ, i64_w, i32_w]
                            rfl
                          refine pure_ (i := 7) (N := some 86) (v := ?_) (a' := ?_) #[true, true, true, true, true, true, true, true, false, false, false] rfl rfl (any_of HT_.out (by kernel_rfl)) (fun _ _ _ h => h) (Or.inl ⟨by rfl, ?_⟩) ?_ ?_
                          rotate_left
                          · intro w'
                            go_simp
                            with_reducible rfl
                          rotate_left
                          · simp only [Act.put, List.setIfInBounds_toArray, List.set_cons_zero, List.set_cons_succ, i64_w, i32_w]
                            rfl
                          refine take_ (i := 8) (N := some 87) (v := ?_) (a' := ?_) #[true, true, true, true, true, true, true, true, true, false, false] rfl rfl (take_ofW HT_.out HW_.out (by kernel_rfl)) (fun _ _ _ h => h) (Or.inl ⟨by rfl, ?_⟩) hHeld ?_ ?_
                          rotate_left
                          · rintro w' ⟨s0, s1, s2, s3, s4, s5⟩
                            go_simp
                            with_reducible rfl
                          rotate_left
                          · simp only [Act.put, List.setIfInBounds_toArray, List.set_cons_zero, List.set_cons_succ, i64_w, i32_w]
                            rfl
                          refine one_ (i := 9) (N := some 7) #[true, true, true, true, true, true, true, true, true, true, false] rfl rfl (one_of HT_.out (by kernel_rfl)) (by decide) (fun K hK => ?_)
                          refine box_step ?hg (N := 7) ?hd (cs := #[.bool false, .slice none 0 0]) (t := 54) ?hr ?_; (case hd => rfl); (case hg => rfl); (case hr => first | (go_simp; done) | (go_simp; rfl))
                          intro gb605 hg w51 hbox hb
                          have HS2_ := (hb.cell (World.block_lt_of_cell? _ _ (hHeld.2.2.1))).trans (hHeld.2.2.1)
                          have n0_ := Aside0.mk (Kd.R_below (by (with_reducible repeat (first | apply Kd.R_alloc | apply Kd.R_drewN | apply Kd.R_drew)); exact HO_3.out) hb)
                          have n1_ := Aside0.mk (blk_below (g := gb589) (o := .cells #[.int .i64 a0_0, .slice (some ad604) l0_1.length c0_1] 49 (0, 0)) (by (with_reducible repeat (first | refine blk_drewN ?_ _ | refine blk_drew ?_ | refine blk_alloc ?_ _)); exact BK589.out) hb)
                          have n2_ := Aside0.mk (below_step (by repeat (first | (with_reducible first | exact HB.out | apply below_alloc | apply pw_below_drewN | apply below_drew1 | refine below_set ?_ GE589.out) | exact HB.out)) hb)
                          have n3_ := Aside0.mk (hbox)
                          have n4_ := Aside0.mk ((by rw [hg]; exact (below_size (by repeat (first | (with_reducible first | exact HB.out | apply below_alloc | apply pw_below_drewN | apply below_drew1 | refine below_set ?_ GE589.out) | exact HB.out))) : w.heap.size ≤ gb605))
                          have n5_ := Aside0.mk ((by rw [hg]; exact (below_size (by repeat (first | (with_reducible first | exact HB.out | apply below_alloc | apply pw_below_drewN | apply below_drew1 | refine below_set ?_ GE589.out) | exact HB.out))) : w.heap.size ≤ gb605))
                          have n6_ := Aside0.mk ((by rw [hg]; exact Nat.ne_of_lt (blk_lt (g := gb589) (o := .cells #[.int .i64 a0_0, .slice (some ad604) l0_1.length c0_1] 49 (0, 0)) (by (with_reducible repeat (first | refine blk_drewN ?_ _ | refine blk_drew ?_ | refine blk_alloc ?_ _)); exact BK589.out)) : gb589 ≠ gb605))
                          have n7_ := Aside0.mk ((by rw [hg]; exact Nat.ne_of_gt (blk_lt (g := gb589) (o := .cells #[.int .i64 a0_0, .slice (some ad604) l0_1.length c0_1] 49 (0, 0)) (by (with_reducible repeat (first | refine blk_drewN ?_ _ | refine blk_drew ?_ | refine blk_alloc ?_ _)); exact BK589.out)) : gb605 ≠ gb589))
                          clear HO_3
                          clear BK589
                          clear HB
                          have HO_3 := n0_
                          have BK589 := n1_
                          have HB := n2_
                          have BK605 := n3_
                          have GW605 := n4_
                          have GE605 := n5_
                          have NB589_605 := n6_
                          have NB605_589 := n7_
                          clear n0_ n1_ n2_ n3_ n4_ n5_ n6_ n7_
                          clear hb hbox hg
                          refine hK.out _ _ ⟨(blk_cell BK589.out 0).trans rfl, (blk_cell BK589.out 1).trans rfl, HS2_, ((HB.out.cell (World.block_lt_of_cell? w _ hw604_0)).trans hw604_0), ((HB.out.cell (World.block_lt_of_cell? w _ hw604_1)).trans hw604_1), ((HB.out.cell (World.block_lt_of_cell? w _ hw604_2)).trans hw604_2)⟩ (fun hHeld => ?_)
                          clear hK K
                          refine norm_ (a' := ?_) ?_ ?_
                          rotate_left
                          · show Act.put _ (some 7) _ = _
                            simp only [Act.put, List.setIfInBounds_toArray, List.set_cons_zero, List.set_cons_succ, i64_w, i32_w]
                            rfl
                          refine one_ (i := 10) (N := none) #[true, true, true, true, true, true, true, true, true, true, true] rfl rfl (one_of HT_.out (by kernel_rfl)) (by decide) (fun K hK => ?_)
                          have hs52 : w51.cell? ⟨gb605, 0, none⟩ = some (.bool false) := (blk_cell BK605.out 0).trans rfl
                          have hfs52 := blk_frozen BK605.out 0
                          have hns52_0 := NB589_605.out
                          have hms52_0 := NB605_589.out
                          have hs53 : w51.cell? ⟨gb605, 1, none⟩ = some (.slice none 0 0) := (blk_cell BK605.out 1).trans rfl
                          have hfs53 := blk_frozen BK605.out 1
                          have hns53_0 := NB589_605.out
                          have hms53_0 := NB605_589.out
                          refine skip_ (w1 := ?_) (by rfl) rfl ?_ ?_
                          rotate_left
                          · go_simp
                            rfl
                          refine hK.out _ _ ⟨((cell_far (p := ⟨gb605, _, none⟩) NB589_605.out _).trans (((cell_far (p := ⟨gb605, _, none⟩) NB589_605.out _).trans (hHeld.1)))), ((cell_far (p := ⟨gb605, _, none⟩) NB589_605.out _).trans (((cell_far (p := ⟨gb605, _, none⟩) NB589_605.out _).trans (hHeld.2.1)))), ((cell_far (p := ⟨gb605, _, none⟩) (by first | exact Kd.own_blk (Kd.R_ne HO_3.out BK605.out (by decide)) | (rw [add_block]; exact Kd.own_blk (Kd.R_ne HO_3.out BK605.out (by decide))) | (show (Addr.add _ _).block ≠ _; rw [add_block]; exact Kd.own_blk (Kd.R_ne HO_3.out BK605.out (by decide))) | (dsimp only; exact Kd.own_blk (Kd.R_ne HO_3.out BK605.out (by decide)))) _).trans (((cell_far (p := ⟨gb605, _, none⟩) (by first | exact Kd.own_blk (Kd.R_ne HO_3.out BK605.out (by decide)) | (rw [add_block]; exact Kd.own_blk (Kd.R_ne HO_3.out BK605.out (by decide))) | (show (Addr.add _ _).block ≠ _; rw [add_block]; exact Kd.own_blk (Kd.R_ne HO_3.out BK605.out (by decide))) | (dsimp only; exact Kd.own_blk (Kd.R_ne HO_3.out BK605.out (by decide)))) _).trans (hHeld.2.2.1)))), ((cell_far (p := ⟨gb605, _, none⟩) (by first | exact Nat.ne_of_lt (Nat.lt_of_lt_of_le (by have := World.block_lt_of_cell? _ _ hw604_0; first | rwa [add_block] at this | exact this) GW605.out) | (rw [add_block]; exact Nat.ne_of_lt (Nat.lt_of_lt_of_le (by have := World.block_lt_of_cell? _ _ hw604_0; first | rwa [add_block] at this | exact this) GW605.out)) | (show (Addr.add _ _).block ≠ _; rw [add_block]; exact Nat.ne_of_lt (Nat.lt_of_lt_of_le (by have := World.block_lt_of_cell? _ _ hw604_0; first | rwa [add_block] at this | exact this) GW605.out)) | (dsimp only; exact Nat.ne_of_lt (Nat.lt_of_lt_of_le (by have := World.block_lt_of_cell? _ _ hw604_0; first | rwa [add_block] at this | exact this) GW605.out))) _).trans (((cell_far (p := ⟨gb605, _, none⟩) (by first | exact Nat.ne_of_lt (Nat.lt_of_lt_of_le (by have := World.block_lt_of_cell? _ _ hw604_0; first | rwa [add_block] at this | exact this) GW605.out) | (rw [add_block]; exact Nat.ne_of_lt (Nat.lt_of_lt_of_le (by have := World.block_lt_of_cell? _ _ hw604_0; first | rwa [add_block] at this | exact this) GW605.out)) | (show (Addr.add _ _).block ≠ _; rw [add_block]; exact Nat.ne_of_lt (Nat.lt_of_lt_of_le (by have := World.block_lt_of_cell? _ _ hw604_0; first | rwa [add_block] at this | exact this) GW605.out)) | (dsimp only; exact Nat.ne_of_lt (Nat.lt_of_lt_of_le (by have := World.block_lt_of_cell? _ _ hw604_0; first | rwa [add_block] at this | exact this) GW605.out))) _).trans (hHeld.2.2.2.1)))), ((cell_far (p := ⟨gb605, _, none⟩) (by first | exact Nat.ne_of_lt (Nat.lt_of_lt_of_le (by have := World.block_lt_of_cell? _ _ hw604_1; first | rwa [add_block] at this | exact this) GW605.out) | (rw [add_block]; exact Nat.ne_of_lt (Nat.lt_of_lt_of_le (by have := World.block_lt_of_cell? _ _ hw604_1; first | rwa [add_block] at this | exact this) GW605.out)) | (show (Addr.add _ _).block ≠ _; rw [add_block]; exact Nat.ne_of_lt (Nat.lt_of_lt_of_le (by have := World.block_lt_of_cell? _ _ hw604_1; first | rwa [add_block] at this | exact this) GW605.out)) | (dsimp only; exact Nat.ne_of_lt (Nat.lt_of_lt_of_le (by have := World.block_lt_of_cell? _ _ hw604_1; first | rwa [add_block] at this | exact this) GW605.out))) _).trans (((cell_far (p := ⟨gb605, _, none⟩) (by first | exact Nat.ne_of_lt (Nat.lt_of_lt_of_le (by have := World.block_lt_of_cell? _ _ hw604_1; first | rwa [add_block] at this | exact this) GW605.out) | (rw [add_block]; exact Nat.ne_of_lt (Nat.lt_of_lt_of_le (by have := World.block_lt_of_cell? _ _ hw604_1; first | rwa [add_block] at this | exact this) GW605.out)) | (show (Addr.add _ _).block ≠ _; rw [add_block]; exact Nat.ne_of_lt (Nat.lt_of_lt_of_le (by have := World.block_lt_of_cell? _ _ hw604_1; first | rwa [add_block] at this | exact this) GW605.out)) | (dsimp only; exact Nat.ne_of_lt (Nat.lt_of_lt_of_le (by have := World.block_lt_of_cell? _ _ hw604_1; first | rwa [add_block] at this | exact this) GW605.out))) _).trans (hHeld.2.2.2.2.1)))), ((cell_far (p := ⟨gb605, _, none⟩) (by first | exact Nat.ne_of_lt (Nat.lt_of_lt_of_le (by have := World.block_lt_of_cell? _ _ hw604_2; first | rwa [add_block] at this | exact this) GW605.out) | (rw [add_block]; exact Nat.ne_of_lt (Nat.lt_of_lt_of_le (by have := World.block_lt_of_cell? _ _ hw604_2; first | rwa [add_block] at this | exact this) GW605.out)) | (show (Addr.add _ _).block ≠ _; rw [add_block]; exact Nat.ne_of_lt (Nat.lt_of_lt_of_le (by have := World.block_lt_of_cell? _ _ hw604_2; first | rwa [add_block] at this | exact this) GW605.out)) | (dsimp only; exact Nat.ne_of_lt (Nat.lt_of_lt_of_le (by have := World.block_lt_of_cell? _ _ hw604_2; first | rwa [add_block] at this | exact this) GW605.out))) _).trans (((cell_far (p := ⟨gb605, _, none⟩) (by first | exact Nat.ne_of_lt (Nat.lt_of_lt_of_le (by have := World.block_lt_of_cell? _ _ hw604_2; first | rwa [add_block] at this | exact this) GW605.out) | (rw [add_block]; exact Nat.ne_of_lt (Nat.lt_of_lt_of_le (by have := World.block_lt_of_cell? _ _ hw604_2; first | rwa [add_block] at this | exact this) GW605.out)) | (show (Addr.add _ _).block ≠ _; rw [add_block]; exact Nat.ne_of_lt (Nat.lt_of_lt_of_le (by have := World.block_lt_of_cell? _ _ hw604_2; first | rwa [add_block] at this | exact this) GW605.out)) | (dsimp only; exact Nat.ne_of_lt (Nat.lt_of_lt_of_le (by have := World.block_lt_of_cell? _ _ hw604_2; first | rwa [add_block] at this | exact this) GW605.out))) _).trans (hHeld.2.2.2.2.2))))⟩ (fun hHeld => ?_)
                          clear hK K
                          refine done_ (done_of HT_.out (by kernel_rfl)) ?_
                          try go_wp2
                          go_loopg [5, 8] k3 (fun kq v5 v8 w' => ∃ (x5_4 : Int) (x8_4 : Int), v5 = .int .i64 x5_4 ∧ v8 = .int .i64 x8_4 ∧ Aside0 (spec_BookOk.l2 kq t590 x5_4 x6_3 x8_4 a0_0 l0_1 ((rd_T90 l0_1 (rd t590 x6_3)).f1.f0) ((rd_T90 l0_1 (rd t590 x6_3)).f1.f1) = some r) ∧ Aside0 (kq ≤ k3) ∧ Aside0 (Kd.R (Kd.int .i64) 3 w' w.heap.size (fun _ => True) (.slice (some ad603) t590.length co49) t590) ∧ Aside0 (w'.heap[gb589]? = some (.cells #[.int .i64 a0_0, (.slice (some ad604) l0_1.length c0_1)] 49 (0, 0))) ∧ Aside0 (w'.heap[gb605]? = some (.cells #[.bool ((rd_T90 l0_1 (rd t590 x6_3)).f1.f0), (.slice A604_2 ((rd_T90 l0_1 (rd t590 x6_3)).f1.f1).length c604_2)] 54 (0, 0))) ∧ Aside0 (Below w.heap.size w w'))
                          case atStart => exact ⟨(x5_3), (0), (by first | rfl | (simp; done) | (simp [*]; done)), (by first | rfl | (simp; done) | (simp [*]; done)), H', ⟨Nat.le_refl _⟩, ⟨by (with_reducible repeat (first | apply Kd.R_alloc | apply Kd.R_drewN | apply Kd.R_drew)); exact Kd.R_mono (Kd.R_far (p := ⟨gb605, 1, none⟩) (Kd.R_far (p := ⟨gb605, 0, none⟩) (Kd.R_types HO_3.out BK605.out (by decide)) (fun _ hk => hk.2) (.bool ((rd_T90 l0_1 (rd t590 x6_3)).f1.f0))) (fun _ hk => hk.2) (.slice A604_2 ((rd_T90 l0_1 (rd t590 x6_3)).f1.f1).length c604_2)) (fun _ hk => trivial)⟩, ⟨by (with_reducible repeat (first | refine blk_drewN ?_ _ | refine blk_drew ?_ | refine blk_alloc ?_ _)); refine blk_far ?_ NB589_605.out _; (with_reducible repeat (first | refine blk_drewN ?_ _ | refine blk_drew ?_ | refine blk_alloc ?_ _)); refine blk_far ?_ NB589_605.out _; (with_reducible repeat (first | refine blk_drewN ?_ _ | refine blk_drew ?_ | refine blk_alloc ?_ _)); exact BK589.out⟩, ⟨by (with_reducible repeat (first | refine blk_drewN ?_ _ | refine blk_drew ?_ | refine blk_alloc ?_ _)); refine blk_put (cs := #[.bool ((rd_T90 l0_1 (rd t590 x6_3)).f1.f0), .slice none 0 0]) ?_ 1 _ rfl; (with_reducible repeat (first | refine blk_drewN ?_ _ | refine blk_drew ?_ | refine blk_alloc ?_ _)); refine blk_put (cs := #[.bool false, .slice none 0 0]) ?_ 0 _ rfl; (with_reducible repeat (first | refine blk_drewN ?_ _ | refine blk_drew ?_ | refine blk_alloc ?_ _)); exact BK605.out⟩, ⟨by repeat (first | (with_reducible first | exact HB.out | apply below_alloc | apply pw_below_drewN | apply below_drew1 | refine below_set ?_ GE589.out | refine below_set ?_ GE605.out) | exact HB.out)⟩⟩
                          case round =>
                            clear H'
                            try clear c1
                            try clear q1
                            try clear c2
                            try clear p2
                            try clear c3
                            try clear q3
                            try clear c4
                            try clear c5
                            try clear p5
                            try clear q5
                            try clear hx5
                            try clear c6
                            try clear p6
                            try clear q6
                            try clear hx6
                            try clear c13
                            try clear c13b0
                            try clear c14
                            try clear q15
                            try clear c16
                            try clear c18
                            try clear c19
                            try clear c23
                            try clear c23b0
                            try clear c27
                            try clear c27b0
                            try clear c27b1
                            try clear c36
                            try clear q38
                            try clear c39
                            try clear c41
                            try clear c41b0
                            try clear c41b1
                            try clear c45
                            try clear c45b0
                            try clear c46
                            try clear c46b0
                            try clear c47
                            try clear c47b0
                            try clear c48
                            try clear c48b0
                            try clear hcz20_0
                            try clear hcz20_1
                            try clear hcz22_0
                            try clear hcz22_1
                            try clear hcz24_0
                            try clear hcz24_1
                            try clear hcz26_0
                            try clear hcz26_1
                            try clear hcz28_0
                            try clear hcz28_1
                            try clear hcz30_0
                            try clear hcz30_1
                            try clear hcz31_0
                            try clear hcz31_1
                            try clear hcz33_0
                            try clear hcz33_1
                            try clear hcz34_0
                            try clear hcz34_1
                            try clear hcz37_0
                            try clear hcz37_1
                            try clear hcz40_0
                            try clear hcz40_1
                            try clear hcz42_0
                            try clear hcz42_1
                            try clear hcz43_0
                            try clear hcz43_1
                            try clear hcz44_0
                            try clear hcz44_1
                            try clear hfz20_0
                            try clear hfz20_1
                            try clear hfz22_0
                            try clear hfz22_1
                            try clear hfz24_0
                            try clear hfz24_1
                            try clear hfz26_0
                            try clear hfz26_1
                            try clear hfz28_0
                            try clear hfz28_1
                            try clear hfz30_0
                            try clear hfz30_1
                            try clear hfz31_0
                            try clear hfz31_1
                            try clear hfz33_0
                            try clear hfz33_1
                            try clear hfz34_0
                            try clear hfz34_1
                            try clear hfz37_0
                            try clear hfz37_1
                            try clear hfz40_0
                            try clear hfz40_1
                            try clear hfz42_0
                            try clear hfz42_1
                            try clear hfz43_0
                            try clear hfz43_1
                            try clear hfz44_0
                            try clear hfz44_1
                            try clear hx594_0
                            try clear hx594_1
                            try clear hx594_2
                            try clear hx595_0
                            try clear hx595_1
                            try clear hx595_2
                            try clear hx597_0
                            try clear hx597_1
                            try clear hx597_2
                            try clear hx598_0
                            try clear hx598_1
                            try clear hx598_2
                            try clear hx599_0
                            try clear hx599_1
                            try clear hx599_2
                            try clear hx600_0
                            try clear hx600_1
                            try clear hx600_2
                            try clear hx601_0
                            try clear hx601_1
                            try clear hx601_2
                            try clear hx602_0
                            try clear hx602_1
                            try clear hx602_2
                            try clear hx603_0
                            try clear hx604_0
                            try clear hx604_1
                            try clear hx604_2
                            try clear p2
                            try clear p5
                            try clear p594
                            try clear p595
                            try clear p597
                            try clear p598
                            try clear p599
                            try clear p6
                            try clear p600
                            try clear p601
                            try clear p602
                            try clear p603
                            try clear p604
                            try clear q1
                            try clear q15
                            try clear q3
                            try clear q38
                            try clear q5
                            try clear q594
                            try clear q595
                            try clear q597
                            try clear q598
                            try clear q599
                            try clear q6
                            try clear q600
                            try clear q601
                            try clear q602
                            try clear q603
                            try clear q604
                            obtain ⟨x5_4, x8_4, rfl, rfl, HA, HK4, HO_3, BK589, BK605, HB⟩ := hrel
                            cases gk with
                            | zero => exact absurd HA.out (by simp [spec_BookOk.l2])
                            | succ k4 =>
                              have H := HA.out
                              clear HA
                              simp only [spec_BookOk.l2] at H
                              have HC54 := Aside0.mk H
                              clear H
                              go_upto_region 15 with (fail)
                              go_cut [97] (fun v97 wc => ∃ (kq : Nat) (x97_53 : Bool), v97 = .bool x97_53 ∧ Aside0 (spec_BookOk.j4 kq t590 x5_4 x6_3 x8_4 x97_53 a0_0 l0_1 ((rd_T90 l0_1 (rd t590 x6_3)).f1.f0) ((rd_T90 l0_1 (rd t590 x6_3)).f1.f1) = some r) ∧ Aside0 (kq ≤ k4) ∧ Aside0 (Kd.R (Kd.int .i64) 3 wc w.heap.size (fun _ => True) (.slice (some ad603) t590.length co49) t590) ∧ Aside0 (wc.heap[gb589]? = some (.cells #[.int .i64 a0_0, (.slice (some ad604) l0_1.length c0_1)] 49 (0, 0))) ∧ Aside0 (wc.heap[gb605]? = some (.cells #[.bool ((rd_T90 l0_1 (rd t590 x6_3)).f1.f0), (.slice A604_2 ((rd_T90 l0_1 (rd t590 x6_3)).f1.f1).length c604_2)] 54 (0, 0))) ∧ Aside0 (Below w.heap.size w wc))
                              case first =>
                                have H := HC54.out
                                clear HC54
                                by_cases c55 : x8_4 < (((rd_T90 l0_1 (rd t590 x6_3)).f1.f1).length : Int)
                                · rw [if_pos c55] at H
                                  have c55b0 : decide (x8_4 < (((rd_T90 l0_1 (rd t590 x6_3)).f1.f1).length : Int)) = true := decide_eq_true c55
                                  clear c55
                                  (first | rw [c55b0] | (simp only [i64_w, i32_w]; rw [c55b0]) | skip)
                                  have H' := Aside0.mk H
                                  clear H
                                  have hnb56 := NB605_589.out
                                  have hnc56 := NB589_605.out
                                  have hcz57_0 : wr.cell? ⟨gb605, 0, none⟩ = some (.bool ((rd_T90 l0_1 (rd t590 x6_3)).f1.f0)) := (blk_cell BK605.out 0).trans rfl
                                  have hcz57_1 : wr.cell? ⟨gb605, 1, none⟩ = some (.slice A604_2 ((rd_T90 l0_1 (rd t590 x6_3)).f1.f1).length c604_2) := (blk_cell BK605.out 1).trans rfl
                                  have hfz57_0 := blk_frozen BK605.out 0
                                  have hfz57_1 := blk_frozen BK605.out 1
                                  go_wp2
                                  go_meet
                                  case rel => exact ⟨_, (!((rd_T90 l0_1 (rd t590 x6_3)).f1.f0)), (by first | rfl | (simp; done) | (simp [*]; done)), H', ⟨by have := HJ2.out; have := HK2.out; have := HK3.out; have := HK4.out; first | omega | exact Nat.le_refl _⟩, ⟨by (with_reducible repeat (first | apply Kd.R_alloc | apply Kd.R_drewN | apply Kd.R_drew)); exact HO_3.out⟩, ⟨by (with_reducible repeat (first | refine blk_drewN ?_ _ | refine blk_drew ?_ | refine blk_alloc ?_ _)); exact BK589.out⟩, ⟨by (with_reducible repeat (first | refine blk_drewN ?_ _ | refine blk_drew ?_ | refine blk_alloc ?_ _)); exact BK605.out⟩, ⟨by repeat (first | (with_reducible first | exact HB.out | apply below_alloc | apply pw_below_drewN | apply below_drew1 | refine below_set ?_ GE589.out | refine below_set ?_ GE605.out) | exact HB.out)⟩⟩
                                · rw [if_neg c55] at H
                                  have c55b0 : decide (x8_4 < (((rd_T90 l0_1 (rd t590 x6_3)).f1.f1).length : Int)) = false := decide_eq_false c55
                                  clear c55
                                  (first | rw [c55b0] | (simp only [i64_w, i32_w]; rw [c55b0]) | skip)
                                  have H' := Aside0.mk H
                                  clear H
                                  have hnb58 := NB605_589.out
                                  have hnc58 := NB589_605.out
                                  have hcz59_0 : wr.cell? ⟨gb605, 0, none⟩ = some (.bool ((rd_T90 l0_1 (rd t590 x6_3)).f1.f0)) := (blk_cell BK605.out 0).trans rfl
                                  have hcz59_1 : wr.cell? ⟨gb605, 1, none⟩ = some (.slice A604_2 ((rd_T90 l0_1 (rd t590 x6_3)).f1.f1).length c604_2) := (blk_cell BK605.out 1).trans rfl
                                  have hfz59_0 := blk_frozen BK605.out 0
                                  have hfz59_1 := blk_frozen BK605.out 1
                                  go_wp2
                                  go_meet
                                  case rel => exact ⟨_, (false), (by first | rfl | (simp; done) | (simp [*]; done)), H', ⟨by have := HJ2.out; have := HK2.out; have := HK3.out; have := HK4.out; first | omega | exact Nat.le_refl _⟩, ⟨by (with_reducible repeat (first | apply Kd.R_alloc | apply Kd.R_drewN | apply Kd.R_drew)); exact HO_3.out⟩, ⟨by (with_reducible repeat (first | refine blk_drewN ?_ _ | refine blk_drew ?_ | refine blk_alloc ?_ _)); exact BK589.out⟩, ⟨by (with_reducible repeat (first | refine blk_drewN ?_ _ | refine blk_drew ?_ | refine blk_alloc ?_ _)); exact BK605.out⟩, ⟨by repeat (first | (with_reducible first | exact HB.out | apply below_alloc | apply pw_below_drewN | apply below_drew1 | refine below_set ?_ GE589.out | refine below_set ?_ GE605.out) | exact HB.out)⟩⟩
                              case rest =>
                                clear HC54
                                try clear c1
                                try clear q1
                                try clear c2
                                try clear p2
                                try clear c3
                                try clear q3
                                try clear c4
                                try clear c5
                                try clear p5
                                try clear q5
                                try clear hx5
                                try clear c6
                                try clear p6
                                try clear q6
                                try clear hx6
                                try clear c13
                                try clear c13b0
                                try clear c14
                                try clear q15
                                try clear c16
                                try clear c18
                                try clear c19
                                try clear c23
                                try clear c23b0
                                try clear c27
                                try clear c27b0
                                try clear c27b1
                                try clear c36
                                try clear q38
                                try clear c39
                                try clear c41
                                try clear c41b0
                                try clear c41b1
                                try clear c45
                                try clear c45b0
                                try clear c46
                                try clear c46b0
                                try clear c47
                                try clear c47b0
                                try clear c48
                                try clear c48b0
                                try clear c55
                                try clear c55b0
                                try clear c56
                                try clear c58
                                try clear p59
                                try clear q59
                                try clear hx59
                                try clear hcz20_0
                                try clear hcz20_1
                                try clear hcz22_0
                                try clear hcz22_1
                                try clear hcz24_0
                                try clear hcz24_1
                                try clear hcz26_0
                                try clear hcz26_1
                                try clear hcz28_0
                                try clear hcz28_1
                                try clear hcz30_0
                                try clear hcz30_1
                                try clear hcz31_0
                                try clear hcz31_1
                                try clear hcz33_0
                                try clear hcz33_1
                                try clear hcz34_0
                                try clear hcz34_1
                                try clear hcz37_0
                                try clear hcz37_1
                                try clear hcz40_0
                                try clear hcz40_1
                                try clear hcz42_0
                                try clear hcz42_1
                                try clear hcz43_0
                                try clear hcz43_1
                                try clear hcz44_0
                                try clear hcz44_1
                                try clear hcz57_0
                                try clear hcz57_1
                                try clear hcz59_0
                                try clear hcz59_1
                                try clear hfz20_0
                                try clear hfz20_1
                                try clear hfz22_0
                                try clear hfz22_1
                                try clear hfz24_0
                                try clear hfz24_1
                                try clear hfz26_0
                                try clear hfz26_1
                                try clear hfz28_0
                                try clear hfz28_1
                                try clear hfz30_0
                                try clear hfz30_1
                                try clear hfz31_0
                                try clear hfz31_1
                                try clear hfz33_0
                                try clear hfz33_1
                                try clear hfz34_0
                                try clear hfz34_1
                                try clear hfz37_0
                                try clear hfz37_1
                                try clear hfz40_0
                                try clear hfz40_1
                                try clear hfz42_0
                                try clear hfz42_1
                                try clear hfz43_0
                                try clear hfz43_1
                                try clear hfz44_0
                                try clear hfz44_1
                                try clear hfz57_0
                                try clear hfz57_1
                                try clear hfz59_0
                                try clear hfz59_1
                                try clear hx594_0
                                try clear hx594_1
                                try clear hx594_2
                                try clear hx595_0
                                try clear hx595_1
                                try clear hx595_2
                                try clear hx597_0
                                try clear hx597_1
                                try clear hx597_2
                                try clear hx598_0
                                try clear hx598_1
                                try clear hx598_2
                                try clear hx599_0
                                try clear hx599_1
                                try clear hx599_2
                                try clear hx600_0
                                try clear hx600_1
                                try clear hx600_2
                                try clear hx601_0
                                try clear hx601_1
                                try clear hx601_2
                                try clear hx602_0
                                try clear hx602_1
                                try clear hx602_2
                                try clear hx603_0
                                try clear hx604_0
                                try clear hx604_1
                                try clear hx604_2
                                try clear p2
                                try clear p5
                                try clear p594
                                try clear p595
                                try clear p597
                                try clear p598
                                try clear p599
                                try clear p6
                                try clear p600
                                try clear p601
                                try clear p602
                                try clear p603
                                try clear p604
                                try clear q1
                                try clear q15
                                try clear q3
                                try clear q38
                                try clear q5
                                try clear q594
                                try clear q595
                                try clear q597
                                try clear q598
                                try clear q599
                                try clear q6
                                try clear q600
                                try clear q601
                                try clear q602
                                try clear q603
                                try clear q604
                                obtain ⟨kq, x97_53, rfl, HA, HJ53, HO_3, BK589, BK605, HB⟩ := hcut
                                cases kq with
                                | zero => exact absurd HA.out (by simp [spec_BookOk.j4])
                                | succ kj53 =>
                                  have H := HA.out
                                  clear HA
                                  simp only [spec_BookOk.j4] at H
                                  by_cases c60 : x97_53 = true
                                  · subst c60
                                    have H1 : (if 0 ≤ x8_4 then (if x8_4 < (((rd_T90 l0_1 (rd t590 x6_3)).f1.f1).length : Int) then ((spec_l7Has.f kj53 t590 ((rd_T103 ((rd_T90 l0_1 (rd t590 x6_3)).f1.f1) x8_4).f0)).bind fun t607 => (if t607 = true then (if ((rd_T103 ((rd_T90 l0_1 (rd t590 x6_3)).f1.f1) x8_4).f0) = a0_0 then (some false) else (spec_BookOk.l2 kj53 t590 (wrap64 (x5_4 + 1)) x6_3 (wrap64 (x8_4 + 1)) a0_0 l0_1 ((rd_T90 l0_1 (rd t590 x6_3)).f1.f0) ((rd_T90 l0_1 (rd t590 x6_3)).f1.f1))) else (some false))) else (none)) else (none)) = some r := by rw [if_pos rfl] at H; exact H
                                    clear H
                                    have H := H1
                                    clear H1
                                    by_cases c61 : 0 ≤ x8_4
                                    · rw [if_pos c61] at H
                                      have c61b0 : decide (0 ≤ x8_4) = true := decide_eq_true c61
                                      clear c61
                                      by_cases c62 : x8_4 < (((rd_T90 l0_1 (rd t590 x6_3)).f1.f1).length : Int)
                                      · rw [if_pos c62] at H
                                        have c62b0 : decide (x8_4 < (((rd_T90 l0_1 (rd t590 x6_3)).f1.f1).length : Int)) = true := decide_eq_true c62
                                        clear c62
                                        replace H := Option.bind_eq_some_iff.mp H
                                        obtain ⟨t607, A630, H⟩ := H
                                        replace H : (if t607 = true then (if ((rd_T103 ((rd_T90 l0_1 (rd t590 x6_3)).f1.f1) x8_4).f0) = a0_0 then (some false) else (spec_BookOk.l2 kj53 t590 (wrap64 (x5_4 + 1)) x6_3 (wrap64 (x8_4 + 1)) a0_0 l0_1 ((rd_T90 l0_1 (rd t590 x6_3)).f1.f0) ((rd_T90 l0_1 (rd t590 x6_3)).f1.f1))) else (some false)) = some r := H
                                        have A63 := Aside0.mk A630
                                        clear A630
                                        by_cases c64 : t607 = true
                                        · subst c64
                                          have H1 : (if ((rd_T103 ((rd_T90 l0_1 (rd t590 x6_3)).f1.f1) x8_4).f0) = a0_0 then (some false) else (spec_BookOk.l2 kj53 t590 (wrap64 (x5_4 + 1)) x6_3 (wrap64 (x8_4 + 1)) a0_0 l0_1 ((rd_T90 l0_1 (rd t590 x6_3)).f1.f0) ((rd_T90 l0_1 (rd t590 x6_3)).f1.f1))) = some r := by rw [if_pos rfl] at H; exact H
                                          clear H
                                          have H := H1
                                          clear H1
                                          by_cases c65 : ((rd_T103 ((rd_T90 l0_1 (rd t590 x6_3)).f1.f1) x8_4).f0) = a0_0
                                          · rw [if_pos c65] at H
                                            have c65b0 : (((rd_T103 ((rd_T90 l0_1 (rd t590 x6_3)).f1.f1) x8_4).f0) == a0_0) = true := beq_iff_eq.mpr c65
                                            have c65b1 : (((rd_T103 ((rd_T90 l0_1 (rd t590 x6_3)).f1.f1) x8_4).f0) != a0_0) = false := bne_eq_false_iff_eq.mpr c65
                                            clear c65
                                            obtain rfl := Option.some.inj H
                                            try go_wp2
                                            have n0_ := Aside0.mk (Kd.R_drew HO_3.out)
                                            have n1_ := Aside0.mk (blk_drew BK589.out)
                                            have n2_ := Aside0.mk (blk_drew BK605.out)
                                            have n3_ := Aside0.mk (below_drew1 HB.out)
                                            clear HO_3
                                            clear BK589
                                            clear BK605
                                            clear HB
                                            have HO_3 := n0_
                                            have BK589 := n1_
                                            have BK605 := n2_
                                            have HB := n3_
                                            clear n0_ n1_ n2_ n3_
                                            have p606 : 0 ≤ (x8_4 : Int) := of_decide_eq_true (by first | (with_reducible assumption) | assumption)
                                            have q606 : x8_4 < (((rd_T90 l0_1 (rd t590 x6_3)).f1.f1).length : Int) := of_decide_eq_true (by first | (with_reducible assumption) | assumption)
                                            obtain ⟨ad606, e606, hx606_0, hx606_1, hx606_2, hx606_3, hx606_4⟩ := at_T103 HR604_2.out x8_4 p606 q606
                                            have hw606_4 := hx606_4
                                            have hw606_3 := hx606_3
                                            have hw606_2 := hx606_2
                                            have hw606_1 := hx606_1
                                            have hw606_0 := hx606_0
                                            cases e606
                                            replace hx606_0 := (HB.out.cell (World.block_lt_of_cell? w _ hx606_0)).trans hx606_0
                                            replace hx606_1 := (HB.out.cell (World.block_lt_of_cell? w _ hx606_1)).trans hx606_1
                                            replace hx606_2 := (HB.out.cell (World.block_lt_of_cell? w _ hx606_2)).trans hx606_2
                                            replace hx606_3 := (HB.out.cell (World.block_lt_of_cell? w _ hx606_3)).trans hx606_3
                                            replace hx606_4 := (HB.out.cell (World.block_lt_of_cell? w _ hx606_4)).trans hx606_4
                                            replace p606 := eq_true p606
                                            replace q606 := eq_true q606
                                            have p608 : 0 ≤ (x8_4 : Int) := of_decide_eq_true (by first | (with_reducible assumption) | assumption)
                                            have q608 : x8_4 < (((rd_T90 l0_1 (rd t590 x6_3)).f1.f1).length : Int) := of_decide_eq_true (by first | (with_reducible assumption) | assumption)
                                            obtain ⟨ad608, e608, hx608_0, hx608_1, hx608_2, hx608_3, hx608_4⟩ := at_T103 HR604_2.out x8_4 p608 q608
                                            have hw608_4 := hx608_4
                                            have hw608_3 := hx608_3
                                            have hw608_2 := hx608_2
                                            have hw608_1 := hx608_1
                                            have hw608_0 := hx608_0
                                            obtain rfl : ad606 = ad608 := (by injection e608)
                                            replace hx608_0 := (HB.out.cell (World.block_lt_of_cell? w _ hx608_0)).trans hx608_0
                                            replace hx608_1 := (HB.out.cell (World.block_lt_of_cell? w _ hx608_1)).trans hx608_1
                                            replace hx608_2 := (HB.out.cell (World.block_lt_of_cell? w _ hx608_2)).trans hx608_2
                                            replace hx608_3 := (HB.out.cell (World.block_lt_of_cell? w _ hx608_3)).trans hx608_3
                                            replace hx608_4 := (HB.out.cell (World.block_lt_of_cell? w _ hx608_4)).trans hx608_4
                                            replace p608 := eq_true p608
                                            replace q608 := eq_true q608
                                            refine start_ (n := 20) (S := fun w' => w'.cell? ⟨gb605, 0, none⟩ = some (.bool ((rd_T90 l0_1 (rd t590 x6_3)).f1.f0)) ∧ w'.cell? ⟨gb605, 1, none⟩ = some (.slice (some ad606) ((rd_T90 l0_1 (rd t590 x6_3)).f1.f1).length c604_2) ∧ w'.cell? ⟨gb589, 0, none⟩ = some (.int .i64 a0_0) ∧ w'.cell? ⟨gb589, 1, none⟩ = some (.slice (some ad604) l0_1.length c0_1) ∧ w'.cell? (ad606.add ((x8_4).toNat * 5)) = some (.int .i64 ((rd_T103 ((rd_T90 l0_1 (rd t590 x6_3)).f1.f1) x8_4).f0)) ∧ w'.cell? ⟨(ad606.add ((x8_4).toNat * 5)).block, (ad606.add ((x8_4).toNat * 5)).off + 1, none⟩ = some (.int .i64 ((rd_T103 ((rd_T90 l0_1 (rd t590 x6_3)).f1.f1) x8_4).f1.f0)) ∧ w'.cell? ⟨(ad606.add ((x8_4).toNat * 5)).block, (ad606.add ((x8_4).toNat * 5)).off + 2, none⟩ = some (.int .i64 ((rd_T103 ((rd_T90 l0_1 (rd t590 x6_3)).f1.f1) x8_4).f1.f1)) ∧ w'.cell? ⟨(ad606.add ((x8_4).toNat * 5)).block, (ad606.add ((x8_4).toNat * 5)).off + 3, none⟩ = some (.int .i64 ((rd_T103 ((rd_T90 l0_1 (rd t590 x6_3)).f1.f1) x8_4).f1.f2)) ∧ w'.cell? ⟨(ad606.add ((x8_4).toNat * 5)).block, (ad606.add ((x8_4).toNat * 5)).off + 4, none⟩ = some (.int .i64 ((rd_T103 ((rd_T90 l0_1 (rd t590 x6_3)).f1.f1) x8_4).f1.f3)) ∧ w'.cell? (ad606.add ((x8_4).toNat * 5)) = some (.int .i64 ((rd_T103 ((rd_T90 l0_1 (rd t590 x6_3)).f1.f1) x8_4).f0)) ∧ w'.cell? ⟨(ad606.add ((x8_4).toNat * 5)).block, (ad606.add ((x8_4).toNat * 5)).off + 1, none⟩ = some (.int .i64 ((rd_T103 ((rd_T90 l0_1 (rd t590 x6_3)).f1.f1) x8_4).f1.f0)) ∧ w'.cell? ⟨(ad606.add ((x8_4).toNat * 5)).block, (ad606.add ((x8_4).toNat * 5)).off + 2, none⟩ = some (.int .i64 ((rd_T103 ((rd_T90 l0_1 (rd t590 x6_3)).f1.f1) x8_4).f1.f1)) ∧ w'.cell? ⟨(ad606.add ((x8_4).toNat * 5)).block, (ad606.add ((x8_4).toNat * 5)).off + 3, none⟩ = some (.int .i64 ((rd_T103 ((rd_T90 l0_1 (rd t590 x6_3)).f1.f1) x8_4).f1.f2)) ∧ w'.cell? ⟨(ad606.add ((x8_4).toNat * 5)).block, (ad606.add ((x8_4).toNat * 5)).off + 4, none⟩ = some (.int .i64 ((rd_T103 ((rd_T90 l0_1 (rd t590 x6_3)).f1.f1) x8_4).f1.f3))) (ds := []) #[false, false, false, false, false, false, false, false, false, false, false, false, false, false, false, false, false, false, false, false] (by kernel_rfl) rfl rfl ⟨(blk_cell BK605.out 0).trans rfl, (blk_cell BK605.out 1).trans rfl, (blk_cell BK589.out 0).trans rfl, (blk_cell BK589.out 1).trans rfl, ((HB.out.cell (World.block_lt_of_cell? w _ hw606_0)).trans hw606_0), ((HB.out.cell (World.block_lt_of_cell? w _ hw606_1)).trans hw606_1), ((HB.out.cell (World.block_lt_of_cell? w _ hw606_2)).trans hw606_2), ((HB.out.cell (World.block_lt_of_cell? w _ hw606_3)).trans hw606_3), ((HB.out.cell (World.block_lt_of_cell? w _ hw606_4)).trans hw606_4), ((HB.out.cell (World.block_lt_of_cell? w _ hw608_0)).trans hw608_0), ((HB.out.cell (World.block_lt_of_cell? w _ hw608_1)).trans hw608_1), ((HB.out.cell (World.block_lt_of_cell? w _ hw608_2)).trans hw608_2), ((HB.out.cell (World.block_lt_of_cell? w _ hw608_3)).trans hw608_3), ((HB.out.cell (World.block_lt_of_cell? w _ hw608_4)).trans hw608_4)⟩ (fun hHeld => ?_); refine with_tabW spec_BookOk.tab17 spec_BookOk.bits17 (fun HT_ HW_ => ?_)
                                            generalize wc.drew = w66 at HO_3 BK589 BK605 HB hx606_0 hx606_1 hx606_2 hx606_3 hx606_4 hx608_0 hx608_1 hx608_2 hx608_3 hx608_4 hHeld ⊢
                                            refine pure_ (i := 0) (N := some 100) (v := ?_) (a' := ?_) #[true, false, false, false, false, false, false, false, false, false, false, false, false, false, false, false, false, false, false, false] rfl rfl (any_of HT_.out (by kernel_rfl)) (fun _ _ _ h => h) (Or.inl ⟨by rfl, ?_⟩) ?_ ?_
                                            rotate_left
                                            · intro w'
                                              go_simp
                                              with_reducible rfl
                                            rotate_left
                                            · simp only [Act.put, List.setIfInBounds_toArray, List.set_cons_zero, List.set_cons_succ, i64_w, i32_w]
                                              rfl
                                            refine pure_ (i := 1) (N := some 101) (v := ?_) (a' := ?_) #[true, true, false, false, false, false, false, false, false, false, false, false, false, false, false, false, false, false, false, false] rfl rfl (any_of HT_.out (by kernel_rfl)) (fun _ _ _ h => h) (Or.inl ⟨by rfl, ?_⟩) ?_ ?_
                                            rotate_left
                                            · intro w'
                                              go_simp
                                              with_reducible rfl
                                            rotate_left
                                            · simp only [Act.put, List.setIfInBounds_toArray, List.set_cons_zero, List.set_cons_succ, i64_w, i32_w]
                                              rfl
                                            refine pure_ (i := 3) (N := some 103) (v := ?_) (a' := ?_) #[true, true, false, true, false, false, false, false, false, false, false, false, false, false, false, false, false, false, false, false] rfl rfl (any_of HT_.out (by kernel_rfl)) (fun _ _ _ h => h) (Or.inl ⟨by rfl, ?_⟩) ?_ ?_
                                            rotate_left
                                            · intro w'
                                              go_simp
                                              with_reducible rfl
                                            rotate_left
                                            · simp only [Act.put, List.setIfInBounds_toArray, List.set_cons_zero, List.set_cons_succ, i64_w, i32_w]
                                              rfl
                                            refine take_ (i := 2) (N := some 102) (v := ?_) (a' := ?_) #[true, true, true, true, false, false, false, false, false, false, false, false, false, false, false, false, false, false, false, false] rfl rfl (take_ofW HT_.out HW_.out (by kernel_rfl)) (fun _ _ _ h => h) (Or.inl ⟨by rfl, ?_⟩) hHeld ?_ ?_
                                            rotate_left
                                            · rintro w' ⟨s0, s1, s2, s3, s4, s5, s6, s7, s8, s9, s10, s11, s12, s13⟩
                                              go_simp
                                              with_reducible rfl
                                            rotate_left
                                            · simp only [Act.put, List.setIfInBounds_toArray, List.set_cons_zero, List.set_cons_succ, i64_w, i32_w]
                                              rfl
                                            refine pure_ (i := 4) (N := some 104) (v := ?_) (a' := ?_) #[true, true, true, true, true, false, false, false, false, false, false, false, false, false, false, false, false, false, false, false] rfl rfl (any_of HT_.out (by kernel_rfl)) (fun _ _ _ h => h) (Or.inl ⟨by rfl, ?_⟩) ?_ ?_
                                            rotate_left
                                            · intro w'
                                              go_simp
                                              with_reducible rfl
                                            rotate_left
                                            · simp only [Act.put, List.setIfInBounds_toArray, List.set_cons_zero, List.set_cons_succ, i64_w, i32_w]
                                              rfl
                                            refine pure_ (i := 5) (N := some 105) (v := ?_) (a' := ?_) #[true, true, true, true, true, true, false, false, false, false, false, false, false, false, false, false, false, false, false, false] rfl rfl (any_of HT_.out (by kernel_rfl)) (fun _ _ _ h => h) (Or.inl ⟨by rfl, ?_⟩) ?_ ?_
                                            rotate_left
                                            · intro w'
                                              go_simp
                                              with_reducible rfl
                                            rotate_left
                                            · simp only [Act.put, List.setIfInBounds_toArray, List.set_cons_zero, List.set_cons_succ, i64_w, i32_w]
                                              rfl
                                            refine take_ (i := 6) (N := some 106) (v := ?_) (a' := ?_) #[true, true, true, true, true, true, true, false, false, false, false, false, false, false, false, false, false, false, false, false] rfl rfl (take_ofW HT_.out HW_.out (by kernel_rfl)) (fun _ _ _ h => h) (Or.inl ⟨by rfl, ?_⟩) hHeld ?_ ?_
                                            rotate_left
                                            · rintro w' ⟨s0, s1, s2, s3, s4, s5, s6, s7, s8, s9, s10, s11, s12, s13⟩
                                              go_simp
                                              with_reducible rfl
                                            rotate_left
                                            · simp only [Act.put, List.setIfInBounds_toArray, List.set_cons_zero, List.set_cons_succ, i64_w, i32_w]
                                              rfl
                                            refine one_ (i := 7) (N := some 107) #[true, true, true, true, true, true, true, true, false, false, false, false, false, false, false, false, false, false, false, false] rfl rfl (one_of HT_.out (by kernel_rfl)) (by decide) (fun K hK => ?_)
                                            refine goes_ Try.func87 (by kernel_rfl) rfl #[.slice (some ad603) t590.length co49, .int .i64 ((rd_T103 ((rd_T90 l0_1 (rd t590 x6_3)).f1.f1) x8_4).f0)] (by rfl) rfl rfl (by (try simp only [List.map_toArray, List.map_cons, List.map_nil]); first | done | rfl | (simp only [List.length_drop, List.length_take]; rfl)) ?_
                                            with_reducible refine (spec_l7Has.calls kj53 _ _ t590 ((rd_T103 ((rd_T90 l0_1 (rd t590 x6_3)).f1.f1) x8_4).f0) true _ ?side1 ?side2 A63.out).mono ?_
                                            (case side1 => repeat (first | exact (Kd.R_reads' HO_3.out).2.2 | (with_reducible refine Kd.C_alloc ?_ _) | (with_reducible refine Kd.C_drewN ?_ _) | (with_reducible refine Kd.C_drew ?_)))
                                            (case side2 => exact (Kd.R_reads' HO_3.out).2.1)
                                            rintro e w' ⟨rfl, ⟨nd, rfl⟩⟩
                                            refine ⟨_, rfl, ?_⟩
                                            refine hK.out _ _ ⟨(blk_cell BK605.out 0).trans rfl, (blk_cell BK605.out 1).trans rfl, (blk_cell BK589.out 0).trans rfl, (blk_cell BK589.out 1).trans rfl, ((HB.out.cell (World.block_lt_of_cell? w _ hw606_0)).trans hw606_0), ((HB.out.cell (World.block_lt_of_cell? w _ hw606_1)).trans hw606_1), ((HB.out.cell (World.block_lt_of_cell? w _ hw606_2)).trans hw606_2), ((HB.out.cell (World.block_lt_of_cell? w _ hw606_3)).trans hw606_3), ((HB.out.cell (World.block_lt_of_cell? w _ hw606_4)).trans hw606_4), ((HB.out.cell (World.block_lt_of_cell? w _ hw608_0)).trans hw608_0), ((HB.out.cell (World.block_lt_of_cell? w _ hw608_1)).trans hw608_1), ((HB.out.cell (World.block_lt_of_cell? w _ hw608_2)).trans hw608_2), ((HB.out.cell (World.block_lt_of_cell? w _ hw608_3)).trans hw608_3), ((HB.out.cell (World.block_lt_of_cell? w _ hw608_4)).trans hw608_4)⟩ (fun hHeld => ?_)
                                            clear hK K
                                            refine norm_ (a' := ?_) ?_ ?_
                                            rotate_left
                                            · show Act.put _ (some 107) _ = _
                                              simp only [Act.put, List.setIfInBounds_toArray, List.set_cons_zero, List.set_cons_succ, i64_w, i32_w]
                                              rfl
                                            refine pure_ (i := 8) (N := some 108) (v := ?_) (a' := ?_) #[true, true, true, true, true, true, true, true, true, false, false, false, false, false, false, false, false, false, false, false] rfl rfl (any_of HT_.out (by kernel_rfl)) (fun _ _ _ h => h) (Or.inl ⟨by rfl, ?_⟩) ?_ ?_
                                            rotate_left
                                            · intro w'
                                              go_simp
                                              with_reducible rfl
                                            rotate_left
                                            · simp only [Act.put, List.setIfInBounds_toArray, List.set_cons_zero, List.set_cons_succ, i64_w, i32_w]
                                              rfl
                                            refine pure_ (i := 9) (N := some 109) (v := ?_) (a' := ?_) #[true, true, true, true, true, true, true, true, true, true, false, false, false, false, false, false, false, false, false, false] rfl rfl (any_of HT_.out (by kernel_rfl)) (fun _ _ _ h => h) (Or.inl ⟨by rfl, ?_⟩) ?_ ?_
                                            rotate_left
                                            · intro w'
                                              go_simp
                                              with_reducible rfl
                                            rotate_left
                                            · simp only [Act.put, List.setIfInBounds_toArray, List.set_cons_zero, List.set_cons_succ, i64_w, i32_w]
                                              rfl
                                            refine pure_ (i := 10) (N := some 110) (v := ?_) (a' := ?_) #[true, true, true, true, true, true, true, true, true, true, true, false, false, false, false, false, false, false, false, false] rfl rfl (any_of HT_.out (by kernel_rfl)) (fun _ _ _ h => h) (Or.inl ⟨by rfl, ?_⟩) ?_ ?_
                                            rotate_left
                                            · intro w'
                                              go_simp
                                              with_reducible rfl
                                            rotate_left
                                            · simp only [Act.put, List.setIfInBounds_toArray, List.set_cons_zero, List.set_cons_succ, i64_w, i32_w]
                                              rfl
                                            refine pure_ (i := 12) (N := some 112) (v := ?_) (a' := ?_) #[true, true, true, true, true, true, true, true, true, true, true, false, true, false, false, false, false, false, false, false] rfl rfl (any_of HT_.out (by kernel_rfl)) (fun _ _ _ h => h) (Or.inl ⟨by rfl, ?_⟩) ?_ ?_
                                            rotate_left
                                            · intro w'
                                              go_simp
                                              with_reducible rfl
                                            rotate_left
                                            · simp only [Act.put, List.setIfInBounds_toArray, List.set_cons_zero, List.set_cons_succ, i64_w, i32_w]
                                              rfl
                                            refine pure_ (i := 16) (N := some 116) (v := ?_) (a' := ?_) #[true, true, true, true, true, true, true, true, true, true, true, false, true, false, false, false, true, false, false, false] rfl rfl (any_of HT_.out (by kernel_rfl)) (fun _ _ _ h => h) (Or.inl ⟨by rfl, ?_⟩) ?_ ?_
                                            rotate_left
                                            · intro w'
                                              go_simp
                                              with_reducible rfl
                                            rotate_left
                                            · simp only [Act.put, List.setIfInBounds_toArray, List.set_cons_zero, List.set_cons_succ, i64_w, i32_w]
                                              rfl
                                            refine take_ (i := 11) (N := some 111) (v := ?_) (a' := ?_) #[true, true, true, true, true, true, true, true, true, true, true, true, true, false, false, false, true, false, false, false] rfl rfl (take_ofW HT_.out HW_.out (by kernel_rfl)) (fun _ _ _ h => h) (Or.inl ⟨by rfl, ?_⟩) hHeld ?_ ?_
                                            rotate_left
                                            · rintro w' ⟨s0, s1, s2, s3, s4, s5, s6, s7, s8, s9, s10, s11, s12, s13⟩
                                              go_simp
                                              with_reducible rfl
                                            rotate_left
                                            · simp only [Act.put, List.setIfInBounds_toArray, List.set_cons_zero, List.set_cons_succ, i64_w, i32_w]
                                              rfl
                                            refine pure_ (i := 13) (N := some 113) (v := ?_) (a' := ?_) #[true, true, true, true, true, true, true, true, true, true, true, true, true, true, false, false, true, false, false, false] rfl rfl (any_of HT_.out (by kernel_rfl)) (fun _ _ _ h => h) (Or.inl ⟨by rfl, ?_⟩) ?_ ?_
                                            rotate_left
                                            · intro w'
                                              go_simp
                                              with_reducible rfl
                                            rotate_left
                                            · simp only [Act.put, List.setIfInBounds_toArray, List.set_cons_zero, List.set_cons_succ, i64_w, i32_w]
                                              rfl
                                            refine pure_ (i := 14) (N := some 114) (v := ?_) (a' := ?_) #[true, true, true, true, true, true, true, true, true, true, true, true, true, true, true, false, true, false, false, false] rfl rfl (any_of HT_.out (by kernel_rfl)) (fun _ _ _ h => h) (Or.inl ⟨by rfl, ?_⟩) ?_ ?_
                                            rotate_left
                                            · intro w'
                                              go_simp
                                              with_reducible rfl
                                            rotate_left
                                            · simp only [Act.put, List.setIfInBounds_toArray, List.set_cons_zero, List.set_cons_succ, i64_w, i32_w]
                                              rfl
                                            refine take_ (i := 15) (N := some 115) (v := ?_) (a' := ?_) #[true, true, true, true, true, true, true, true, true, true, true, true, true, true, true, true, true, false, false, false] rfl rfl (take_ofW HT_.out HW_.out (by kernel_rfl)) (fun _ _ _ h => h) (Or.inl ⟨by rfl, ?_⟩) hHeld ?_ ?_
                                            rotate_left
                                            · rintro w' ⟨s0, s1, s2, s3, s4, s5, s6, s7, s8, s9, s10, s11, s12, s13⟩
                                              go_simp
                                              with_reducible rfl
                                            rotate_left
                                            · simp only [Act.put, List.setIfInBounds_toArray, List.set_cons_zero, List.set_cons_succ, i64_w, i32_w]
                                              rfl
                                            refine take_ (i := 17) (N := some 117) (v := ?_) (a' := ?_) #[true, true, true, true, true, true, true, true, true, true, true, true, true, true, true, true, true, true, false, false] rfl rfl (take_ofW HT_.out HW_.out (by kernel_rfl)) (fun _ _ _ h => h) (Or.inl ⟨by rfl, ?_⟩) hHeld ?_ ?_
                                            rotate_left
                                            · rintro w' ⟨s0, s1, s2, s3, s4, s5, s6, s7, s8, s9, s10, s11, s12, s13⟩
                                              go_simp
                                              with_reducible rfl
                                            rotate_left
                                            · simp only [Act.put, List.setIfInBounds_toArray, List.set_cons_zero, List.set_cons_succ, i64_w, i32_w]
                                              rfl
                                            refine pure_ (i := 18) (N := some 118) (v := ?_) (a' := ?_) #[true, true, true, true, true, true, true, true, true, true, true, true, true, true, true, true, true, true, true, false] rfl rfl (any_of HT_.out (by kernel_rfl)) (fun _ _ _ h => h) (Or.inl ⟨by rfl, ?_⟩) ?_ ?_
                                            rotate_left
                                            · intro w'
                                              go_simp
                                              with_reducible rfl
                                            rotate_left
                                            · simp only [Act.put, List.setIfInBounds_toArray, List.set_cons_zero, List.set_cons_succ, i64_w, i32_w]
                                              rfl
                                            refine pure_ (i := 19) (N := some 119) (v := ?_) (a' := ?_) #[true, true, true, true, true, true, true, true, true, true, true, true, true, true, true, true, true, true, true, true] rfl rfl (any_of HT_.out (by kernel_rfl)) (fun _ _ _ h => h) (Or.inl ⟨by rfl, ?_⟩) ?_ ?_
                                            rotate_left
                                            · intro w'
                                              go_simp
                                              with_reducible rfl
                                            rotate_left
                                            · simp only [Act.put, List.setIfInBounds_toArray, List.set_cons_zero, List.set_cons_succ, i64_w, i32_w]
                                              rfl
                                            refine done_ (done_of HT_.out (by kernel_rfl)) ?_
                                            try go_wp2
                                            go_ret
                                            exact ⟨by first | rfl | (simp [errW_none, errW_some] <;> rfl) | (simp [*, errW_none, errW_some] <;> rfl), by repeat (first | (with_reducible first | exact HB.out | apply below_alloc | apply pw_below_drewN | apply below_drew1 | refine below_set ?_ GE589.out | refine below_set ?_ GE605.out) | exact HB.out)⟩
                                          · rw [if_neg c65] at H
                                            have c65b0 : (((rd_T103 ((rd_T90 l0_1 (rd t590 x6_3)).f1.f1) x8_4).f0) == a0_0) = false := beq_eq_false_iff_ne.mpr c65
                                            have c65b1 : (((rd_T103 ((rd_T90 l0_1 (rd t590 x6_3)).f1.f1) x8_4).f0) != a0_0) = true := bne_iff_ne.mpr c65
                                            have H' := Aside0.mk H
                                            clear H
                                            try go_wp2
                                            have n0_ := Aside0.mk (Kd.R_drew HO_3.out)
                                            have n1_ := Aside0.mk (blk_drew BK589.out)
                                            have n2_ := Aside0.mk (blk_drew BK605.out)
                                            have n3_ := Aside0.mk (below_drew1 HB.out)
                                            clear HO_3
                                            clear BK589
                                            clear BK605
                                            clear HB
                                            have HO_3 := n0_
                                            have BK589 := n1_
                                            have BK605 := n2_
                                            have HB := n3_
                                            clear n0_ n1_ n2_ n3_
                                            have p606 : 0 ≤ (x8_4 : Int) := of_decide_eq_true (by first | (with_reducible assumption) | assumption)
                                            have q606 : x8_4 < (((rd_T90 l0_1 (rd t590 x6_3)).f1.f1).length : Int) := of_decide_eq_true (by first | (with_reducible assumption) | assumption)
                                            obtain ⟨ad606, e606, hx606_0, hx606_1, hx606_2, hx606_3, hx606_4⟩ := at_T103 HR604_2.out x8_4 p606 q606
                                            have hw606_4 := hx606_4
                                            have hw606_3 := hx606_3
                                            have hw606_2 := hx606_2
                                            have hw606_1 := hx606_1
                                            have hw606_0 := hx606_0
                                            cases e606
                                            replace hx606_0 := (HB.out.cell (World.block_lt_of_cell? w _ hx606_0)).trans hx606_0
                                            replace hx606_1 := (HB.out.cell (World.block_lt_of_cell? w _ hx606_1)).trans hx606_1
                                            replace hx606_2 := (HB.out.cell (World.block_lt_of_cell? w _ hx606_2)).trans hx606_2
                                            replace hx606_3 := (HB.out.cell (World.block_lt_of_cell? w _ hx606_3)).trans hx606_3
                                            replace hx606_4 := (HB.out.cell (World.block_lt_of_cell? w _ hx606_4)).trans hx606_4
                                            replace p606 := eq_true p606
                                            replace q606 := eq_true q606
                                            have p608 : 0 ≤ (x8_4 : Int) := of_decide_eq_true (by first | (with_reducible assumption) | assumption)
                                            have q608 : x8_4 < (((rd_T90 l0_1 (rd t590 x6_3)).f1.f1).length : Int) := of_decide_eq_true (by first | (with_reducible assumption) | assumption)
                                            obtain ⟨ad608, e608, hx608_0, hx608_1, hx608_2, hx608_3, hx608_4⟩ := at_T103 HR604_2.out x8_4 p608 q608
                                            have hw608_4 := hx608_4
                                            have hw608_3 := hx608_3
                                            have hw608_2 := hx608_2
                                            have hw608_1 := hx608_1
                                            have hw608_0 := hx608_0
                                            obtain rfl : ad606 = ad608 := (by injection e608)
                                            replace hx608_0 := (HB.out.cell (World.block_lt_of_cell? w _ hx608_0)).trans hx608_0
                                            replace hx608_1 := (HB.out.cell (World.block_lt_of_cell? w _ hx608_1)).trans hx608_1
                                            replace hx608_2 := (HB.out.cell (World.block_lt_of_cell? w _ hx608_2)).trans hx608_2
                                            replace hx608_3 := (HB.out.cell (World.block_lt_of_cell? w _ hx608_3)).trans hx608_3
                                            replace hx608_4 := (HB.out.cell (World.block_lt_of_cell? w _ hx608_4)).trans hx608_4
                                            replace p608 := eq_true p608
                                            replace q608 := eq_true q608
                                            refine start_ (n := 20) (S := fun w' => w'.cell? ⟨gb605, 0, none⟩ = some (.bool ((rd_T90 l0_1 (rd t590 x6_3)).f1.f0)) ∧ w'.cell? ⟨gb605, 1, none⟩ = some (.slice (some ad606) ((rd_T90 l0_1 (rd t590 x6_3)).f1.f1).length c604_2) ∧ w'.cell? ⟨gb589, 0, none⟩ = some (.int .i64 a0_0) ∧ w'.cell? ⟨gb589, 1, none⟩ = some (.slice (some ad604) l0_1.length c0_1) ∧ w'.cell? (ad606.add ((x8_4).toNat * 5)) = some (.int .i64 ((rd_T103 ((rd_T90 l0_1 (rd t590 x6_3)).f1.f1) x8_4).f0)) ∧ w'.cell? ⟨(ad606.add ((x8_4).toNat * 5)).block, (ad606.add ((x8_4).toNat * 5)).off + 1, none⟩ = some (.int .i64 ((rd_T103 ((rd_T90 l0_1 (rd t590 x6_3)).f1.f1) x8_4).f1.f0)) ∧ w'.cell? ⟨(ad606.add ((x8_4).toNat * 5)).block, (ad606.add ((x8_4).toNat * 5)).off + 2, none⟩ = some (.int .i64 ((rd_T103 ((rd_T90 l0_1 (rd t590 x6_3)).f1.f1) x8_4).f1.f1)) ∧ w'.cell? ⟨(ad606.add ((x8_4).toNat * 5)).block, (ad606.add ((x8_4).toNat * 5)).off + 3, none⟩ = some (.int .i64 ((rd_T103 ((rd_T90 l0_1 (rd t590 x6_3)).f1.f1) x8_4).f1.f2)) ∧ w'.cell? ⟨(ad606.add ((x8_4).toNat * 5)).block, (ad606.add ((x8_4).toNat * 5)).off + 4, none⟩ = some (.int .i64 ((rd_T103 ((rd_T90 l0_1 (rd t590 x6_3)).f1.f1) x8_4).f1.f3)) ∧ w'.cell? (ad606.add ((x8_4).toNat * 5)) = some (.int .i64 ((rd_T103 ((rd_T90 l0_1 (rd t590 x6_3)).f1.f1) x8_4).f0)) ∧ w'.cell? ⟨(ad606.add ((x8_4).toNat * 5)).block, (ad606.add ((x8_4).toNat * 5)).off + 1, none⟩ = some (.int .i64 ((rd_T103 ((rd_T90 l0_1 (rd t590 x6_3)).f1.f1) x8_4).f1.f0)) ∧ w'.cell? ⟨(ad606.add ((x8_4).toNat * 5)).block, (ad606.add ((x8_4).toNat * 5)).off + 2, none⟩ = some (.int .i64 ((rd_T103 ((rd_T90 l0_1 (rd t590 x6_3)).f1.f1) x8_4).f1.f1)) ∧ w'.cell? ⟨(ad606.add ((x8_4).toNat * 5)).block, (ad606.add ((x8_4).toNat * 5)).off + 3, none⟩ = some (.int .i64 ((rd_T103 ((rd_T90 l0_1 (rd t590 x6_3)).f1.f1) x8_4).f1.f2)) ∧ w'.cell? ⟨(ad606.add ((x8_4).toNat * 5)).block, (ad606.add ((x8_4).toNat * 5)).off + 4, none⟩ = some (.int .i64 ((rd_T103 ((rd_T90 l0_1 (rd t590 x6_3)).f1.f1) x8_4).f1.f3))) (ds := []) #[false, false, false, false, false, false, false, false, false, false, false, false, false, false, false, false, false, false, false, false] (by kernel_rfl) rfl rfl ⟨(blk_cell BK605.out 0).trans rfl, (blk_cell BK605.out 1).trans rfl, (blk_cell BK589.out 0).trans rfl, (blk_cell BK589.out 1).trans rfl, ((HB.out.cell (World.block_lt_of_cell? w _ hw606_0)).trans hw606_0), ((HB.out.cell (World.block_lt_of_cell? w _ hw606_1)).trans hw606_1), ((HB.out.cell (World.block_lt_of_cell? w _ hw606_2)).trans hw606_2), ((HB.out.cell (World.block_lt_of_cell? w _ hw606_3)).trans hw606_3), ((HB.out.cell (World.block_lt_of_cell? w _ hw606_4)).trans hw606_4), ((HB.out.cell (World.block_lt_of_cell? w _ hw608_0)).trans hw608_0), ((HB.out.cell (World.block_lt_of_cell? w _ hw608_1)).trans hw608_1), ((HB.out.cell (World.block_lt_of_cell? w _ hw608_2)).trans hw608_2), ((HB.out.cell (World.block_lt_of_cell? w _ hw608_3)).trans hw608_3), ((HB.out.cell (World.block_lt_of_cell? w _ hw608_4)).trans hw608_4)⟩ (fun hHeld => ?_); refine with_tabW spec_BookOk.tab17 spec_BookOk.bits17 (fun HT_ HW_ => ?_)
                                            generalize wc.drew = w67 at HO_3 BK589 BK605 HB hx606_0 hx606_1 hx606_2 hx606_3 hx606_4 hx608_0 hx608_1 hx608_2 hx608_3 hx608_4 hHeld ⊢
                                            refine pure_ (i := 0) (N := some 100) (v := ?_) (a' := ?_) #[true, false, false, false, false, false, false, false, false, false, false, false, false, false, false, false, false, false, false, false] rfl rfl (any_of HT_.out (by kernel_rfl)) (fun _ _ _ h => h) (Or.inl ⟨by rfl, ?_⟩) ?_ ?_
                                            rotate_left
                                            · intro w'
                                              go_simp
                                              with_reducible rfl
                                            rotate_left
                                            · simp only [Act.put, List.setIfInBounds_toArray, List.set_cons_zero, List.set_cons_succ, i64_w, i32_w]
                                              rfl
                                            refine pure_ (i := 1) (N := some 101) (v := ?_) (a' := ?_) #[true, true, false, false, false, false, false, false, false, false, false, false, false, false, false, false, false, false, false, false] rfl rfl (any_of HT_.out (by kernel_rfl)) (fun _ _ _ h => h) (Or.inl ⟨by rfl, ?_⟩) ?_ ?_
                                            rotate_left
                                            · intro w'
                                              go_simp
                                              with_reducible rfl
                                            rotate_left
                                            · simp only [Act.put, List.setIfInBounds_toArray, List.set_cons_zero, List.set_cons_succ, i64_w, i32_w]
                                              rfl
                                            refine pure_ (i := 3) (N := some 103) (v := ?_) (a' := ?_) #[true, true, false, true, false, false, false, false, false, false, false, false, false, false, false, false, false, false, false, false] rfl rfl (any_of HT_.out (by kernel_rfl)) (fun _ _ _ h => h) (Or.inl ⟨by rfl, ?_⟩) ?_ ?_
                                            rotate_left
                                            · intro w'
                                              go_simp
                                              with_reducible rfl
                                            rotate_left
                                            · simp only [Act.put, List.setIfInBounds_toArray, List.set_cons_zero, List.set_cons_succ, i64_w, i32_w]
                                              rfl
                                            refine take_ (i := 2) (N := some 102) (v := ?_) (a' := ?_) #[true, true, true, true, false, false, false, false, false, false, false, false, false, false, false, false, false, false, false, false] rfl rfl (take_ofW HT_.out HW_.out (by kernel_rfl)) (fun _ _ _ h => h) (Or.inl ⟨by rfl, ?_⟩) hHeld ?_ ?_
                                            rotate_left
                                            · rintro w' ⟨s0, s1, s2, s3, s4, s5, s6, s7, s8, s9, s10, s11, s12, s13⟩
                                              go_simp
                                              with_reducible rfl
                                            rotate_left
                                            · simp only [Act.put, List.setIfInBounds_toArray, List.set_cons_zero, List.set_cons_succ, i64_w, i32_w]
                                              rfl
                                            refine pure_ (i := 4) (N := some 104) (v := ?_) (a' := ?_) #[true, true, true, true, true, false, false, false, false, false, false, false, false, false, false, false, false, false, false, false] rfl rfl (any_of HT_.out (by kernel_rfl)) (fun _ _ _ h => h) (Or.inl ⟨by rfl, ?_⟩) ?_ ?_
                                            rotate_left
                                            · intro w'
                                              go_simp
                                              with_reducible rfl
                                            rotate_left
                                            · simp only [Act.put, List.setIfInBounds_toArray, List.set_cons_zero, List.set_cons_succ, i64_w, i32_w]
                                              rfl
                                            refine pure_ (i := 5) (N := some 105) (v := ?_) (a' := ?_) #[true, true, true, true, true, true, false, false, false, false, false, false, false, false, false, false, false, false, false, false] rfl rfl (any_of HT_.out (by kernel_rfl)) (fun _ _ _ h => h) (Or.inl ⟨by rfl, ?_⟩) ?_ ?_
                                            rotate_left
                                            · intro w'
                                              go_simp
                                              with_reducible rfl
                                            rotate_left
                                            · simp only [Act.put, List.setIfInBounds_toArray, List.set_cons_zero, List.set_cons_succ, i64_w, i32_w]
                                              rfl
                                            refine take_ (i := 6) (N := some 106) (v := ?_) (a' := ?_) #[true, true, true, true, true, true, true, false, false, false, false, false, false, false, false, false, false, false, false, false] rfl rfl (take_ofW HT_.out HW_.out (by kernel_rfl)) (fun _ _ _ h => h) (Or.inl ⟨by rfl, ?_⟩) hHeld ?_ ?_
                                            rotate_left
                                            · rintro w' ⟨s0, s1, s2, s3, s4, s5, s6, s7, s8, s9, s10, s11, s12, s13⟩
                                              go_simp
                                              with_reducible rfl
                                            rotate_left
                                            · simp only [Act.put, List.setIfInBounds_toArray, List.set_cons_zero, List.set_cons_succ, i64_w, i32_w]
                                              rfl
                                            refine one_ (i := 7) (N := some 107) #[true, true, true, true, true, true, true, true, false, false, false, false, false, false, false, false, false, false, false, false] rfl rfl (one_of HT_.out (by kernel_rfl)) (by decide) (fun K hK => ?_)
                                            refine goes_ Try.func87 (by kernel_rfl) rfl #[.slice (some ad603) t590.length co49, .int .i64 ((rd_T103 ((rd_T90 l0_1 (rd t590 x6_3)).f1.f1) x8_4).f0)] (by rfl) rfl rfl (by (try simp only [List.map_toArray, List.map_cons, List.map_nil]); first | done | rfl | (simp only [List.length_drop, List.length_take]; rfl)) ?_
                                            with_reducible refine (spec_l7Has.calls kj53 _ _ t590 ((rd_T103 ((rd_T90 l0_1 (rd t590 x6_3)).f1.f1) x8_4).f0) true _ ?side1 ?side2 A63.out).mono ?_
                                            (case side1 => repeat (first | exact (Kd.R_reads' HO_3.out).2.2 | (with_reducible refine Kd.C_alloc ?_ _) | (with_reducible refine Kd.C_drewN ?_ _) | (with_reducible refine Kd.C_drew ?_)))
                                            (case side2 => exact (Kd.R_reads' HO_3.out).2.1)
                                            rintro e w' ⟨rfl, ⟨nd, rfl⟩⟩
                                            refine ⟨_, rfl, ?_⟩
                                            refine hK.out _ _ ⟨(blk_cell BK605.out 0).trans rfl, (blk_cell BK605.out 1).trans rfl, (blk_cell BK589.out 0).trans rfl, (blk_cell BK589.out 1).trans rfl, ((HB.out.cell (World.block_lt_of_cell? w _ hw606_0)).trans hw606_0), ((HB.out.cell (World.block_lt_of_cell? w _ hw606_1)).trans hw606_1), ((HB.out.cell (World.block_lt_of_cell? w _ hw606_2)).trans hw606_2), ((HB.out.cell (World.block_lt_of_cell? w _ hw606_3)).trans hw606_3), ((HB.out.cell (World.block_lt_of_cell? w _ hw606_4)).trans hw606_4), ((HB.out.cell (World.block_lt_of_cell? w _ hw608_0)).trans hw608_0), ((HB.out.cell (World.block_lt_of_cell? w _ hw608_1)).trans hw608_1), ((HB.out.cell (World.block_lt_of_cell? w _ hw608_2)).trans hw608_2), ((HB.out.cell (World.block_lt_of_cell? w _ hw608_3)).trans hw608_3), ((HB.out.cell (World.block_lt_of_cell? w _ hw608_4)).trans hw608_4)⟩ (fun hHeld => ?_)
                                            clear hK K
                                            refine norm_ (a' := ?_) ?_ ?_
                                            rotate_left
                                            · show Act.put _ (some 107) _ = _
                                              simp only [Act.put, List.setIfInBounds_toArray, List.set_cons_zero, List.set_cons_succ, i64_w, i32_w]
                                              rfl
                                            refine pure_ (i := 8) (N := some 108) (v := ?_) (a' := ?_) #[true, true, true, true, true, true, true, true, true, false, false, false, false, false, false, false, false, false, false, false] rfl rfl (any_of HT_.out (by kernel_rfl)) (fun _ _ _ h => h) (Or.inl ⟨by rfl, ?_⟩) ?_ ?_
                                            rotate_left
                                            · intro w'
                                              go_simp
                                              with_reducible rfl
                                            rotate_left
                                            · simp only [Act.put, List.setIfInBounds_toArray, List.set_cons_zero, List.set_cons_succ, i64_w, i32_w]
                                              rfl
                                            refine pure_ (i := 9) (N := some 109) (v := ?_) (a' := ?_) #[true, true, true, true, true, true, true, true, true, true, false, false, false, false, false, false, false, false, false, false] rfl rfl (any_of HT_.out (by kernel_rfl)) (fun _ _ _ h => h) (Or.inl ⟨by rfl, ?_⟩) ?_ ?_
                                            rotate_left
                                            · intro w'
                                              go_simp
                                              with_reducible rfl
                                            rotate_left
                                            · simp only [Act.put, List.setIfInBounds_toArray, List.set_cons_zero, List.set_cons_succ, i64_w, i32_w]
                                              rfl
                                            refine pure_ (i := 10) (N := some 110) (v := ?_) (a' := ?_) #[true, true, true, true, true, true, true, true, true, true, true, false, false, false, false, false, false, false, false, false] rfl rfl (any_of HT_.out (by kernel_rfl)) (fun _ _ _ h => h) (Or.inl ⟨by rfl, ?_⟩) ?_ ?_
                                            rotate_left
                                            · intro w'
                                              go_simp
                                              with_reducible rfl
                                            rotate_left
                                            · simp only [Act.put, List.setIfInBounds_toArray, List.set_cons_zero, List.set_cons_succ, i64_w, i32_w]
                                              rfl
                                            refine pure_ (i := 12) (N := some 112) (v := ?_) (a' := ?_) #[true, true, true, true, true, true, true, true, true, true, true, false, true, false, false, false, false, false, false, false] rfl rfl (any_of HT_.out (by kernel_rfl)) (fun _ _ _ h => h) (Or.inl ⟨by rfl, ?_⟩) ?_ ?_
                                            rotate_left
                                            · intro w'
                                              go_simp
                                              with_reducible rfl
                                            rotate_left
                                            · simp only [Act.put, List.setIfInBounds_toArray, List.set_cons_zero, List.set_cons_succ, i64_w, i32_w]
                                              rfl
                                            refine pure_ (i := 16) (N := some 116) (v := ?_) (a' := ?_) #[true, true, true, true, true, true, true, true, true, true, true, false, true, false, false, false, true, false, false, false] rfl rfl (any_of HT_.out (by kernel_rfl)) (fun _ _ _ h => h) (Or.inl ⟨by rfl, ?_⟩) ?_ ?_
                                            rotate_left
                                            · intro w'
                                              go_simp
                                              with_reducible rfl
                                            rotate_left
                                            · simp only [Act.put, List.setIfInBounds_toArray, List.set_cons_zero, List.set_cons_succ, i64_w, i32_w]
                                              rfl
                                            refine take_ (i := 11) (N := some 111) (v := ?_) (a' := ?_) #[true, true, true, true, true, true, true, true, true, true, true, true, true, false, false, false, true, false, false, false] rfl rfl (take_ofW HT_.out HW_.out (by kernel_rfl)) (fun _ _ _ h => h) (Or.inl ⟨by rfl, ?_⟩) hHeld ?_ ?_
                                            rotate_left
                                            · rintro w' ⟨s0, s1, s2, s3, s4, s5, s6, s7, s8, s9, s10, s11, s12, s13⟩
                                              go_simp
                                              with_reducible rfl
                                            rotate_left
                                            · simp only [Act.put, List.setIfInBounds_toArray, List.set_cons_zero, List.set_cons_succ, i64_w, i32_w]
                                              rfl
                                            refine pure_ (i := 13) (N := some 113) (v := ?_) (a' := ?_) #[true, true, true, true, true, true, true, true, true, true, true, true, true, true, false, false, true, false, false, false] rfl rfl (any_of HT_.out (by kernel_rfl)) (fun _ _ _ h => h) (Or.inl ⟨by rfl, ?_⟩) ?_ ?_
                                            rotate_left
                                            · intro w'
                                              go_simp
                                              with_reducible rfl
                                            rotate_left
                                            · simp only [Act.put, List.setIfInBounds_toArray, List.set_cons_zero, List.set_cons_succ, i64_w, i32_w]
                                              rfl
                                            refine pure_ (i := 14) (N := some 114) (v := ?_) (a' := ?_) #[true, true, true, true, true, true, true, true, true, true, true, true, true, true, true, false, true, false, false, false] rfl rfl (any_of HT_.out (by kernel_rfl)) (fun _ _ _ h => h) (Or.inl ⟨by rfl, ?_⟩) ?_ ?_
                                            rotate_left
                                            · intro w'
                                              go_simp
                                              with_reducible rfl
                                            rotate_left
                                            · simp only [Act.put, List.setIfInBounds_toArray, List.set_cons_zero, List.set_cons_succ, i64_w, i32_w]
                                              rfl
                                            refine take_ (i := 15) (N := some 115) (v := ?_) (a' := ?_) #[true, true, true, true, true, true, true, true, true, true, true, true, true, true, true, true, true, false, false, false] rfl rfl (take_ofW HT_.out HW_.out (by kernel_rfl)) (fun _ _ _ h => h) (Or.inl ⟨by rfl, ?_⟩) hHeld ?_ ?_
                                            rotate_left
                                            · rintro w' ⟨s0, s1, s2, s3, s4, s5, s6, s7, s8, s9, s10, s11, s12, s13⟩
                                              go_simp
                                              with_reducible rfl
                                            rotate_left
                                            · simp only [Act.put, List.setIfInBounds_toArray, List.set_cons_zero, List.set_cons_succ, i64_w, i32_w]
                                              rfl
                                            refine take_ (i := 17) (N := some 117) (v := ?_) (a' := ?_) #[true, true, true, true, true, true, true, true, true, true, true, true, true, true, true, true, true, true, false, false] rfl rfl (take_ofW HT_.out HW_.out (by kernel_rfl)) (fun _ _ _ h => h) (Or.inl ⟨by rfl, ?_⟩) hHeld ?_ ?_
                                            rotate_left
                                            · rintro w' ⟨s0, s1, s2, s3, s4, s5, s6, s7, s8, s9, s10, s11, s12, s13⟩
                                              go_simp
                                              with_reducible rfl
                                            rotate_left
                                            · simp only [Act.put, List.setIfInBounds_toArray, List.set_cons_zero, List.set_cons_succ, i64_w, i32_w]
                                              rfl
                                            refine pure_ (i := 18) (N := some 118) (v := ?_) (a' := ?_) #[true, true, true, true, true, true, true, true, true, true, true, true, true, true, true, true, true, true, true, false] rfl rfl (any_of HT_.out (by kernel_rfl)) (fun _ _ _ h => h) (Or.inl ⟨by rfl, ?_⟩) ?_ ?_
                                            rotate_left
                                            · intro w'
                                              go_simp
                                              with_reducible rfl
                                            rotate_left
                                            · simp only [Act.put, List.setIfInBounds_toArray, List.set_cons_zero, List.set_cons_succ, i64_w, i32_w]
                                              rfl
                                            refine pure_ (i := 19) (N := some 119) (v := ?_) (a' := ?_) #[true, true, true, true, true, true, true, true, true, true, true, true, true, true, true, true, true, true, true, true] rfl rfl (any_of HT_.out (by kernel_rfl)) (fun _ _ _ h => h) (Or.inl ⟨by rfl, ?_⟩) ?_ ?_
                                            rotate_left
                                            · intro w'
                                              go_simp
                                              with_reducible rfl
                                            rotate_left
                                            · simp only [Act.put, List.setIfInBounds_toArray, List.set_cons_zero, List.set_cons_succ, i64_w, i32_w]
                                              rfl
                                            refine done_ (done_of HT_.out (by kernel_rfl)) ?_
                                            try go_wp2
                                            go_roundg kj53
                                            case measure => have := HJ2.out; have := HK2.out; have := HK3.out; have := HK4.out; have := HJ53.out; omega
                                            case rel => exact ⟨(wrap64 (x5_4 + 1)), (wrap64 (x8_4 + 1)), (by first | rfl | (simp; done) | (simp [*]; done)), (by first | rfl | (simp; done) | (simp [*]; done)), H', ⟨by have := HJ2.out; have := HK2.out; have := HK3.out; have := HK4.out; have := HJ53.out; omega⟩, ⟨by (with_reducible repeat (first | apply Kd.R_alloc | apply Kd.R_drewN | apply Kd.R_drew)); exact HO_3.out⟩, ⟨by (with_reducible repeat (first | refine blk_drewN ?_ _ | refine blk_drew ?_ | refine blk_alloc ?_ _)); exact BK589.out⟩, ⟨by (with_reducible repeat (first | refine blk_drewN ?_ _ | refine blk_drew ?_ | refine blk_alloc ?_ _)); exact BK605.out⟩, ⟨by repeat (first | (with_reducible first | exact HB.out | apply below_alloc | apply pw_below_drewN | apply below_drew1 | refine below_set ?_ GE589.out | refine below_set ?_ GE605.out) | exact HB.out)⟩⟩
                                        · replace c64 := Bool.eq_false_iff.mpr c64
                                          subst c64
                                          have H1 : (some false) = some r := by rw [if_neg (show ¬ (false = true) by decide)] at H; exact H
                                          clear H
                                          have H := H1
                                          clear H1
                                          obtain rfl := Option.some.inj H
                                          try go_wp2
                                          have n0_ := Aside0.mk (Kd.R_drew HO_3.out)
                                          have n1_ := Aside0.mk (blk_drew BK589.out)
                                          have n2_ := Aside0.mk (blk_drew BK605.out)
                                          have n3_ := Aside0.mk (below_drew1 HB.out)
                                          clear HO_3
                                          clear BK589
                                          clear BK605
                                          clear HB
                                          have HO_3 := n0_
                                          have BK589 := n1_
                                          have BK605 := n2_
                                          have HB := n3_
                                          clear n0_ n1_ n2_ n3_
                                          have p606 : 0 ≤ (x8_4 : Int) := of_decide_eq_true (by first | (with_reducible assumption) | assumption)
                                          have q606 : x8_4 < (((rd_T90 l0_1 (rd t590 x6_3)).f1.f1).length : Int) := of_decide_eq_true (by first | (with_reducible assumption) | assumption)
                                          obtain ⟨ad606, e606, hx606_0, hx606_1, hx606_2, hx606_3, hx606_4⟩ := at_T103 HR604_2.out x8_4 p606 q606
                                          have hw606_4 := hx606_4
                                          have hw606_3 := hx606_3
                                          have hw606_2 := hx606_2
                                          have hw606_1 := hx606_1
                                          have hw606_0 := hx606_0
                                          cases e606
                                          replace hx606_0 := (HB.out.cell (World.block_lt_of_cell? w _ hx606_0)).trans hx606_0
                                          replace hx606_1 := (HB.out.cell (World.block_lt_of_cell? w _ hx606_1)).trans hx606_1
                                          replace hx606_2 := (HB.out.cell (World.block_lt_of_cell? w _ hx606_2)).trans hx606_2
                                          replace hx606_3 := (HB.out.cell (World.block_lt_of_cell? w _ hx606_3)).trans hx606_3
                                          replace hx606_4 := (HB.out.cell (World.block_lt_of_cell? w _ hx606_4)).trans hx606_4
                                          replace p606 := eq_true p606
                                          replace q606 := eq_true q606
                                          refine start_ (n := 20) (S := fun w' => w'.cell? ⟨gb605, 0, none⟩ = some (.bool ((rd_T90 l0_1 (rd t590 x6_3)).f1.f0)) ∧ w'.cell? ⟨gb605, 1, none⟩ = some (.slice (some ad606) ((rd_T90 l0_1 (rd t590 x6_3)).f1.f1).length c604_2) ∧ w'.cell? (ad606.add ((x8_4).toNat * 5)) = some (.int .i64 ((rd_T103 ((rd_T90 l0_1 (rd t590 x6_3)).f1.f1) x8_4).f0)) ∧ w'.cell? ⟨(ad606.add ((x8_4).toNat * 5)).block, (ad606.add ((x8_4).toNat * 5)).off + 1, none⟩ = some (.int .i64 ((rd_T103 ((rd_T90 l0_1 (rd t590 x6_3)).f1.f1) x8_4).f1.f0)) ∧ w'.cell? ⟨(ad606.add ((x8_4).toNat * 5)).block, (ad606.add ((x8_4).toNat * 5)).off + 2, none⟩ = some (.int .i64 ((rd_T103 ((rd_T90 l0_1 (rd t590 x6_3)).f1.f1) x8_4).f1.f1)) ∧ w'.cell? ⟨(ad606.add ((x8_4).toNat * 5)).block, (ad606.add ((x8_4).toNat * 5)).off + 3, none⟩ = some (.int .i64 ((rd_T103 ((rd_T90 l0_1 (rd t590 x6_3)).f1.f1) x8_4).f1.f2)) ∧ w'.cell? ⟨(ad606.add ((x8_4).toNat * 5)).block, (ad606.add ((x8_4).toNat * 5)).off + 4, none⟩ = some (.int .i64 ((rd_T103 ((rd_T90 l0_1 (rd t590 x6_3)).f1.f1) x8_4).f1.f3))) (ds := []) #[false, false, false, false, false, false, false, false, false, false, false, false, false, false, false, false, false, false, false, false] (by kernel_rfl) rfl rfl ⟨(blk_cell BK605.out 0).trans rfl, (blk_cell BK605.out 1).trans rfl, ((HB.out.cell (World.block_lt_of_cell? w _ hw606_0)).trans hw606_0), ((HB.out.cell (World.block_lt_of_cell? w _ hw606_1)).trans hw606_1), ((HB.out.cell (World.block_lt_of_cell? w _ hw606_2)).trans hw606_2), ((HB.out.cell (World.block_lt_of_cell? w _ hw606_3)).trans hw606_3), ((HB.out.cell (World.block_lt_of_cell? w _ hw606_4)).trans hw606_4)⟩ (fun hHeld => ?_); refine with_tabW spec_BookOk.tab17 spec_BookOk.bits17 (fun HT_ HW_ => ?_)
                                          generalize wc.drew = w68 at HO_3 BK589 BK605 HB hx606_0 hx606_1 hx606_2 hx606_3 hx606_4 hHeld ⊢
                                          refine pure_ (i := 0) (N := some 100) (v := ?_) (a' := ?_) #[true, false, false, false, false, false, false, false, false, false, false, false, false, false, false, false, false, false, false, false] rfl rfl (any_of HT_.out (by kernel_rfl)) (fun _ _ _ h => h) (Or.inl ⟨by rfl, ?_⟩) ?_ ?_
                                          rotate_left
                                          · intro w'
                                            go_simp
                                            with_reducible rfl
                                          rotate_left
                                          · simp only [Act.put, List.setIfInBounds_toArray, List.set_cons_zero, List.set_cons_succ, i64_w, i32_w]
                                            rfl
                                          refine pure_ (i := 1) (N := some 101) (v := ?_) (a' := ?_) #[true, true, false, false, false, false, false, false, false, false, false, false, false, false, false, false, false, false, false, false] rfl rfl (any_of HT_.out (by kernel_rfl)) (fun _ _ _ h => h) (Or.inl ⟨by rfl, ?_⟩) ?_ ?_
                                          rotate_left
                                          · intro w'
                                            go_simp
                                            with_reducible rfl
                                          rotate_left
                                          · simp only [Act.put, List.setIfInBounds_toArray, List.set_cons_zero, List.set_cons_succ, i64_w, i32_w]
                                            rfl
                                          refine pure_ (i := 3) (N := some 103) (v := ?_) (a' := ?_) #[true, true, false, true, false, false, false, false, false, false, false, false, false, false, false, false, false, false, false, false] rfl rfl (any_of HT_.out (by kernel_rfl)) (fun _ _ _ h => h) (Or.inl ⟨by rfl, ?_⟩) ?_ ?_
                                          rotate_left
                                          · intro w'
                                            go_simp
                                            with_reducible rfl
                                          rotate_left
                                          · simp only [Act.put, List.setIfInBounds_toArray, List.set_cons_zero, List.set_cons_succ, i64_w, i32_w]
                                            rfl
                                          refine take_ (i := 2) (N := some 102) (v := ?_) (a' := ?_) #[true, true, true, true, false, false, false, false, false, false, false, false, false, false, false, false, false, false, false, false] rfl rfl (take_ofW HT_.out HW_.out (by kernel_rfl)) (fun _ _ _ h => h) (Or.inl ⟨by rfl, ?_⟩) hHeld ?_ ?_
                                          rotate_left
                                          · rintro w' ⟨s0, s1, s2, s3, s4, s5, s6⟩
                                            go_simp
                                            with_reducible rfl
                                          rotate_left
                                          · simp only [Act.put, List.setIfInBounds_toArray, List.set_cons_zero, List.set_cons_succ, i64_w, i32_w]
                                            rfl
                                          refine pure_ (i := 4) (N := some 104) (v := ?_) (a' := ?_) #[true, true, true, true, true, false, false, false, false, false, false, false, false, false, false, false, false, false, false, false] rfl rfl (any_of HT_.out (by kernel_rfl)) (fun _ _ _ h => h) (Or.inl ⟨by rfl, ?_⟩) ?_ ?_
                                          rotate_left
                                          · intro w'
                                            go_simp
                                            with_reducible rfl
                                          rotate_left
                                          · simp only [Act.put, List.setIfInBounds_toArray, List.set_cons_zero, List.set_cons_succ, i64_w, i32_w]
                                            rfl
                                          refine pure_ (i := 5) (N := some 105) (v := ?_) (a' := ?_) #[true, true, true, true, true, true, false, false, false, false, false, false, false, false, false, false, false, false, false, false] rfl rfl (any_of HT_.out (by kernel_rfl)) (fun _ _ _ h => h) (Or.inl ⟨by rfl, ?_⟩) ?_ ?_
                                          rotate_left
                                          · intro w'
                                            go_simp
                                            with_reducible rfl
                                          rotate_left
                                          · simp only [Act.put, List.setIfInBounds_toArray, List.set_cons_zero, List.set_cons_succ, i64_w, i32_w]
                                            rfl
                                          refine take_ (i := 6) (N := some 106) (v := ?_) (a' := ?_) #[true, true, true, true, true, true, true, false, false, false, false, false, false, false, false, false, false, false, false, false] rfl rfl (take_ofW HT_.out HW_.out (by kernel_rfl)) (fun _ _ _ h => h) (Or.inl ⟨by rfl, ?_⟩) hHeld ?_ ?_
                                          rotate_left
                                          · rintro w' ⟨s0, s1, s2, s3, s4, s5, s6⟩
                                            go_simp
                                            with_reducible rfl
                                          rotate_left
                                          · simp only [Act.put, List.setIfInBounds_toArray, List.set_cons_zero, List.set_cons_succ, i64_w, i32_w]
                                            rfl
                                          refine one_ (i := 7) (N := some 107) #[true, true, true, true, true, true, true, true, false, false, false, false, false, false, false, false, false, false, false, false] rfl rfl (one_of HT_.out (by kernel_rfl)) (by decide) (fun K hK => ?_)
                                          refine goes_ Try.func87 (by kernel_rfl) rfl #[.slice (some ad603) t590.length co49, .int .i64 ((rd_T103 ((rd_T90 l0_1 (rd t590 x6_3)).f1.f1) x8_4).f0)] (by rfl) rfl rfl (by (try simp only [List.map_toArray, List.map_cons, List.map_nil]); first | done | rfl | (simp only [List.length_drop, List.length_take]; rfl)) ?_
                                          with_reducible refine (spec_l7Has.calls kj53 _ _ t590 ((rd_T103 ((rd_T90 l0_1 (rd t590 x6_3)).f1.f1) x8_4).f0) false _ ?side1 ?side2 A63.out).mono ?_
                                          (case side1 => repeat (first | exact (Kd.R_reads' HO_3.out).2.2 | (with_reducible refine Kd.C_alloc ?_ _) | (with_reducible refine Kd.C_drewN ?_ _) | (with_reducible refine Kd.C_drew ?_)))
                                          (case side2 => exact (Kd.R_reads' HO_3.out).2.1)
                                          rintro e w' ⟨rfl, ⟨nd, rfl⟩⟩
                                          refine ⟨_, rfl, ?_⟩
                                          refine hK.out _ _ ⟨(blk_cell BK605.out 0).trans rfl, (blk_cell BK605.out 1).trans rfl, ((HB.out.cell (World.block_lt_of_cell? w _ hw606_0)).trans hw606_0), ((HB.out.cell (World.block_lt_of_cell? w _ hw606_1)).trans hw606_1), ((HB.out.cell (World.block_lt_of_cell? w _ hw606_2)).trans hw606_2), ((HB.out.cell (World.block_lt_of_cell? w _ hw606_3)).trans hw606_3), ((HB.out.cell (World.block_lt_of_cell? w _ hw606_4)).trans hw606_4)⟩ (fun hHeld => ?_)
                                          clear hK K
                                          refine norm_ (a' := ?_) ?_ ?_
                                          rotate_left
                                          · show Act.put _ (some 107) _ = _
                                            simp only [Act.put, List.setIfInBounds_toArray, List.set_cons_zero, List.set_cons_succ, i64_w, i32_w]
                                            rfl
                                          refine pure_ (i := 8) (N := some 108) (v := ?_) (a' := ?_) #[true, true, true, true, true, true, true, true, true, false, false, false, false, false, false, false, false, false, false, false] rfl rfl (any_of HT_.out (by kernel_rfl)) (fun _ _ _ h => h) (Or.inl ⟨by rfl, ?_⟩) ?_ ?_
                                          rotate_left
                                          · intro w'
                                            go_simp
                                            with_reducible rfl
                                          rotate_left
                                          · simp only [Act.put, List.setIfInBounds_toArray, List.set_cons_zero, List.set_cons_succ, i64_w, i32_w]
                                            rfl
                                          refine pure_ (i := 9) (N := some 109) (v := ?_) (a' := ?_) #[true, true, true, true, true, true, true, true, true, true, false, false, false, false, false, false, false, false, false, false] rfl rfl (any_of HT_.out (by kernel_rfl)) (fun _ _ _ h => h) (Or.inl ⟨by rfl, ?_⟩) ?_ ?_
                                          rotate_left
                                          · intro w'
                                            go_simp
                                            with_reducible rfl
                                          rotate_left
                                          · simp only [Act.put, List.setIfInBounds_toArray, List.set_cons_zero, List.set_cons_succ, i64_w, i32_w]
                                            rfl
                                          refine pure_ (i := 10) (N := some 110) (v := undef) (a' := ?_) #[true, true, true, true, true, true, true, true, true, true, true, false, false, false, false, false, false, false, false, false] rfl rfl (any_of HT_.out (by kernel_rfl)) (fun _ _ _ h => h) (Or.inr ⟨by rfl, rfl⟩) ?_ ?_
                                          rotate_left
                                          · simp only [Act.put, List.setIfInBounds_toArray, List.set_cons_zero, List.set_cons_succ, i64_w, i32_w]
                                            rfl
                                          refine pure_ (i := 11) (N := some 111) (v := undef) (a' := ?_) #[true, true, true, true, true, true, true, true, true, true, true, true, false, false, false, false, false, false, false, false] rfl rfl (any_of HT_.out (by kernel_rfl)) (fun _ _ _ h => h) (Or.inr ⟨by rfl, rfl⟩) ?_ ?_
                                          rotate_left
                                          · simp only [Act.put, List.setIfInBounds_toArray, List.set_cons_zero, List.set_cons_succ, i64_w, i32_w]
                                            rfl
                                          refine pure_ (i := 12) (N := some 112) (v := undef) (a' := ?_) #[true, true, true, true, true, true, true, true, true, true, true, true, true, false, false, false, false, false, false, false] rfl rfl (any_of HT_.out (by kernel_rfl)) (fun _ _ _ h => h) (Or.inr ⟨by rfl, rfl⟩) ?_ ?_
                                          rotate_left
                                          · simp only [Act.put, List.setIfInBounds_toArray, List.set_cons_zero, List.set_cons_succ, i64_w, i32_w]
                                            rfl
                                          refine pure_ (i := 13) (N := some 113) (v := undef) (a' := ?_) #[true, true, true, true, true, true, true, true, true, true, true, true, true, true, false, false, false, false, false, false] rfl rfl (any_of HT_.out (by kernel_rfl)) (fun _ _ _ h => h) (Or.inr ⟨by rfl, rfl⟩) ?_ ?_
                                          rotate_left
                                          · simp only [Act.put, List.setIfInBounds_toArray, List.set_cons_zero, List.set_cons_succ, i64_w, i32_w]
                                            rfl
                                          refine pure_ (i := 14) (N := some 114) (v := undef) (a' := ?_) #[true, true, true, true, true, true, true, true, true, true, true, true, true, true, true, false, false, false, false, false] rfl rfl (any_of HT_.out (by kernel_rfl)) (fun _ _ _ h => h) (Or.inr ⟨by rfl, rfl⟩) ?_ ?_
                                          rotate_left
                                          · simp only [Act.put, List.setIfInBounds_toArray, List.set_cons_zero, List.set_cons_succ, i64_w, i32_w]
                                            rfl
                                          refine pure_ (i := 15) (N := some 115) (v := undef) (a' := ?_) #[true, true, true, true, true, true, true, true, true, true, true, true, true, true, true, true, false, false, false, false] rfl rfl (any_of HT_.out (by kernel_rfl)) (fun _ _ _ h => h) (Or.inr ⟨by rfl, rfl⟩) ?_ ?_
                                          rotate_left
                                          · simp only [Act.put, List.setIfInBounds_toArray, List.set_cons_zero, List.set_cons_succ, i64_w, i32_w]
                                            rfl
                                          refine pure_ (i := 16) (N := some 116) (v := undef) (a' := ?_) #[true, true, true, true, true, true, true, true, true, true, true, true, true, true, true, true, true, false, false, false] rfl rfl (any_of HT_.out (by kernel_rfl)) (fun _ _ _ h => h) (Or.inr ⟨by rfl, rfl⟩) ?_ ?_
                                          rotate_left
                                          · simp only [Act.put, List.setIfInBounds_toArray, List.set_cons_zero, List.set_cons_succ, i64_w, i32_w]
                                            rfl
                                          refine pure_ (i := 17) (N := some 117) (v := undef) (a' := ?_) #[true, true, true, true, true, true, true, true, true, true, true, true, true, true, true, true, true, true, false, false] rfl rfl (any_of HT_.out (by kernel_rfl)) (fun _ _ _ h => h) (Or.inr ⟨by rfl, rfl⟩) ?_ ?_
                                          rotate_left
                                          · simp only [Act.put, List.setIfInBounds_toArray, List.set_cons_zero, List.set_cons_succ, i64_w, i32_w]
                                            rfl
                                          refine pure_ (i := 18) (N := some 118) (v := undef) (a' := ?_) #[true, true, true, true, true, true, true, true, true, true, true, true, true, true, true, true, true, true, true, false] rfl rfl (any_of HT_.out (by kernel_rfl)) (fun _ _ _ h => h) (Or.inr ⟨by rfl, rfl⟩) ?_ ?_
                                          rotate_left
                                          · simp only [Act.put, List.setIfInBounds_toArray, List.set_cons_zero, List.set_cons_succ, i64_w, i32_w]
                                            rfl
                                          refine pure_ (i := 19) (N := some 119) (v := ?_) (a' := ?_) #[true, true, true, true, true, true, true, true, true, true, true, true, true, true, true, true, true, true, true, true] rfl rfl (any_of HT_.out (by kernel_rfl)) (fun _ _ _ h => h) (Or.inl ⟨by rfl, ?_⟩) ?_ ?_
                                          rotate_left
                                          · intro w'
                                            go_simp
                                            with_reducible rfl
                                          rotate_left
                                          · simp only [Act.put, List.setIfInBounds_toArray, List.set_cons_zero, List.set_cons_succ, i64_w, i32_w]
                                            rfl
                                          refine done_ (done_of HT_.out (by kernel_rfl)) ?_
                                          try go_wp2
                                          go_ret
                                          exact ⟨by first | rfl | (simp [errW_none, errW_some] <;> rfl) | (simp [*, errW_none, errW_some] <;> rfl), by repeat (first | (with_reducible first | exact HB.out | apply below_alloc | apply pw_below_drewN | apply below_drew1 | refine below_set ?_ GE589.out | refine below_set ?_ GE605.out) | exact HB.out)⟩
                                      · rw [if_neg c62] at H
                                        exact absurd H (by simp)
                                    · rw [if_neg c61] at H
                                      exact absurd H (by simp)
                                  · replace c60 := Bool.eq_false_iff.mpr c60
                                    subst c60
                                    have H1 : (spec_BookOk.l1 kj53 t590 x5_4 (wrap64 (x6_3 + 1)) a0_0 l0_1) = some r := by rw [if_neg (show ¬ (false = true) by decide)] at H; exact H
                                    clear H
                                    have H := H1
                                    clear H1
                                    have H' := Aside0.mk H
                                    clear H
                                    go_wp2
                                    go_roundg kj53
                                    case measure => have := HJ2.out; have := HK2.out; have := HK3.out; have := HK4.out; have := HJ53.out; omega
                                    case rel => exact ⟨(x5_4), (wrap64 (x6_3 + 1)), (by first | rfl | (simp; done) | (simp [*]; done)), (by first | rfl | (simp; done) | (simp [*]; done)), H', ⟨by have := HJ2.out; have := HK2.out; have := HK3.out; have := HK4.out; have := HJ53.out; omega⟩, ⟨by (with_reducible repeat (first | apply Kd.R_alloc | apply Kd.R_drewN | apply Kd.R_drew)); exact HO_3.out⟩, ⟨by (with_reducible repeat (first | refine blk_drewN ?_ _ | refine blk_drew ?_ | refine blk_alloc ?_ _)); exact BK589.out⟩, ⟨by repeat (first | (with_reducible first | exact HB.out | apply below_alloc | apply pw_below_drewN | apply below_drew1 | refine below_set ?_ GE589.out | refine below_set ?_ GE605.out) | exact HB.out)⟩⟩
                        · rw [if_neg c48] at H
                          exact absurd H (by simp)
                      · rw [if_neg c47] at H
                        exact absurd H (by simp)
                    · rw [if_neg c46] at H
                      exact absurd H (by simp)
                  · rw [if_neg c45] at H
                    have c45b0 : decide (x6_3 < (t590.length : Int)) = false := decide_eq_false c45
                    clear c45
                    obtain rfl := Option.some.inj H
                    obtain ⟨Ao69, co69, eo69⟩ := Kd.R_slice HO_3.out
                    subst eo69
                    go_wp2
                    go_ret
                    exact ⟨by first | rfl | (simp [errW_none, errW_some] <;> rfl) | (simp [*, errW_none, errW_some] <;> rfl), by repeat (first | (with_reducible first | exact HB.out | apply below_alloc | apply pw_below_drewN | apply below_drew1 | refine below_set ?_ GE589.out) | exact HB.out)⟩

end Go.Proofs.Ytngjaajcdbodeaa.All

namespace Go.Proofs.Ytngjaajcdbodeaa.All
open Go.RowKit Go.Proofs.YtngjaajcdbodeaaW.PrintWords Go.Proofs.YtngjaajcdbodeaaW.PrintLast Go.Proofs.YtngjaajcdbodeaaW.PrintMore
attribute [local go_sem] max2_int min2_int max_two min_two max_three min_three max_four min_four   -- for this text's walks alone
set_option linter.unusedVariables false
set_option linter.unusedSimpArgs false

/-! ### spec_l12Path: function 101 -/
mutual
def spec_l12Path.l0 : Nat → Int → Int → Int → Int → List (S90) → Bool → List (S103) → Option (List Int)
  | 0, _, _, _, _, _, _, _ => none
  | k + 1, x1, x2, x8, x880000, x880001, x882000, x882001 => if x8 < (x882001.length : Int) then (if 0 ≤ x8 then ((spec_l12Path.f k x880000 x880001 ((rd_T103 x882001 x8).f0) x2).bind fun t890 => (if (t890.length : Int) > 0 then ((some (([x1] : List Int) : List Int)).bind fun y893 => (if y893.length + t890.length < 17592186044416 then (some (y893 ++ t890)) else (none))) else (spec_l12Path.l0 k x1 x2 (wrap64 (x8 + 1)) x880000 x880001 x882000 x882001))) else (none)) else (some (([] : List Int)))
def spec_l12Path.f : Nat → Int → List (S90) → Int → Int → Option (List Int)
  | 0, _, _, _, _ => none
  | k + 1, a0_0, l0_1, a1, a2 => if 0 ≤ a1 then (if a1 < (l0_1.length : Int) then (if (rd_T90 l0_1 a1).f1.f0 = true then ((spec_EntryAt.f k ((rd_T90 l0_1 a1).f1.f1) a2).bind fun t882 => (if t882 < 0 then (some (([] : List Int))) else (some (([a1] : List Int))))) else (spec_l12Path.l0 k a1 a2 0 a0_0 l0_1 ((rd_T90 l0_1 a1).f1.f0) ((rd_T90 l0_1 a1).f1.f1))) else (none)) else (none)
end
theorem spec_l12Path.mono_l : ∀ k, (∀ y0 y1 y2 y3, LeO (spec_l12Path.f k y0 y1 y2 y3) (spec_l12Path.f (k + 1) y0 y1 y2 y3)) ∧ (∀ y0 y1 y2 y3 y4 y5 y6, LeO (spec_l12Path.l0 k y0 y1 y2 y3 y4 y5 y6) (spec_l12Path.l0 (k + 1) y0 y1 y2 y3 y4 y5 y6))
  | 0 => ⟨fun _ _ _ _ r h => by simp [spec_l12Path.f] at h, fun _ _ _ _ _ _ _ r h => by simp [spec_l12Path.l0] at h⟩
  | k + 1 => by
    obtain ⟨ih0, ih1⟩ := spec_l12Path.mono_l k
    refine ⟨?_, ?_⟩
    · intro y0 y1 y2 y3
      unfold spec_l12Path.f
      repeat' first
      | (with_reducible exact ih0 _ _ _ _)
      | (with_reducible exact ih1 _ _ _ _ _ _ _)
      | (with_reducible exact spec_EntryAt.mono _ _ _)
      | (with_reducible exact LeO.refl _)
      | (with_reducible exact LeO.none _)
      | (with_reducible refine LeO.ite ?_ ?_)
      | (with_reducible refine LeO.bind ?_ (fun _ => ?_))
      | exact ih0 _ _ _ _
      | exact ih1 _ _ _ _ _ _ _
      | exact spec_EntryAt.mono _ _ _
      | exact LeO.none _
      | refine LeO.ite ?_ ?_
      | refine LeO.bind ?_ (fun _ => ?_)
    · intro y0 y1 y2 y3 y4 y5 y6
      unfold spec_l12Path.l0
      repeat' first
      | (with_reducible exact ih0 _ _ _ _)
      | (with_reducible exact ih1 _ _ _ _ _ _ _)
      | (with_reducible exact spec_EntryAt.mono _ _ _)
      | (with_reducible exact LeO.refl _)
      | (with_reducible exact LeO.none _)
      | (with_reducible refine LeO.ite ?_ ?_)
      | (with_reducible refine LeO.bind ?_ (fun _ => ?_))
      | exact ih0 _ _ _ _
      | exact ih1 _ _ _ _ _ _ _
      | exact spec_EntryAt.mono _ _ _
      | exact LeO.none _
      | refine LeO.ite ?_ ?_
      | refine LeO.bind ?_ (fun _ => ?_)
theorem spec_l12Path.mono : ∀ a0 a1 a2 a3 k, LeO (spec_l12Path.f k a0 a1 a2 a3) (spec_l12Path.f (k + 1) a0 a1 a2 a3) := by
  intro a0 a1 a2 a3 k
  obtain ⟨ih0, ih1⟩ := spec_l12Path.mono_l k
  exact ih0 a0 a1 a2 a3
def spec_l12Path.T9 : Bool × List (List Nat × List Nat) := (true, [([], []), ([], []), ([1], [1]), ([], []), ([2, 3], [2, 3]), ([4], [4]), ([5], [5]), ([], []), ([0, 6, 7], [0, 6, 7]), ([8, 8, 0, 1, 2, 3, 4, 5, 6, 7, 8], [8])])
def spec_l12Path.B9 : List Nat := [0, 0, 2, 0, 14, 30, 62, 0, 255, 511]
theorem spec_l12Path.tab9 : rtab .any (opsOf Try.f101 9) = spec_l12Path.T9 := by kernel_rfl
theorem spec_l12Path.bits9 : waitsOk spec_l12Path.T9.2 spec_l12Path.B9 = true := by kernel_rfl
set_option maxHeartbeats 8000000 in
set_option maxRecDepth 100000 in
theorem spec_l12Path.calls (k : Nat) : ∀ (a0_0 : Int) (A0_1 : Option Addr) (c0_1 : Nat) (l0_1 : List (S90)) (a1 : Int) (a2 : Int) (r : List Int) (w : World) (hr0_1 : Kd.C k90 w A0_1 l0_1.length l0_1) (hc0_1 : l0_1.length ≤ c0_1) (h : spec_l12Path.f k a0_0 l0_1 a1 a2 = some r),
    Calls Try.prog 101 #[.agg #[.int .i64 a0_0, .slice A0_1 l0_1.length c0_1], .int .i64 a1, .int .i64 a2] w fun e w' => ∃ v0_ : Value, e = .returned (v0_) ∧ Kd.R (Kd.int .i64) 3 w' w.heap.size (fun _ => True) v0_ r ∧ Below w.heap.size w w' := by
  induction k using Nat.strongRecOn with
  | _ k ih =>
  intro a0_0 A0_1 c0_1 l0_1 a1 a2 r w hr0_1 hc0_1 h
  cases k with
  | zero => exact absurd h (by simp [spec_l12Path.f])
  | succ k =>
  simp only [spec_l12Path.f] at h
  have hu49 := Try.underlying49
  have hu54 := Try.underlying54
  have HR0_1 := Aside0.mk hr0_1
  have HC0_1 := Aside0.mk hc0_1
  clear hr0_1 hc0_1
  have HB := Aside0.mk (Below.refl w.heap.size w)
  have H : (if 0 ≤ a1 then (if a1 < (l0_1.length : Int) then (if (rd_T90 l0_1 a1).f1.f0 = true then ((spec_EntryAt.f k ((rd_T90 l0_1 a1).f1.f1) a2).bind fun t882 => (if t882 < 0 then (some (([] : List Int))) else (some (([a1] : List Int))))) else (spec_l12Path.l0 k a1 a2 0 a0_0 l0_1 ((rd_T90 l0_1 a1).f1.f0) ((rd_T90 l0_1 a1).f1.f1))) else (none)) else (none)) = some r := h
  clear h
  by_cases c4 : 0 ≤ a1
  · rw [if_pos c4] at H
    have c4b0 : decide (0 ≤ a1) = true := decide_eq_true c4
    clear c4
    by_cases c5 : a1 < (l0_1.length : Int)
    · rw [if_pos c5] at H
      have c5b0 : decide (a1 < (l0_1.length : Int)) = true := decide_eq_true c5
      clear c5
      obtain ⟨bq6, hbq6⟩ : ∃ b_ : Bool, b_ = ((rd_T90 l0_1 a1).f1.f0) := ⟨_, rfl⟩
      replace H : (if bq6 = true then ((spec_EntryAt.f k ((rd_T90 l0_1 a1).f1.f1) a2).bind fun t882 => (if t882 < 0 then (some (([] : List Int))) else (some (([a1] : List Int))))) else (spec_l12Path.l0 k a1 a2 0 a0_0 l0_1 bq6 ((rd_T90 l0_1 a1).f1.f1))) = some r := by rw [← hbq6] at H; exact H
      have Nbq6 := Aside0.mk hbq6
      clear hbq6
      by_cases c7 : bq6 = true
      · subst c7
        have H1 : ((spec_EntryAt.f k ((rd_T90 l0_1 a1).f1.f1) a2).bind fun t882 => (if t882 < 0 then (some (([] : List Int))) else (some (([a1] : List Int))))) = some r := by rw [if_pos rfl] at H; exact H
        clear H
        have H := H1
        clear H1
        replace H := Option.bind_eq_some_iff.mp H
        obtain ⟨t882, A80, H⟩ := H
        replace H : (if t882 < 0 then (some (([] : List Int))) else (some (([a1] : List Int)))) = some r := H
        have A8 := Aside0.mk A80
        clear A80
        by_cases c9 : t882 < 0
        · rw [if_pos c9] at H
          have c9b0 : decide (t882 < 0) = true := decide_eq_true c9
          clear c9
          obtain ⟨y883, hy883⟩ : ∃ y_ : List Int, y_ = (([] : List Int)) := ⟨_, rfl⟩
          replace H : (some y883) = some r := by first | (rw [hy883]; with_reducible exact H) | (have H2_ := (Option.bind_some _ _).symm.trans H; rw [hy883]; with_reducible exact H2_) | (have H2_ := (Option.bind_some _ _).symm.trans H; with_reducible exact H2_) | with_reducible exact H | (rw [hy883]; exact H) | exact H
          have Ny883 := Aside0.mk hy883
          clear hy883
          obtain rfl := Option.some.inj H
          go_enter Try.func101, Try.ntmps101
          go_wp2_with (first | ((with_reducible refine gate_dst (N := 3) rfl ?_); refine box_event ?hg (N := 3) ?hd (cs := #[.int .i64 a0_0, .slice A0_1 l0_1.length c0_1]) (t := 49) ?hr ?_; (case hd => rfl); (case hg => rfl); (case hr => first | (go_simp; done) | (go_simp; rfl)); intro gb879 hg w10 hbox hb; have n0_ := Aside0.mk (below_step (by repeat (first | (with_reducible first | exact HB.out | apply below_alloc | apply pw_below_drewN | apply below_drew1) | exact HB.out)) hb); have n1_ := Aside0.mk (hbox); have n2_ := Aside0.mk ((by rw [hg]; exact (below_size (by repeat (first | (with_reducible first | exact HB.out | apply below_alloc | apply pw_below_drewN | apply below_drew1) | exact HB.out))) : w.heap.size ≤ gb879)); have n3_ := Aside0.mk ((by rw [hg]; exact (below_size (by repeat (first | (with_reducible first | exact HB.out | apply below_alloc | apply pw_below_drewN | apply below_drew1) | exact HB.out))) : w.heap.size ≤ gb879)); clear HB; have HB := n0_; have BK879 := n1_; have GW879 := n2_; have GE879 := n3_; clear n0_ n1_ n2_ n3_; clear hb hbox hg; have hcz11_0 : w10.cell? ⟨gb879, 0, none⟩ = some (.int .i64 a0_0) := (blk_cell BK879.out 0).trans rfl; have hcz11_1 : w10.cell? ⟨gb879, 1, none⟩ = some (.slice A0_1 l0_1.length c0_1) := (blk_cell BK879.out 1).trans rfl; have hfz11_0 := blk_frozen BK879.out 0; have hfz11_1 := blk_frozen BK879.out 1; have p880 : 0 ≤ (a1 : Int) := of_decide_eq_true (by first | (with_reducible assumption) | assumption); have q880 : a1 < (l0_1.length : Int) := of_decide_eq_true (by first | (with_reducible assumption) | assumption); obtain ⟨ad880, A880_2, c880_2, e880, hx880_0, hx880_1, hx880_2, hl880_2, hi880_2⟩ := at_T90 HR0_1.out a1 p880 q880; (try rw [← Nbq6.out] at hx880_0); (try rw [← Nbq6.out] at hx880_1); cases e880; replace hx880_0 := (HB.out.cell (World.block_lt_of_cell? w _ hx880_0)).trans hx880_0; replace hx880_1 := (HB.out.cell (World.block_lt_of_cell? w _ hx880_1)).trans hx880_1; replace hx880_2 := (HB.out.cell (World.block_lt_of_cell? w _ hx880_2)).trans hx880_2; have HR880_2 := Aside0.mk hi880_2; have HC880_2 := Aside0.mk hl880_2; clear hi880_2 hl880_2; replace p880 := eq_true p880; replace q880 := eq_true q880) | ((with_reducible refine gate_dst (N := 7) rfl ?_); refine box_event ?hg (N := 7) ?hd (cs := #[.bool false, .slice none 0 0]) (t := 54) ?hr ?_; (case hd => rfl); (case hg => rfl); (case hr => first | (go_simp; done) | (go_simp; rfl)); intro gb881 hg w12 hbox hb; have n0_ := Aside0.mk (blk_below (g := gb879) (o := .cells #[.int .i64 a0_0, .slice (some ad880) l0_1.length c0_1] 49 (0, 0)) (by (with_reducible repeat (first | refine blk_drewN ?_ _ | refine blk_drew ?_ | refine blk_alloc ?_ _)); exact BK879.out) hb); have n1_ := Aside0.mk (below_step (by repeat (first | (with_reducible first | exact HB.out | apply below_alloc | apply pw_below_drewN | apply below_drew1 | refine below_set ?_ GE879.out) | exact HB.out)) hb); have n2_ := Aside0.mk (hbox); have n3_ := Aside0.mk ((by rw [hg]; exact (below_size (by repeat (first | (with_reducible first | exact HB.out | apply below_alloc | apply pw_below_drewN | apply below_drew1 | refine below_set ?_ GE879.out) | exact HB.out))) : w.heap.size ≤ gb881)); have n4_ := Aside0.mk ((by rw [hg]; exact (below_size (by repeat (first | (with_reducible first | exact HB.out | apply below_alloc | apply pw_below_drewN | apply below_drew1 | refine below_set ?_ GE879.out) | exact HB.out))) : w.heap.size ≤ gb881)); have n5_ := Aside0.mk ((by rw [hg]; exact Nat.ne_of_lt (blk_lt (g := gb879) (o := .cells #[.int .i64 a0_0, .slice (some ad880) l0_1.length c0_1] 49 (0, 0)) (by (with_reducible repeat (first | refine blk_drewN ?_ _ | refine blk_drew ?_ | refine blk_alloc ?_ _)); exact BK879.out)) : gb879 ≠ gb881)); have n6_ := Aside0.mk ((by rw [hg]; exact Nat.ne_of_gt (blk_lt (g := gb879) (o := .cells #[.int .i64 a0_0, .slice (some ad880) l0_1.length c0_1] 49 (0, 0)) (by (with_reducible repeat (first | refine blk_drewN ?_ _ | refine blk_drew ?_ | refine blk_alloc ?_ _)); exact BK879.out)) : gb881 ≠ gb879)); clear BK879; clear HB; have BK879 := n0_; have HB := n1_; have BK881 := n2_; have GW881 := n3_; have GE881 := n4_; have NB879_881 := n5_; have NB881_879 := n6_; clear n0_ n1_ n2_ n3_ n4_ n5_ n6_; clear hb hbox hg; have hnb13 := NB881_879.out; have hnc13 := NB879_881.out; have hcz14_0 : w12.cell? ⟨gb881, 0, none⟩ = some (.bool false) := (blk_cell BK881.out 0).trans rfl; have hcz14_1 : w12.cell? ⟨gb881, 1, none⟩ = some (.slice none 0 0) := (blk_cell BK881.out 1).trans rfl; have hfz14_0 := blk_frozen BK881.out 0; have hfz14_1 := blk_frozen BK881.out 1) | ((with_reducible refine gate_callee (f := 125) rfl ?_); refine goesL_ (some 21) rfl rfl Try.func125 (by kernel_rfl) rfl #[.slice A880_2 ((rd_T90 l0_1 a1).f1.f1).length c880_2, .int .i64 a2] rfl (by (try simp only [List.map_toArray, List.map_cons, List.map_nil]); first | done | rfl | (simp only [List.length_drop, List.length_take]; rfl)) ?_; (with_reducible refine (spec_EntryAt.calls k _ _ ((rd_T90 l0_1 a1).f1.f1) a2 t882 _ ?side1 ?side2 A8.out).mono ?_); (case side1 => exact Kd.C_below HR880_2.out (by repeat (first | (with_reducible first | exact HB.out | apply below_alloc | apply pw_below_drewN | apply below_drew1 | refine below_set ?_ GE879.out | refine below_set ?_ GE881.out) | exact HB.out))); (case side2 => exact HC880_2.out); rintro e w' ⟨rfl, ⟨nd, rfl⟩⟩; refine ⟨_, rfl, ?_⟩) | ((with_reducible refine gate_dst (N := 23) rfl ?_); refine Kd.R_lit (Kd.int .i64) _ 3 ?hg (N := 23) ?hd (xs := ([] : List Int)) (inner := []) (ok := fun _ => True) (okp := fun _ => True) ?hr ?hp (fun _ hk => hk) trivial (Below.refl _ _) (Nat.le_refl _) (by simp) ?_; (case hd => rfl); (case hg => rfl); (case hr => first | (go_simp; done) | (go_simp; rfl)); (case hp => exact (Reps.none _ _)); intro v884 w15 ho16 hb hg_ hnew_; clear hg_ hnew_; (first | rw [← Ny883.out] at ho16 | (simp only [Int.reduceToNat] at ho16; rw [← Ny883.out] at ho16)); have n0_ := Aside0.mk (Kd.R_lower ho16 (below_size (by repeat (first | (with_reducible first | exact HB.out | apply below_alloc | apply pw_below_drewN | apply below_drew1 | refine below_set ?_ GE879.out | refine below_set ?_ GE881.out) | exact HB.out)))); have n1_ := Aside0.mk (blk_below (g := gb879) (o := .cells #[.int .i64 a0_0, .slice (some ad880) l0_1.length c0_1] 49 (0, 0)) (by (with_reducible repeat (first | refine blk_drewN ?_ _ | refine blk_drew ?_ | refine blk_alloc ?_ _)); refine blk_far ?_ NB879_881.out _; (with_reducible repeat (first | refine blk_drewN ?_ _ | refine blk_drew ?_ | refine blk_alloc ?_ _)); refine blk_far ?_ NB879_881.out _; (with_reducible repeat (first | refine blk_drewN ?_ _ | refine blk_drew ?_ | refine blk_alloc ?_ _)); exact BK879.out) hb); have n2_ := Aside0.mk (blk_below (g := gb881) (o := .cells #[.bool true, .slice A880_2 ((rd_T90 l0_1 a1).f1.f1).length c880_2] 54 (0, 0)) (by (with_reducible repeat (first | refine blk_drewN ?_ _ | refine blk_drew ?_ | refine blk_alloc ?_ _)); refine blk_put (cs := #[.bool true, .slice none 0 0]) ?_ 1 _ rfl; (with_reducible repeat (first | refine blk_drewN ?_ _ | refine blk_drew ?_ | refine blk_alloc ?_ _)); refine blk_put (cs := #[.bool false, .slice none 0 0]) ?_ 0 _ rfl; (with_reducible repeat (first | refine blk_drewN ?_ _ | refine blk_drew ?_ | refine blk_alloc ?_ _)); exact BK881.out) hb); have n3_ := Aside0.mk (below_step (by repeat (first | (with_reducible first | exact HB.out | apply below_alloc | apply pw_below_drewN | apply below_drew1 | refine below_set ?_ GE879.out | refine below_set ?_ GE881.out) | exact HB.out)) hb); clear BK879; clear BK881; clear HB; have HO885 := n0_; have BK879 := n1_; have BK881 := n2_; have HB := n3_; clear n0_ n1_ n2_ n3_; clear hb ho16))
          go_ret
          exact ⟨_, by first | rfl | (simp [errW_none, errW_some] <;> rfl) | (simp [*, errW_none, errW_some] <;> rfl), by (with_reducible repeat (first | apply Kd.R_alloc | apply Kd.R_drewN | apply Kd.R_drew)); exact HO885.out, by repeat (first | (with_reducible first | exact HB.out | apply below_alloc | apply pw_below_drewN | apply below_drew1 | refine below_set ?_ GE879.out | refine below_set ?_ GE881.out) | exact HB.out)⟩
        · rw [if_neg c9] at H
          have c9b0 : decide (t882 < 0) = false := decide_eq_false c9
          clear c9
          obtain ⟨y886, hy886⟩ : ∃ y_ : List Int, y_ = (([a1] : List Int)) := ⟨_, rfl⟩
          replace H : (some y886) = some r := by first | (rw [hy886]; with_reducible exact H) | (have H2_ := (Option.bind_some _ _).symm.trans H; rw [hy886]; with_reducible exact H2_) | (have H2_ := (Option.bind_some _ _).symm.trans H; with_reducible exact H2_) | with_reducible exact H | (rw [hy886]; exact H) | exact H
          have Ny886 := Aside0.mk hy886
          clear hy886
          obtain rfl := Option.some.inj H
          go_enter Try.func101, Try.ntmps101
          go_wp2_with (first | ((with_reducible refine gate_dst (N := 3) rfl ?_); refine box_event ?hg (N := 3) ?hd (cs := #[.int .i64 a0_0, .slice A0_1 l0_1.length c0_1]) (t := 49) ?hr ?_; (case hd => rfl); (case hg => rfl); (case hr => first | (go_simp; done) | (go_simp; rfl)); intro gb879 hg w17 hbox hb; have n0_ := Aside0.mk (below_step (by repeat (first | (with_reducible first | exact HB.out | apply below_alloc | apply pw_below_drewN | apply below_drew1) | exact HB.out)) hb); have n1_ := Aside0.mk (hbox); have n2_ := Aside0.mk ((by rw [hg]; exact (below_size (by repeat (first | (with_reducible first | exact HB.out | apply below_alloc | apply pw_below_drewN | apply below_drew1) | exact HB.out))) : w.heap.size ≤ gb879)); have n3_ := Aside0.mk ((by rw [hg]; exact (below_size (by repeat (first | (with_reducible first | exact HB.out | apply below_alloc | apply pw_below_drewN | apply below_drew1) | exact HB.out))) : w.heap.size ≤ gb879)); clear HB; have HB := n0_; have BK879 := n1_; have GW879 := n2_; have GE879 := n3_; clear n0_ n1_ n2_ n3_; clear hb hbox hg; have hcz18_0 : w17.cell? ⟨gb879, 0, none⟩ = some (.int .i64 a0_0) := (blk_cell BK879.out 0).trans rfl; have hcz18_1 : w17.cell? ⟨gb879, 1, none⟩ = some (.slice A0_1 l0_1.length c0_1) := (blk_cell BK879.out 1).trans rfl; have hfz18_0 := blk_frozen BK879.out 0; have hfz18_1 := blk_frozen BK879.out 1; have p880 : 0 ≤ (a1 : Int) := of_decide_eq_true (by first | (with_reducible assumption) | assumption); have q880 : a1 < (l0_1.length : Int) := of_decide_eq_true (by first | (with_reducible assumption) | assumption); obtain ⟨ad880, A880_2, c880_2, e880, hx880_0, hx880_1, hx880_2, hl880_2, hi880_2⟩ := at_T90 HR0_1.out a1 p880 q880; (try rw [← Nbq6.out] at hx880_0); (try rw [← Nbq6.out] at hx880_1); cases e880; replace hx880_0 := (HB.out.cell (World.block_lt_of_cell? w _ hx880_0)).trans hx880_0; replace hx880_1 := (HB.out.cell (World.block_lt_of_cell? w _ hx880_1)).trans hx880_1; replace hx880_2 := (HB.out.cell (World.block_lt_of_cell? w _ hx880_2)).trans hx880_2; have HR880_2 := Aside0.mk hi880_2; have HC880_2 := Aside0.mk hl880_2; clear hi880_2 hl880_2; replace p880 := eq_true p880; replace q880 := eq_true q880) | ((with_reducible refine gate_dst (N := 7) rfl ?_); refine box_event ?hg (N := 7) ?hd (cs := #[.bool false, .slice none 0 0]) (t := 54) ?hr ?_; (case hd => rfl); (case hg => rfl); (case hr => first | (go_simp; done) | (go_simp; rfl)); intro gb881 hg w19 hbox hb; have n0_ := Aside0.mk (blk_below (g := gb879) (o := .cells #[.int .i64 a0_0, .slice (some ad880) l0_1.length c0_1] 49 (0, 0)) (by (with_reducible repeat (first | refine blk_drewN ?_ _ | refine blk_drew ?_ | refine blk_alloc ?_ _)); exact BK879.out) hb); have n1_ := Aside0.mk (below_step (by repeat (first | (with_reducible first | exact HB.out | apply below_alloc | apply pw_below_drewN | apply below_drew1 | refine below_set ?_ GE879.out) | exact HB.out)) hb); have n2_ := Aside0.mk (hbox); have n3_ := Aside0.mk ((by rw [hg]; exact (below_size (by repeat (first | (with_reducible first | exact HB.out | apply below_alloc | apply pw_below_drewN | apply below_drew1 | refine below_set ?_ GE879.out) | exact HB.out))) : w.heap.size ≤ gb881)); have n4_ := Aside0.mk ((by rw [hg]; exact (below_size (by repeat (first | (with_reducible first | exact HB.out | apply below_alloc | apply pw_below_drewN | apply below_drew1 | refine below_set ?_ GE879.out) | exact HB.out))) : w.heap.size ≤ gb881)); have n5_ := Aside0.mk ((by rw [hg]; exact Nat.ne_of_lt (blk_lt (g := gb879) (o := .cells #[.int .i64 a0_0, .slice (some ad880) l0_1.length c0_1] 49 (0, 0)) (by (with_reducible repeat (first | refine blk_drewN ?_ _ | refine blk_drew ?_ | refine blk_alloc ?_ _)); exact BK879.out)) : gb879 ≠ gb881)); have n6_ := Aside0.mk ((by rw [hg]; exact Nat.ne_of_gt (blk_lt (g := gb879) (o := .cells #[.int .i64 a0_0, .slice (some ad880) l0_1.length c0_1] 49 (0, 0)) (by (with_reducible repeat (first | refine blk_drewN ?_ _ | refine blk_drew ?_ | refine blk_alloc ?_ _)); exact BK879.out)) : gb881 ≠ gb879)); clear BK879; clear HB; have BK879 := n0_; have HB := n1_; have BK881 := n2_; have GW881 := n3_; have GE881 := n4_; have NB879_881 := n5_; have NB881_879 := n6_; clear n0_ n1_ n2_ n3_ n4_ n5_ n6_; clear hb hbox hg; have hnb20 := NB881_879.out; have hnc20 := NB879_881.out; have hcz21_0 : w19.cell? ⟨gb881, 0, none⟩ = some (.bool false) := (blk_cell BK881.out 0).trans rfl; have hcz21_1 : w19.cell? ⟨gb881, 1, none⟩ = some (.slice none 0 0) := (blk_cell BK881.out 1).trans rfl; have hfz21_0 := blk_frozen BK881.out 0; have hfz21_1 := blk_frozen BK881.out 1) | ((with_reducible refine gate_callee (f := 125) rfl ?_); refine goesL_ (some 21) rfl rfl Try.func125 (by kernel_rfl) rfl #[.slice A880_2 ((rd_T90 l0_1 a1).f1.f1).length c880_2, .int .i64 a2] rfl (by (try simp only [List.map_toArray, List.map_cons, List.map_nil]); first | done | rfl | (simp only [List.length_drop, List.length_take]; rfl)) ?_; (with_reducible refine (spec_EntryAt.calls k _ _ ((rd_T90 l0_1 a1).f1.f1) a2 t882 _ ?side1 ?side2 A8.out).mono ?_); (case side1 => exact Kd.C_below HR880_2.out (by repeat (first | (with_reducible first | exact HB.out | apply below_alloc | apply pw_below_drewN | apply below_drew1 | refine below_set ?_ GE879.out | refine below_set ?_ GE881.out) | exact HB.out))); (case side2 => exact HC880_2.out); rintro e w' ⟨rfl, ⟨nd, rfl⟩⟩; refine ⟨_, rfl, ?_⟩) | ((with_reducible refine gate_dst (N := 25) rfl ?_); refine Kd.R_lit (Kd.int .i64) _ 3 ?hg (N := 25) ?hd (xs := ([a1] : List Int)) (inner := [.int .i64 a1]) (ok := fun _ => True) (okp := fun _ => True) ?hr ?hp (fun _ hk => hk) trivial (Below.refl _ _) (Nat.le_refl _) (by simp) ?_; (case hd => rfl); (case hg => rfl); (case hr => first | (go_simp; done) | (go_simp; rfl)); (case hp => exact (Reps.one (show Kd.M (Kd.int .i64) _ _ _ a1 [.int .i64 a1] from rfl) (Reps.none _ _))); intro v887 w22 ho23 hb hg_ hnew_; clear hg_ hnew_; (first | rw [← Ny886.out] at ho23 | (simp only [Int.reduceToNat] at ho23; rw [← Ny886.out] at ho23)); have n0_ := Aside0.mk (Kd.R_lower ho23 (below_size (by repeat (first | (with_reducible first | exact HB.out | apply below_alloc | apply pw_below_drewN | apply below_drew1 | refine below_set ?_ GE879.out | refine below_set ?_ GE881.out) | exact HB.out)))); have n1_ := Aside0.mk (blk_below (g := gb879) (o := .cells #[.int .i64 a0_0, .slice (some ad880) l0_1.length c0_1] 49 (0, 0)) (by (with_reducible repeat (first | refine blk_drewN ?_ _ | refine blk_drew ?_ | refine blk_alloc ?_ _)); refine blk_far ?_ NB879_881.out _; (with_reducible repeat (first | refine blk_drewN ?_ _ | refine blk_drew ?_ | refine blk_alloc ?_ _)); refine blk_far ?_ NB879_881.out _; (with_reducible repeat (first | refine blk_drewN ?_ _ | refine blk_drew ?_ | refine blk_alloc ?_ _)); exact BK879.out) hb); have n2_ := Aside0.mk (blk_below (g := gb881) (o := .cells #[.bool true, .slice A880_2 ((rd_T90 l0_1 a1).f1.f1).length c880_2] 54 (0, 0)) (by (with_reducible repeat (first | refine blk_drewN ?_ _ | refine blk_drew ?_ | refine blk_alloc ?_ _)); refine blk_put (cs := #[.bool true, .slice none 0 0]) ?_ 1 _ rfl; (with_reducible repeat (first | refine blk_drewN ?_ _ | refine blk_drew ?_ | refine blk_alloc ?_ _)); refine blk_put (cs := #[.bool false, .slice none 0 0]) ?_ 0 _ rfl; (with_reducible repeat (first | refine blk_drewN ?_ _ | refine blk_drew ?_ | refine blk_alloc ?_ _)); exact BK881.out) hb); have n3_ := Aside0.mk (below_step (by repeat (first | (with_reducible first | exact HB.out | apply below_alloc | apply pw_below_drewN | apply below_drew1 | refine below_set ?_ GE879.out | refine below_set ?_ GE881.out) | exact HB.out)) hb); clear BK879; clear BK881; clear HB; have HO888 := n0_; have BK879 := n1_; have BK881 := n2_; have HB := n3_; clear n0_ n1_ n2_ n3_; clear hb ho23))
          go_ret
          exact ⟨_, by first | rfl | (simp [errW_none, errW_some] <;> rfl) | (simp [*, errW_none, errW_some] <;> rfl), by (with_reducible repeat (first | apply Kd.R_alloc | apply Kd.R_drewN | apply Kd.R_drew)); exact HO888.out, by repeat (first | (with_reducible first | exact HB.out | apply below_alloc | apply pw_below_drewN | apply below_drew1 | refine below_set ?_ GE879.out | refine below_set ?_ GE881.out) | exact HB.out)⟩
      · replace c7 := Bool.eq_false_iff.mpr c7
        subst c7
        have H1 : (spec_l12Path.l0 k a1 a2 0 a0_0 l0_1 false ((rd_T90 l0_1 a1).f1.f1)) = some r := by rw [if_neg (show ¬ (false = true) by decide)] at H; exact H
        clear H
        have H := H1
        clear H1
        have H' := Aside0.mk H
        clear H
        go_enter Try.func101, Try.ntmps101
        go_wp2_with (first | ((with_reducible refine gate_dst (N := 3) rfl ?_); refine box_event ?hg (N := 3) ?hd (cs := #[.int .i64 a0_0, .slice A0_1 l0_1.length c0_1]) (t := 49) ?hr ?_; (case hd => rfl); (case hg => rfl); (case hr => first | (go_simp; done) | (go_simp; rfl)); intro gb879 hg w24 hbox hb; have n0_ := Aside0.mk (below_step (by repeat (first | (with_reducible first | exact HB.out | apply below_alloc | apply pw_below_drewN | apply below_drew1) | exact HB.out)) hb); have n1_ := Aside0.mk (hbox); have n2_ := Aside0.mk ((by rw [hg]; exact (below_size (by repeat (first | (with_reducible first | exact HB.out | apply below_alloc | apply pw_below_drewN | apply below_drew1) | exact HB.out))) : w.heap.size ≤ gb879)); have n3_ := Aside0.mk ((by rw [hg]; exact (below_size (by repeat (first | (with_reducible first | exact HB.out | apply below_alloc | apply pw_below_drewN | apply below_drew1) | exact HB.out))) : w.heap.size ≤ gb879)); clear HB; have HB := n0_; have BK879 := n1_; have GW879 := n2_; have GE879 := n3_; clear n0_ n1_ n2_ n3_; clear hb hbox hg; have hcz25_0 : w24.cell? ⟨gb879, 0, none⟩ = some (.int .i64 a0_0) := (blk_cell BK879.out 0).trans rfl; have hcz25_1 : w24.cell? ⟨gb879, 1, none⟩ = some (.slice A0_1 l0_1.length c0_1) := (blk_cell BK879.out 1).trans rfl; have hfz25_0 := blk_frozen BK879.out 0; have hfz25_1 := blk_frozen BK879.out 1; have p880 : 0 ≤ (a1 : Int) := of_decide_eq_true (by first | (with_reducible assumption) | assumption); have q880 : a1 < (l0_1.length : Int) := of_decide_eq_true (by first | (with_reducible assumption) | assumption); obtain ⟨ad880, A880_2, c880_2, e880, hx880_0, hx880_1, hx880_2, hl880_2, hi880_2⟩ := at_T90 HR0_1.out a1 p880 q880; (try rw [← Nbq6.out] at hx880_0); (try rw [← Nbq6.out] at hx880_1); cases e880; replace hx880_0 := (HB.out.cell (World.block_lt_of_cell? w _ hx880_0)).trans hx880_0; replace hx880_1 := (HB.out.cell (World.block_lt_of_cell? w _ hx880_1)).trans hx880_1; replace hx880_2 := (HB.out.cell (World.block_lt_of_cell? w _ hx880_2)).trans hx880_2; have HR880_2 := Aside0.mk hi880_2; have HC880_2 := Aside0.mk hl880_2; clear hi880_2 hl880_2; replace p880 := eq_true p880; replace q880 := eq_true q880) | ((with_reducible refine gate_dst (N := 7) rfl ?_); refine box_event ?hg (N := 7) ?hd (cs := #[.bool false, .slice none 0 0]) (t := 54) ?hr ?_; (case hd => rfl); (case hg => rfl); (case hr => first | (go_simp; done) | (go_simp; rfl)); intro gb881 hg w26 hbox hb; have n0_ := Aside0.mk (blk_below (g := gb879) (o := .cells #[.int .i64 a0_0, .slice (some ad880) l0_1.length c0_1] 49 (0, 0)) (by (with_reducible repeat (first | refine blk_drewN ?_ _ | refine blk_drew ?_ | refine blk_alloc ?_ _)); exact BK879.out) hb); have n1_ := Aside0.mk (below_step (by repeat (first | (with_reducible first | exact HB.out | apply below_alloc | apply pw_below_drewN | apply below_drew1 | refine below_set ?_ GE879.out) | exact HB.out)) hb); have n2_ := Aside0.mk (hbox); have n3_ := Aside0.mk ((by rw [hg]; exact (below_size (by repeat (first | (with_reducible first | exact HB.out | apply below_alloc | apply pw_below_drewN | apply below_drew1 | refine below_set ?_ GE879.out) | exact HB.out))) : w.heap.size ≤ gb881)); have n4_ := Aside0.mk ((by rw [hg]; exact (below_size (by repeat (first | (with_reducible first | exact HB.out | apply below_alloc | apply pw_below_drewN | apply below_drew1 | refine below_set ?_ GE879.out) | exact HB.out))) : w.heap.size ≤ gb881)); have n5_ := Aside0.mk ((by rw [hg]; exact Nat.ne_of_lt (blk_lt (g := gb879) (o := .cells #[.int .i64 a0_0, .slice (some ad880) l0_1.length c0_1] 49 (0, 0)) (by (with_reducible repeat (first | refine blk_drewN ?_ _ | refine blk_drew ?_ | refine blk_alloc ?_ _)); exact BK879.out)) : gb879 ≠ gb881)); have n6_ := Aside0.mk ((by rw [hg]; exact Nat.ne_of_gt (blk_lt (g := gb879) (o := .cells #[.int .i64 a0_0, .slice (some ad880) l0_1.length c0_1] 49 (0, 0)) (by (with_reducible repeat (first | refine blk_drewN ?_ _ | refine blk_drew ?_ | refine blk_alloc ?_ _)); exact BK879.out)) : gb881 ≠ gb879)); clear BK879; clear HB; have BK879 := n0_; have HB := n1_; have BK881 := n2_; have GW881 := n3_; have GE881 := n4_; have NB879_881 := n5_; have NB881_879 := n6_; clear n0_ n1_ n2_ n3_ n4_ n5_ n6_; clear hb hbox hg; have hnb27 := NB881_879.out; have hnc27 := NB879_881.out; have hcz28_0 : w26.cell? ⟨gb881, 0, none⟩ = some (.bool false) := (blk_cell BK881.out 0).trans rfl; have hcz28_1 : w26.cell? ⟨gb881, 1, none⟩ = some (.slice none 0 0) := (blk_cell BK881.out 1).trans rfl; have hfz28_0 := blk_frozen BK881.out 0; have hfz28_1 := blk_frozen BK881.out 1))
        go_loopg [8] k (fun kq v8 w' => ∃ (x8_1 : Int), v8 = .int .i64 x8_1 ∧ Aside0 (spec_l12Path.l0 kq a1 a2 x8_1 a0_0 l0_1 false ((rd_T90 l0_1 a1).f1.f1) = some r) ∧ Aside0 (kq ≤ k) ∧ Aside0 (w'.heap[gb879]? = some (.cells #[.int .i64 a0_0, (.slice (some ad880) l0_1.length c0_1)] 49 (0, 0))) ∧ Aside0 (w'.heap[gb881]? = some (.cells #[.bool false, (.slice A880_2 ((rd_T90 l0_1 a1).f1.f1).length c880_2)] 54 (0, 0))) ∧ Aside0 (Below w.heap.size w w'))
        case atStart => exact ⟨(0), (by first | rfl | (simp; done) | (simp [*]; done)), H', ⟨Nat.le_refl _⟩, ⟨by (with_reducible repeat (first | refine blk_drewN ?_ _ | refine blk_drew ?_ | refine blk_alloc ?_ _)); refine blk_far ?_ NB879_881.out _; (with_reducible repeat (first | refine blk_drewN ?_ _ | refine blk_drew ?_ | refine blk_alloc ?_ _)); refine blk_far ?_ NB879_881.out _; (with_reducible repeat (first | refine blk_drewN ?_ _ | refine blk_drew ?_ | refine blk_alloc ?_ _)); exact BK879.out⟩, ⟨by (with_reducible repeat (first | refine blk_drewN ?_ _ | refine blk_drew ?_ | refine blk_alloc ?_ _)); refine blk_put (cs := #[.bool false, .slice none 0 0]) ?_ 1 _ rfl; (with_reducible repeat (first | refine blk_drewN ?_ _ | refine blk_drew ?_ | refine blk_alloc ?_ _)); refine blk_put (cs := #[.bool false, .slice none 0 0]) ?_ 0 _ rfl; (with_reducible repeat (first | refine blk_drewN ?_ _ | refine blk_drew ?_ | refine blk_alloc ?_ _)); exact BK881.out⟩, ⟨by repeat (first | (with_reducible first | exact HB.out | apply below_alloc | apply pw_below_drewN | apply below_drew1 | refine below_set ?_ GE879.out | refine below_set ?_ GE881.out) | exact HB.out)⟩⟩
        case round =>
          clear H'
          try clear c1
          try clear c2
          try clear p2
          try clear c4
          try clear c4b0
          try clear c5
          try clear c5b0
          try clear q6
          try clear c7
          try clear c8
          try clear p8
          try clear q8
          try clear hx8
          try clear c9
          try clear c9b0
          try clear c10
          try clear c12
          try clear c13
          try clear c20
          try clear c27
          try clear hcz11_0
          try clear hcz11_1
          try clear hcz14_0
          try clear hcz14_1
          try clear hcz18_0
          try clear hcz18_1
          try clear hcz21_0
          try clear hcz21_1
          try clear hcz25_0
          try clear hcz25_1
          try clear hcz28_0
          try clear hcz28_1
          try clear hfz11_0
          try clear hfz11_1
          try clear hfz14_0
          try clear hfz14_1
          try clear hfz18_0
          try clear hfz18_1
          try clear hfz21_0
          try clear hfz21_1
          try clear hfz25_0
          try clear hfz25_1
          try clear hfz28_0
          try clear hfz28_1
          try clear hx880_0
          try clear hx880_1
          try clear hx880_2
          try clear p880
          try clear q880
          obtain ⟨x8_1, rfl, HA, HK1, BK879, BK881, HB⟩ := hrel
          cases gk with
          | zero => exact absurd HA.out (by simp [spec_l12Path.l0])
          | succ k1 =>
            have H := HA.out
            clear HA
            simp only [spec_l12Path.l0] at H
            by_cases c29 : x8_1 < (((rd_T90 l0_1 a1).f1.f1).length : Int)
            · rw [if_pos c29] at H
              have c29b0 : decide (x8_1 < (((rd_T90 l0_1 a1).f1.f1).length : Int)) = true := decide_eq_true c29
              clear c29
              by_cases c30 : 0 ≤ x8_1
              · rw [if_pos c30] at H
                have c30b0 : decide (0 ≤ x8_1) = true := decide_eq_true c30
                clear c30
                replace H := Option.bind_eq_some_iff.mp H
                obtain ⟨t890, A310, H⟩ := H
                replace H : (if (t890.length : Int) > 0 then ((some (([a1] : List Int) : List Int)).bind fun y893 => (if y893.length + t890.length < 17592186044416 then (some (y893 ++ t890)) else (none))) else (spec_l12Path.l0 k1 a1 a2 (wrap64 (x8_1 + 1)) a0_0 l0_1 false ((rd_T90 l0_1 a1).f1.f1))) = some r := H
                have A31 := Aside0.mk A310
                clear A310
                by_cases c32 : (t890.length : Int) > 0
                · rw [if_pos c32] at H
                  have c32b0 : decide (0 < (t890.length : Int)) = true := decide_eq_true c32
                  have c32b1 : decide (0 < t890.length) = true := decide_eq_true (by omega)
                  clear c32
                  obtain ⟨y893, hy893⟩ : ∃ y_ : List Int, y_ = (([a1] : List Int)) := ⟨_, rfl⟩
                  replace H : (if y893.length + t890.length < 17592186044416 then (some (y893 ++ t890)) else (none)) = some r := by first | (rw [hy893]; with_reducible exact H) | (have H2_ := (Option.bind_some _ _).symm.trans H; rw [hy893]; with_reducible exact H2_) | (have H2_ := (Option.bind_some _ _).symm.trans H; with_reducible exact H2_) | with_reducible exact H | (rw [hy893]; exact H) | exact H
                  have Ny893 := Aside0.mk hy893
                  clear hy893
                  by_cases c33 : y893.length + t890.length < 17592186044416
                  · rw [if_pos c33] at H
                    have LMc33 := Aside0.mk c33
                    clear c33
                    obtain ⟨y896, hy896⟩ : ∃ y_ : List Int, y_ = (y893 ++ t890) := ⟨_, rfl⟩
                    replace H : (some y896) = some r := by first | (rw [hy896]; with_reducible exact H) | (have H2_ := (Option.bind_some _ _).symm.trans H; rw [hy896]; with_reducible exact H2_) | (have H2_ := (Option.bind_some _ _).symm.trans H; with_reducible exact H2_) | with_reducible exact H | (rw [hy896]; exact H) | exact H
                    have Ny896 := Aside0.mk hy896
                    clear hy896
                    obtain rfl := Option.some.inj H
                    have hnb34 := NB881_879.out
                    have hnc34 := NB879_881.out
                    have hcz35_0 : wr.cell? ⟨gb881, 0, none⟩ = some (.bool false) := (blk_cell BK881.out 0).trans rfl
                    have hcz35_1 : wr.cell? ⟨gb881, 1, none⟩ = some (.slice A880_2 ((rd_T90 l0_1 a1).f1.f1).length c880_2) := (blk_cell BK881.out 1).trans rfl
                    have hfz35_0 := blk_frozen BK881.out 0
                    have hfz35_1 := blk_frozen BK881.out 1
                    try go_wp2
                    have n0_ := Aside0.mk (blk_drew BK879.out)
                    have n1_ := Aside0.mk (blk_drew BK881.out)
                    have n2_ := Aside0.mk (below_drew1 HB.out)
                    clear BK879
                    clear BK881
                    clear HB
                    have BK879 := n0_
                    have BK881 := n1_
                    have HB := n2_
                    clear n0_ n1_ n2_
                    have p889 : 0 ≤ (x8_1 : Int) := of_decide_eq_true (by first | (with_reducible assumption) | assumption)
                    have q889 : x8_1 < (((rd_T90 l0_1 a1).f1.f1).length : Int) := of_decide_eq_true (by first | (with_reducible assumption) | assumption)
                    obtain ⟨ad889, e889, hx889_0, hx889_1, hx889_2, hx889_3, hx889_4⟩ := at_T103 HR880_2.out x8_1 p889 q889
                    have hw889_4 := hx889_4
                    have hw889_3 := hx889_3
                    have hw889_2 := hx889_2
                    have hw889_1 := hx889_1
                    have hw889_0 := hx889_0
                    cases e889
                    replace hx889_0 := (HB.out.cell (World.block_lt_of_cell? w _ hx889_0)).trans hx889_0
                    replace hx889_1 := (HB.out.cell (World.block_lt_of_cell? w _ hx889_1)).trans hx889_1
                    replace hx889_2 := (HB.out.cell (World.block_lt_of_cell? w _ hx889_2)).trans hx889_2
                    replace hx889_3 := (HB.out.cell (World.block_lt_of_cell? w _ hx889_3)).trans hx889_3
                    replace hx889_4 := (HB.out.cell (World.block_lt_of_cell? w _ hx889_4)).trans hx889_4
                    replace p889 := eq_true p889
                    replace q889 := eq_true q889
                    refine start_ (n := 10) (S := fun w' => w'.cell? ⟨gb879, 0, none⟩ = some (.int .i64 a0_0) ∧ w'.cell? ⟨gb879, 1, none⟩ = some (.slice (some ad880) l0_1.length c0_1) ∧ w'.cell? ⟨gb881, 0, none⟩ = some (.bool false) ∧ w'.cell? ⟨gb881, 1, none⟩ = some (.slice (some ad889) ((rd_T90 l0_1 a1).f1.f1).length c880_2) ∧ w'.cell? (ad889.add ((x8_1).toNat * 5)) = some (.int .i64 ((rd_T103 ((rd_T90 l0_1 a1).f1.f1) x8_1).f0)) ∧ w'.cell? ⟨(ad889.add ((x8_1).toNat * 5)).block, (ad889.add ((x8_1).toNat * 5)).off + 1, none⟩ = some (.int .i64 ((rd_T103 ((rd_T90 l0_1 a1).f1.f1) x8_1).f1.f0)) ∧ w'.cell? ⟨(ad889.add ((x8_1).toNat * 5)).block, (ad889.add ((x8_1).toNat * 5)).off + 2, none⟩ = some (.int .i64 ((rd_T103 ((rd_T90 l0_1 a1).f1.f1) x8_1).f1.f1)) ∧ w'.cell? ⟨(ad889.add ((x8_1).toNat * 5)).block, (ad889.add ((x8_1).toNat * 5)).off + 3, none⟩ = some (.int .i64 ((rd_T103 ((rd_T90 l0_1 a1).f1.f1) x8_1).f1.f2)) ∧ w'.cell? ⟨(ad889.add ((x8_1).toNat * 5)).block, (ad889.add ((x8_1).toNat * 5)).off + 4, none⟩ = some (.int .i64 ((rd_T103 ((rd_T90 l0_1 a1).f1.f1) x8_1).f1.f3))) (ds := []) #[false, false, false, false, false, false, false, false, false, false] (by kernel_rfl) rfl rfl ⟨(blk_cell BK879.out 0).trans rfl, (blk_cell BK879.out 1).trans rfl, (blk_cell BK881.out 0).trans rfl, (blk_cell BK881.out 1).trans rfl, ((HB.out.cell (World.block_lt_of_cell? w _ hw889_0)).trans hw889_0), ((HB.out.cell (World.block_lt_of_cell? w _ hw889_1)).trans hw889_1), ((HB.out.cell (World.block_lt_of_cell? w _ hw889_2)).trans hw889_2), ((HB.out.cell (World.block_lt_of_cell? w _ hw889_3)).trans hw889_3), ((HB.out.cell (World.block_lt_of_cell? w _ hw889_4)).trans hw889_4)⟩ (fun hHeld => ?_); refine with_tabW spec_l12Path.tab9 spec_l12Path.bits9 (fun HT_ HW_ => ?_)
                    generalize wr.drew = w36 at BK879 BK881 HB hx889_0 hx889_1 hx889_2 hx889_3 hx889_4 hHeld ⊢
                    refine pure_ (i := 1) (N := some 34) (v := ?_) (a' := ?_) #[false, true, false, false, false, false, false, false, false, false] rfl rfl (any_of HT_.out (by kernel_rfl)) (fun _ _ _ h => h) (Or.inl ⟨by rfl, ?_⟩) ?_ ?_
                    rotate_left
                    · intro w'
                      go_simp
                      with_reducible rfl
                    rotate_left
                    · simp only [Act.put, List.setIfInBounds_toArray, List.set_cons_zero, List.set_cons_succ, i64_w, i32_w]
                      rfl
                    refine pure_ (i := 3) (N := some 36) (v := ?_) (a' := ?_) #[false, true, false, true, false, false, false, false, false, false] rfl rfl (any_of HT_.out (by kernel_rfl)) (fun _ _ _ h => h) (Or.inl ⟨by rfl, ?_⟩) ?_ ?_
                    rotate_left
                    · intro w'
                      go_simp
                      with_reducible rfl
                    rotate_left
                    · simp only [Act.put, List.setIfInBounds_toArray, List.set_cons_zero, List.set_cons_succ, i64_w, i32_w]
                      rfl
                    refine pure_ (i := 7) (N := some 40) (v := ?_) (a' := ?_) #[false, true, false, true, false, false, false, true, false, false] rfl rfl (any_of HT_.out (by kernel_rfl)) (fun _ _ _ h => h) (Or.inl ⟨by rfl, ?_⟩) ?_ ?_
                    rotate_left
                    · intro w'
                      go_simp
                      with_reducible rfl
                    rotate_left
                    · simp only [Act.put, List.setIfInBounds_toArray, List.set_cons_zero, List.set_cons_succ, i64_w, i32_w]
                      rfl
                    refine take_ (i := 0) (N := some 33) (v := ?_) (a' := ?_) #[true, true, false, true, false, false, false, true, false, false] rfl rfl (take_ofW HT_.out HW_.out (by kernel_rfl)) (fun _ _ _ h => h) (Or.inl ⟨by rfl, ?_⟩) hHeld ?_ ?_
                    rotate_left
                    · rintro w' ⟨s0, s1, s2, s3, s4, s5, s6, s7, s8⟩
                      go_simp
                      with_reducible rfl
                    rotate_left
                    · simp only [Act.put, List.setIfInBounds_toArray, List.set_cons_zero, List.set_cons_succ, i64_w, i32_w]
                      rfl
                    refine take_ (i := 2) (N := some 35) (v := ?_) (a' := ?_) #[true, true, true, true, false, false, false, true, false, false] rfl rfl (take_ofW HT_.out HW_.out (by kernel_rfl)) (fun _ _ _ h => h) (Or.inl ⟨by rfl, ?_⟩) hHeld ?_ ?_
                    rotate_left
                    · rintro w' ⟨s0, s1, s2, s3, s4, s5, s6, s7, s8⟩
                      go_simp
                      with_reducible rfl
                    rotate_left
                    · simp only [Act.put, List.setIfInBounds_toArray, List.set_cons_zero, List.set_cons_succ, i64_w, i32_w]
                      rfl
                    refine pure_ (i := 4) (N := some 37) (v := ?_) (a' := ?_) #[true, true, true, true, true, false, false, true, false, false] rfl rfl (any_of HT_.out (by kernel_rfl)) (fun _ _ _ h => h) (Or.inl ⟨by rfl, ?_⟩) ?_ ?_
                    rotate_left
                    · intro w'
                      go_simp
                      with_reducible rfl
                    rotate_left
                    · simp only [Act.put, List.setIfInBounds_toArray, List.set_cons_zero, List.set_cons_succ, i64_w, i32_w]
                      rfl
                    refine pure_ (i := 5) (N := some 38) (v := ?_) (a' := ?_) #[true, true, true, true, true, true, false, true, false, false] rfl rfl (any_of HT_.out (by kernel_rfl)) (fun _ _ _ h => h) (Or.inl ⟨by rfl, ?_⟩) ?_ ?_
                    rotate_left
                    · intro w'
                      go_simp
                      with_reducible rfl
                    rotate_left
                    · simp only [Act.put, List.setIfInBounds_toArray, List.set_cons_zero, List.set_cons_succ, i64_w, i32_w]
                      rfl
                    refine take_ (i := 6) (N := some 39) (v := ?_) (a' := ?_) #[true, true, true, true, true, true, true, true, false, false] rfl rfl (take_ofW HT_.out HW_.out (by kernel_rfl)) (fun _ _ _ h => h) (Or.inl ⟨by rfl, ?_⟩) hHeld ?_ ?_
                    rotate_left
                    · rintro w' ⟨s0, s1, s2, s3, s4, s5, s6, s7, s8⟩
                      go_simp
                      with_reducible rfl
                    rotate_left
                    · simp only [Act.put, List.setIfInBounds_toArray, List.set_cons_zero, List.set_cons_succ, i64_w, i32_w]
                      rfl
                    refine one_ (i := 8) (N := some 41) #[true, true, true, true, true, true, true, true, true, false] rfl rfl (one_of HT_.out (by kernel_rfl)) (by decide) (fun K hK => ?_)
                    refine goes_ Try.func101 (by kernel_rfl) rfl #[.agg #[.int .i64 a0_0, .slice (some ad880) l0_1.length c0_1], .int .i64 ((rd_T103 ((rd_T90 l0_1 a1).f1.f1) x8_1).f0), .int .i64 a2] (by rfl) rfl rfl (by (try simp only [List.map_toArray, List.map_cons, List.map_nil]); first | done | rfl | (simp only [List.length_drop, List.length_take]; rfl)) ?_
                    with_reducible refine (ih k1 (by have := HK1.out; omega) a0_0 _ _ l0_1 ((rd_T103 ((rd_T90 l0_1 a1).f1.f1) x8_1).f0) a2 t890 _ ?side1 ?side2 A31.out).mono ?_
                    (case side1 => repeat (first | exact (Kd.C_below HR0_1.out HB.out) | (with_reducible refine Kd.C_alloc ?_ _) | (with_reducible refine Kd.C_drewN ?_ _) | (with_reducible refine Kd.C_drew ?_)))
                    (case side2 => exact HC0_1.out)
                    rintro e w37 ⟨v891, rfl, ho0, hb⟩
                    refine ⟨_, rfl, ?_⟩
                    have n0_ := Aside0.mk (Kd.R_lower ho0 (below_size (by repeat (first | (with_reducible first | exact HB.out | apply below_alloc | apply pw_below_drewN | apply below_drew1 | refine below_set ?_ GE879.out | refine below_set ?_ GE881.out) | exact HB.out))))
                    have n1_ := Aside0.mk (blk_below (g := gb879) (o := .cells #[.int .i64 a0_0, .slice (some ad880) l0_1.length c0_1] 49 (0, 0)) (by (with_reducible repeat (first | refine blk_drewN ?_ _ | refine blk_drew ?_ | refine blk_alloc ?_ _)); exact BK879.out) hb)
                    have n2_ := Aside0.mk (blk_below (g := gb881) (o := .cells #[.bool false, .slice (some ad889) ((rd_T90 l0_1 a1).f1.f1).length c880_2] 54 (0, 0)) (by (with_reducible repeat (first | refine blk_drewN ?_ _ | refine blk_drew ?_ | refine blk_alloc ?_ _)); exact BK881.out) hb)
                    have n3_ := Aside0.mk (below_step (by repeat (first | (with_reducible first | exact HB.out | apply below_alloc | apply pw_below_drewN | apply below_drew1 | refine below_set ?_ GE879.out | refine below_set ?_ GE881.out) | exact HB.out)) hb)
                    clear BK879
                    clear BK881
                    clear HB
                    have HO892 := n0_
                    have BK879 := n1_
                    have BK881 := n2_
                    have HB := n3_
                    clear n0_ n1_ n2_ n3_
                    (try clear hb)
                    (try clear hb2)
                    (try clear hk)
                    (try clear hi)
                    (try clear ho0)
                    refine hK.out _ _ ⟨(blk_cell BK879.out 0).trans rfl, (blk_cell BK879.out 1).trans rfl, (blk_cell BK881.out 0).trans rfl, (blk_cell BK881.out 1).trans rfl, ((HB.out.cell (World.block_lt_of_cell? w _ hw889_0)).trans hw889_0), ((HB.out.cell (World.block_lt_of_cell? w _ hw889_1)).trans hw889_1), ((HB.out.cell (World.block_lt_of_cell? w _ hw889_2)).trans hw889_2), ((HB.out.cell (World.block_lt_of_cell? w _ hw889_3)).trans hw889_3), ((HB.out.cell (World.block_lt_of_cell? w _ hw889_4)).trans hw889_4)⟩ (fun hHeld => ?_)
                    clear hK K
                    refine norm_ (a' := ?_) ?_ ?_
                    rotate_left
                    · show Act.put _ (some 41) _ = _
                      simp only [Act.put, List.setIfInBounds_toArray, List.set_cons_zero, List.set_cons_succ, i64_w, i32_w]
                      rfl
                    refine pure_ (i := 9) (N := some 9) (v := ?_) (a' := ?_) #[true, true, true, true, true, true, true, true, true, true] rfl rfl (any_of HT_.out (by kernel_rfl)) (fun _ _ _ h => h) (Or.inl ⟨by rfl, ?_⟩) ?_ ?_
                    rotate_left
                    · intro w'
                      go_simp
                      with_reducible rfl
                    rotate_left
                    · simp only [Act.put, List.setIfInBounds_toArray, List.set_cons_zero, List.set_cons_succ, i64_w, i32_w]
                      rfl
                    refine done_ (done_of HT_.out (by kernel_rfl)) ?_
                    obtain ⟨Ao38, co38, eo38⟩ := Kd.R_slice HO892.out
                    subst eo38
                    try go_wp2_with (first | ((with_reducible refine gate_dst (N := 46) rfl ?_); refine Kd.R_lit (Kd.int .i64) _ 3 ?hg (N := 46) ?hd (xs := ([a1] : List Int)) (inner := [.int .i64 a1]) (ok := fun _ => True) (okp := fun _ => True) ?hr ?hp (fun _ hk => hk) trivial (Below.refl _ _) (Nat.le_refl _) (by simp) ?_; (case hd => rfl); (case hg => rfl); (case hr => first | (go_simp; done) | (go_simp; rfl)); (case hp => exact (Reps.one (show Kd.M (Kd.int .i64) _ _ _ a1 [.int .i64 a1] from rfl) (Reps.none _ _))); intro v894 w39 ho40 hb hg_ hnew_; clear hg_ hnew_; (first | rw [← Ny893.out] at ho40 | (simp only [Int.reduceToNat] at ho40; rw [← Ny893.out] at ho40)); have n0_ := Aside0.mk (Kd.R_elder' (by (with_reducible repeat (first | apply Kd.R_alloc | apply Kd.R_drewN | apply Kd.R_drew)); exact HO892.out) (Kd.R_base ho40) hb); have n1_ := Aside0.mk (Kd.R_lower (Kd.R_new' ho40 (Kd.R_lt (by (with_reducible repeat (first | apply Kd.R_alloc | apply Kd.R_drewN | apply Kd.R_drew)); exact HO892.out))) (below_size (by repeat (first | (with_reducible first | exact HB.out | apply below_alloc | apply pw_below_drewN | apply below_drew1 | refine below_set ?_ GE879.out | refine below_set ?_ GE881.out) | exact HB.out)))); have n2_ := Aside0.mk (blk_below (g := gb879) (o := .cells #[.int .i64 a0_0, .slice (some ad880) l0_1.length c0_1] 49 (0, 0)) (by (with_reducible repeat (first | refine blk_drewN ?_ _ | refine blk_drew ?_ | refine blk_alloc ?_ _)); exact BK879.out) hb); have n3_ := Aside0.mk (blk_below (g := gb881) (o := .cells #[.bool false, .slice (some ad889) ((rd_T90 l0_1 a1).f1.f1).length c880_2] 54 (0, 0)) (by (with_reducible repeat (first | refine blk_drewN ?_ _ | refine blk_drew ?_ | refine blk_alloc ?_ _)); exact BK881.out) hb); have n4_ := Aside0.mk (below_step (by repeat (first | (with_reducible first | exact HB.out | apply below_alloc | apply pw_below_drewN | apply below_drew1 | refine below_set ?_ GE879.out | refine below_set ?_ GE881.out) | exact HB.out)) hb); clear HO892; clear BK879; clear BK881; clear HB; have HO892 := n0_; have HO895 := n1_; have BK879 := n2_; have BK881 := n3_; have HB := n4_; clear n0_ n1_ n2_ n3_ n4_; clear hb ho40) | ((with_reducible refine gate_builtin (b := .append) (xs := #[.tmp 46, .tmp 47]) rfl ?_); at_builtin; refine Kd.R_append_rows (Kd.int .i64) (w0 := w) w.heap.size rfl (.tmp 46) (.tmp 47) 64 3 (.int .i64 0) 8 rfl Try.underlying64 info3 rfl (by decide) (by omega) v894 y893 t890 _ _ _ (fun k_ => some k_ ≠ (.slice Ao38 t890.length co38 : Value).ownBlock) (fun _ => False) rfl rfl ?aO ?aR (fun _ _ h => h) (fun _ h => h.elim) ?aF ?aB ?aS ?aL ?_; (case aR => repeat (first | exact (Kd.R_reads' HO892.out).2.2 | (with_reducible refine Kd.C_alloc ?_ _) | (with_reducible refine Kd.C_drewN ?_ _) | (with_reducible refine Kd.C_drew ?_))); (case aB => exact (by repeat (first | (with_reducible first | exact HB.out | apply below_alloc | apply pw_below_drewN | apply below_drew1 | refine below_set ?_ GE879.out | refine below_set ?_ GE881.out) | exact HB.out))); (case aF => exact (fun k_ hk => Kd.fresh' (Kd.R_lt (by (with_reducible repeat (first | apply Kd.R_alloc | apply Kd.R_drewN | apply Kd.R_drew)); exact HO892.out)) k_ hk)); (case aO => exact (by (with_reducible repeat (first | apply Kd.R_alloc | apply Kd.R_drewN | apply Kd.R_drew)); exact Kd.R_mono HO895.out (fun _ hk => hk.2))); (case aS => exact (below_size (by repeat (first | (with_reducible first | exact HB.out | apply below_alloc | apply pw_below_drewN | apply below_drew1 | refine below_set ?_ GE879.out | refine below_set ?_ GE881.out) | exact HB.out)))); (case aL => have := LMc33.out; omega); intro v897 w41 ho hb hg hat; rw [← Ny896.out] at ho; have n0_ := Aside0.mk (blk_grown (g := gb879) (o := .cells #[.int .i64 a0_0, .slice (some ad880) l0_1.length c0_1] 49 (0, 0)) (by (with_reducible repeat (first | refine blk_drewN ?_ _ | refine blk_drew ?_ | refine blk_alloc ?_ _)); exact BK879.out) hg (Kd.R_ne HO895.out BK879.out (by decide))); have n1_ := Aside0.mk (blk_grown (g := gb881) (o := .cells #[.bool false, .slice (some ad889) ((rd_T90 l0_1 a1).f1.f1).length c880_2] 54 (0, 0)) (by (with_reducible repeat (first | refine blk_drewN ?_ _ | refine blk_drew ?_ | refine blk_alloc ?_ _)); exact BK881.out) hg (Kd.R_ne HO895.out BK881.out (by decide))); have n2_ := Aside0.mk (Kd.R_after (ok := (fun _ => True)) (by (with_reducible repeat (first | apply Kd.R_alloc | apply Kd.R_drewN | apply Kd.R_drew)); exact HO892.out) hg hat); have n3_ := Aside0.mk (hb); have n4_ := Aside0.mk (ho); clear BK879; clear BK881; clear HO892; clear HB; clear HO895; have BK879 := n0_; have BK881 := n1_; have HO892 := n2_; have HB := n3_; have HO898 := n4_; clear n0_ n1_ n2_ n3_ n4_; clear ho hb hg hat))
                    go_ret
                    exact ⟨_, by first | rfl | (simp [errW_none, errW_some] <;> rfl) | (simp [*, errW_none, errW_some] <;> rfl), by (with_reducible repeat (first | apply Kd.R_alloc | apply Kd.R_drewN | apply Kd.R_drew)); exact Kd.R_mono HO898.out (fun _ hk => trivial), by repeat (first | (with_reducible first | exact HB.out | apply below_alloc | apply pw_below_drewN | apply below_drew1 | refine below_set ?_ GE879.out | refine below_set ?_ GE881.out) | exact HB.out)⟩
                  · rw [if_neg c33] at H
                    exact absurd H (by simp)
                · rw [if_neg c32] at H
                  have c32b0 : decide (0 < (t890.length : Int)) = false := decide_eq_false c32
                  have c32b1 : decide (0 < t890.length) = false := decide_eq_false (by omega)
                  clear c32
                  have H' := Aside0.mk H
                  clear H
                  have hnb42 := NB881_879.out
                  have hnc42 := NB879_881.out
                  have hcz43_0 : wr.cell? ⟨gb881, 0, none⟩ = some (.bool false) := (blk_cell BK881.out 0).trans rfl
                  have hcz43_1 : wr.cell? ⟨gb881, 1, none⟩ = some (.slice A880_2 ((rd_T90 l0_1 a1).f1.f1).length c880_2) := (blk_cell BK881.out 1).trans rfl
                  have hfz43_0 := blk_frozen BK881.out 0
                  have hfz43_1 := blk_frozen BK881.out 1
                  try go_wp2
                  have n0_ := Aside0.mk (blk_drew BK879.out)
                  have n1_ := Aside0.mk (blk_drew BK881.out)
                  have n2_ := Aside0.mk (below_drew1 HB.out)
                  clear BK879
                  clear BK881
                  clear HB
                  have BK879 := n0_
                  have BK881 := n1_
                  have HB := n2_
                  clear n0_ n1_ n2_
                  have p889 : 0 ≤ (x8_1 : Int) := of_decide_eq_true (by first | (with_reducible assumption) | assumption)
                  have q889 : x8_1 < (((rd_T90 l0_1 a1).f1.f1).length : Int) := of_decide_eq_true (by first | (with_reducible assumption) | assumption)
                  obtain ⟨ad889, e889, hx889_0, hx889_1, hx889_2, hx889_3, hx889_4⟩ := at_T103 HR880_2.out x8_1 p889 q889
                  have hw889_4 := hx889_4
                  have hw889_3 := hx889_3
                  have hw889_2 := hx889_2
                  have hw889_1 := hx889_1
                  have hw889_0 := hx889_0
                  cases e889
                  replace hx889_0 := (HB.out.cell (World.block_lt_of_cell? w _ hx889_0)).trans hx889_0
                  replace hx889_1 := (HB.out.cell (World.block_lt_of_cell? w _ hx889_1)).trans hx889_1
                  replace hx889_2 := (HB.out.cell (World.block_lt_of_cell? w _ hx889_2)).trans hx889_2
                  replace hx889_3 := (HB.out.cell (World.block_lt_of_cell? w _ hx889_3)).trans hx889_3
                  replace hx889_4 := (HB.out.cell (World.block_lt_of_cell? w _ hx889_4)).trans hx889_4
                  replace p889 := eq_true p889
                  replace q889 := eq_true q889
                  refine start_ (n := 10) (S := fun w' => w'.cell? ⟨gb879, 0, none⟩ = some (.int .i64 a0_0) ∧ w'.cell? ⟨gb879, 1, none⟩ = some (.slice (some ad880) l0_1.length c0_1) ∧ w'.cell? ⟨gb881, 0, none⟩ = some (.bool false) ∧ w'.cell? ⟨gb881, 1, none⟩ = some (.slice (some ad889) ((rd_T90 l0_1 a1).f1.f1).length c880_2) ∧ w'.cell? (ad889.add ((x8_1).toNat * 5)) = some (.int .i64 ((rd_T103 ((rd_T90 l0_1 a1).f1.f1) x8_1).f0)) ∧ w'.cell? ⟨(ad889.add ((x8_1).toNat * 5)).block, (ad889.add ((x8_1).toNat * 5)).off + 1, none⟩ = some (.int .i64 ((rd_T103 ((rd_T90 l0_1 a1).f1.f1) x8_1).f1.f0)) ∧ w'.cell? ⟨(ad889.add ((x8_1).toNat * 5)).block, (ad889.add ((x8_1).toNat * 5)).off + 2, none⟩ = some (.int .i64 ((rd_T103 ((rd_T90 l0_1 a1).f1.f1) x8_1).f1.f1)) ∧ w'.cell? ⟨(ad889.add ((x8_1).toNat * 5)).block, (ad889.add ((x8_1).toNat * 5)).off + 3, none⟩ = some (.int .i64 ((rd_T103 ((rd_T90 l0_1 a1).f1.f1) x8_1).f1.f2)) ∧ w'.cell? ⟨(ad889.add ((x8_1).toNat * 5)).block, (ad889.add ((x8_1).toNat * 5)).off + 4, none⟩ = some (.int .i64 ((rd_T103 ((rd_T90 l0_1 a1).f1.f1) x8_1).f1.f3))) (ds := []) #[false, false, false, false, false, false, false, false, false, false] (by kernel_rfl) rfl rfl ⟨(blk_cell BK879.out 0).trans rfl, (blk_cell BK879.out 1).trans rfl, (blk_cell BK881.out 0).trans rfl, (blk_cell BK881.out 1).trans rfl, ((HB.out.cell (World.block_lt_of_cell? w _ hw889_0)).trans hw889_0), ((HB.out.cell (World.block_lt_of_cell? w _ hw889_1)).trans hw889_1), ((HB.out.cell (World.block_lt_of_cell? w _ hw889_2)).trans hw889_2), ((HB.out.cell (World.block_lt_of_cell? w _ hw889_3)).trans hw889_3), ((HB.out.cell (World.block_lt_of_cell? w _ hw889_4)).trans hw889_4)⟩ (fun hHeld => ?_); refine with_tabW spec_l12Path.tab9 spec_l12Path.bits9 (fun HT_ HW_ => ?_)
                  generalize wr.drew = w44 at BK879 BK881 HB hx889_0 hx889_1 hx889_2 hx889_3 hx889_4 hHeld ⊢
                  refine pure_ (i := 1) (N := some 34) (v := ?_) (a' := ?_) #[false, true, false, false, false, false, false, false, false, false] rfl rfl (any_of HT_.out (by kernel_rfl)) (fun _ _ _ h => h) (Or.inl ⟨by rfl, ?_⟩) ?_ ?_
                  rotate_left
                  · intro w'
                    go_simp
                    with_reducible rfl
                  rotate_left
                  · simp only [Act.put, List.setIfInBounds_toArray, List.set_cons_zero, List.set_cons_succ, i64_w, i32_w]
                    rfl
                  refine pure_ (i := 3) (N := some 36) (v := ?_) (a' := ?_) #[false, true, false, true, false, false, false, false, false, false] rfl rfl (any_of HT_.out (by kernel_rfl)) (fun _ _ _ h => h) (Or.inl ⟨by rfl, ?_⟩) ?_ ?_
                  rotate_left
                  · intro w'
                    go_simp
                    with_reducible rfl
                  rotate_left
                  · simp only [Act.put, List.setIfInBounds_toArray, List.set_cons_zero, List.set_cons_succ, i64_w, i32_w]
                    rfl
                  refine pure_ (i := 7) (N := some 40) (v := ?_) (a' := ?_) #[false, true, false, true, false, false, false, true, false, false] rfl rfl (any_of HT_.out (by kernel_rfl)) (fun _ _ _ h => h) (Or.inl ⟨by rfl, ?_⟩) ?_ ?_
                  rotate_left
                  · intro w'
                    go_simp
                    with_reducible rfl
                  rotate_left
                  · simp only [Act.put, List.setIfInBounds_toArray, List.set_cons_zero, List.set_cons_succ, i64_w, i32_w]
                    rfl
                  refine take_ (i := 0) (N := some 33) (v := ?_) (a' := ?_) #[true, true, false, true, false, false, false, true, false, false] rfl rfl (take_ofW HT_.out HW_.out (by kernel_rfl)) (fun _ _ _ h => h) (Or.inl ⟨by rfl, ?_⟩) hHeld ?_ ?_
                  rotate_left
                  · rintro w' ⟨s0, s1, s2, s3, s4, s5, s6, s7, s8⟩
                    go_simp
                    with_reducible rfl
                  rotate_left
                  · simp only [Act.put, List.setIfInBounds_toArray, List.set_cons_zero, List.set_cons_succ, i64_w, i32_w]
                    rfl
                  refine take_ (i := 2) (N := some 35) (v := ?_) (a' := ?_) #[true, true, true, true, false, false, false, true, false, false] rfl rfl (take_ofW HT_.out HW_.out (by kernel_rfl)) (fun _ _ _ h => h) (Or.inl ⟨by rfl, ?_⟩) hHeld ?_ ?_
                  rotate_left
                  · rintro w' ⟨s0, s1, s2, s3, s4, s5, s6, s7, s8⟩
                    go_simp
                    with_reducible rfl
                  rotate_left
                  · simp only [Act.put, List.setIfInBounds_toArray, List.set_cons_zero, List.set_cons_succ, i64_w, i32_w]
                    rfl
                  refine pure_ (i := 4) (N := some 37) (v := ?_) (a' := ?_) #[true, true, true, true, true, false, false, true, false, false] rfl rfl (any_of HT_.out (by kernel_rfl)) (fun _ _ _ h => h) (Or.inl ⟨by rfl, ?_⟩) ?_ ?_
                  rotate_left
                  · intro w'
                    go_simp
                    with_reducible rfl
                  rotate_left
                  · simp only [Act.put, List.setIfInBounds_toArray, List.set_cons_zero, List.set_cons_succ, i64_w, i32_w]
                    rfl
                  refine pure_ (i := 5) (N := some 38) (v := ?_) (a' := ?_) #[true, true, true, true, true, true, false, true, false, false] rfl rfl (any_of HT_.out (by kernel_rfl)) (fun _ _ _ h => h) (Or.inl ⟨by rfl, ?_⟩) ?_ ?_
                  rotate_left
                  · intro w'
                    go_simp
                    with_reducible rfl
                  rotate_left
                  · simp only [Act.put, List.setIfInBounds_toArray, List.set_cons_zero, List.set_cons_succ, i64_w, i32_w]
                    rfl
                  refine take_ (i := 6) (N := some 39) (v := ?_) (a' := ?_) #[true, true, true, true, true, true, true, true, false, false] rfl rfl (take_ofW HT_.out HW_.out (by kernel_rfl)) (fun _ _ _ h => h) (Or.inl ⟨by rfl, ?_⟩) hHeld ?_ ?_
                  rotate_left
                  · rintro w' ⟨s0, s1, s2, s3, s4, s5, s6, s7, s8⟩
                    go_simp
                    with_reducible rfl
                  rotate_left
                  · simp only [Act.put, List.setIfInBounds_toArray, List.set_cons_zero, List.set_cons_succ, i64_w, i32_w]
                    rfl
                  refine one_ (i := 8) (N := some 41) #[true, true, true, true, true, true, true, true, true, false] rfl rfl (one_of HT_.out (by kernel_rfl)) (by decide) (fun K hK => ?_)
                  refine goes_ Try.func101 (by kernel_rfl) rfl #[.agg #[.int .i64 a0_0, .slice (some ad880) l0_1.length c0_1], .int .i64 ((rd_T103 ((rd_T90 l0_1 a1).f1.f1) x8_1).f0), .int .i64 a2] (by rfl) rfl rfl (by (try simp only [List.map_toArray, List.map_cons, List.map_nil]); first | done | rfl | (simp only [List.length_drop, List.length_take]; rfl)) ?_
                  with_reducible refine (ih k1 (by have := HK1.out; omega) a0_0 _ _ l0_1 ((rd_T103 ((rd_T90 l0_1 a1).f1.f1) x8_1).f0) a2 t890 _ ?side1 ?side2 A31.out).mono ?_
                  (case side1 => repeat (first | exact (Kd.C_below HR0_1.out HB.out) | (with_reducible refine Kd.C_alloc ?_ _) | (with_reducible refine Kd.C_drewN ?_ _) | (with_reducible refine Kd.C_drew ?_)))
                  (case side2 => exact HC0_1.out)
                  rintro e w45 ⟨v891, rfl, ho0, hb⟩
                  refine ⟨_, rfl, ?_⟩
                  have n0_ := Aside0.mk (Kd.R_lower ho0 (below_size (by repeat (first | (with_reducible first | exact HB.out | apply below_alloc | apply pw_below_drewN | apply below_drew1 | refine below_set ?_ GE879.out | refine below_set ?_ GE881.out) | exact HB.out))))
                  have n1_ := Aside0.mk (blk_below (g := gb879) (o := .cells #[.int .i64 a0_0, .slice (some ad880) l0_1.length c0_1] 49 (0, 0)) (by (with_reducible repeat (first | refine blk_drewN ?_ _ | refine blk_drew ?_ | refine blk_alloc ?_ _)); exact BK879.out) hb)
                  have n2_ := Aside0.mk (blk_below (g := gb881) (o := .cells #[.bool false, .slice (some ad889) ((rd_T90 l0_1 a1).f1.f1).length c880_2] 54 (0, 0)) (by (with_reducible repeat (first | refine blk_drewN ?_ _ | refine blk_drew ?_ | refine blk_alloc ?_ _)); exact BK881.out) hb)
                  have n3_ := Aside0.mk (below_step (by repeat (first | (with_reducible first | exact HB.out | apply below_alloc | apply pw_below_drewN | apply below_drew1 | refine below_set ?_ GE879.out | refine below_set ?_ GE881.out) | exact HB.out)) hb)
                  clear BK879
                  clear BK881
                  clear HB
                  have HO892 := n0_
                  have BK879 := n1_
                  have BK881 := n2_
                  have HB := n3_
                  clear n0_ n1_ n2_ n3_
                  (try clear hb)
                  (try clear hb2)
                  (try clear hk)
                  (try clear hi)
                  (try clear ho0)
                  refine hK.out _ _ ⟨(blk_cell BK879.out 0).trans rfl, (blk_cell BK879.out 1).trans rfl, (blk_cell BK881.out 0).trans rfl, (blk_cell BK881.out 1).trans rfl, ((HB.out.cell (World.block_lt_of_cell? w _ hw889_0)).trans hw889_0), ((HB.out.cell (World.block_lt_of_cell? w _ hw889_1)).trans hw889_1), ((HB.out.cell (World.block_lt_of_cell? w _ hw889_2)).trans hw889_2), ((HB.out.cell (World.block_lt_of_cell? w _ hw889_3)).trans hw889_3), ((HB.out.cell (World.block_lt_of_cell? w _ hw889_4)).trans hw889_4)⟩ (fun hHeld => ?_)
                  clear hK K
                  refine norm_ (a' := ?_) ?_ ?_
                  rotate_left
                  · show Act.put _ (some 41) _ = _
                    simp only [Act.put, List.setIfInBounds_toArray, List.set_cons_zero, List.set_cons_succ, i64_w, i32_w]
                    rfl
                  refine pure_ (i := 9) (N := some 9) (v := ?_) (a' := ?_) #[true, true, true, true, true, true, true, true, true, true] rfl rfl (any_of HT_.out (by kernel_rfl)) (fun _ _ _ h => h) (Or.inl ⟨by rfl, ?_⟩) ?_ ?_
                  rotate_left
                  · intro w'
                    go_simp
                    with_reducible rfl
                  rotate_left
                  · simp only [Act.put, List.setIfInBounds_toArray, List.set_cons_zero, List.set_cons_succ, i64_w, i32_w]
                    rfl
                  refine done_ (done_of HT_.out (by kernel_rfl)) ?_
                  obtain ⟨Ao46, co46, eo46⟩ := Kd.R_slice HO892.out
                  subst eo46
                  try go_wp2
                  go_roundg k1
                  case measure => have := HK1.out; omega
                  case rel => exact ⟨(wrap64 (x8_1 + 1)), (by first | rfl | (simp; done) | (simp [*]; done)), H', ⟨by have := HK1.out; omega⟩, ⟨by (with_reducible repeat (first | refine blk_drewN ?_ _ | refine blk_drew ?_ | refine blk_alloc ?_ _)); exact BK879.out⟩, ⟨by (with_reducible repeat (first | refine blk_drewN ?_ _ | refine blk_drew ?_ | refine blk_alloc ?_ _)); exact BK881.out⟩, ⟨by repeat (first | (with_reducible first | exact HB.out | apply below_alloc | apply pw_below_drewN | apply below_drew1 | refine below_set ?_ GE879.out | refine below_set ?_ GE881.out) | exact HB.out)⟩⟩
              · rw [if_neg c30] at H
                exact absurd H (by simp)
            · rw [if_neg c29] at H
              have c29b0 : decide (x8_1 < (((rd_T90 l0_1 a1).f1.f1).length : Int)) = false := decide_eq_false c29
              clear c29
              obtain ⟨y899, hy899⟩ : ∃ y_ : List Int, y_ = (([] : List Int)) := ⟨_, rfl⟩
              replace H : (some y899) = some r := by first | (rw [hy899]; with_reducible exact H) | (have H2_ := (Option.bind_some _ _).symm.trans H; rw [hy899]; with_reducible exact H2_) | (have H2_ := (Option.bind_some _ _).symm.trans H; with_reducible exact H2_) | with_reducible exact H | (rw [hy899]; exact H) | exact H
              have Ny899 := Aside0.mk hy899
              clear hy899
              obtain rfl := Option.some.inj H
              have hnb47 := NB881_879.out
              have hnc47 := NB879_881.out
              have hcz48_0 : wr.cell? ⟨gb881, 0, none⟩ = some (.bool false) := (blk_cell BK881.out 0).trans rfl
              have hcz48_1 : wr.cell? ⟨gb881, 1, none⟩ = some (.slice A880_2 ((rd_T90 l0_1 a1).f1.f1).length c880_2) := (blk_cell BK881.out 1).trans rfl
              have hfz48_0 := blk_frozen BK881.out 0
              have hfz48_1 := blk_frozen BK881.out 1
              go_wp2_with (first | ((with_reducible refine gate_dst (N := 49) rfl ?_); refine Kd.R_lit (Kd.int .i64) _ 3 ?hg (N := 49) ?hd (xs := ([] : List Int)) (inner := []) (ok := fun _ => True) (okp := fun _ => True) ?hr ?hp (fun _ hk => hk) trivial (Below.refl _ _) (Nat.le_refl _) (by simp) ?_; (case hd => rfl); (case hg => rfl); (case hr => first | (go_simp; done) | (go_simp; rfl)); (case hp => exact (Reps.none _ _)); intro v900 w49 ho50 hb hg_ hnew_; clear hg_ hnew_; (first | rw [← Ny899.out] at ho50 | (simp only [Int.reduceToNat] at ho50; rw [← Ny899.out] at ho50)); have n0_ := Aside0.mk (Kd.R_lower ho50 (below_size (by repeat (first | (with_reducible first | exact HB.out | apply below_alloc | apply pw_below_drewN | apply below_drew1 | refine below_set ?_ GE879.out | refine below_set ?_ GE881.out) | exact HB.out)))); have n1_ := Aside0.mk (blk_below (g := gb879) (o := .cells #[.int .i64 a0_0, .slice (some ad880) l0_1.length c0_1] 49 (0, 0)) (by (with_reducible repeat (first | refine blk_drewN ?_ _ | refine blk_drew ?_ | refine blk_alloc ?_ _)); exact BK879.out) hb); have n2_ := Aside0.mk (blk_below (g := gb881) (o := .cells #[.bool false, .slice A880_2 ((rd_T90 l0_1 a1).f1.f1).length c880_2] 54 (0, 0)) (by (with_reducible repeat (first | refine blk_drewN ?_ _ | refine blk_drew ?_ | refine blk_alloc ?_ _)); exact BK881.out) hb); have n3_ := Aside0.mk (below_step (by repeat (first | (with_reducible first | exact HB.out | apply below_alloc | apply pw_below_drewN | apply below_drew1 | refine below_set ?_ GE879.out | refine below_set ?_ GE881.out) | exact HB.out)) hb); clear BK879; clear BK881; clear HB; have HO901 := n0_; have BK879 := n1_; have BK881 := n2_; have HB := n3_; clear n0_ n1_ n2_ n3_; clear hb ho50))
              go_ret
              exact ⟨_, by first | rfl | (simp [errW_none, errW_some] <;> rfl) | (simp [*, errW_none, errW_some] <;> rfl), by (with_reducible repeat (first | apply Kd.R_alloc | apply Kd.R_drewN | apply Kd.R_drew)); exact HO901.out, by repeat (first | (with_reducible first | exact HB.out | apply below_alloc | apply pw_below_drewN | apply below_drew1 | refine below_set ?_ GE879.out | refine below_set ?_ GE881.out) | exact HB.out)⟩
    · rw [if_neg c5] at H
      exact absurd H (by simp)
  · rw [if_neg c4] at H
    exact absurd H (by simp)

end Go.Proofs.Ytngjaajcdbodeaa.All
