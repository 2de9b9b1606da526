/- The texts on which the row FnExactSearch rests, part 2: contracts of the functions that it reaches and plain laws of what they compute. No condition. -/
import Derived.Test.YtngjaajcdbodeaaMgFnExactSearch1
namespace Go.Proofs.Ytngjaajcdbodeaa.All
open Go.RowKit Go.Proofs.YtngjaajcdbodeaaW.PrintWords Go.Proofs.YtngjaajcdbodeaaW.PrintLast Go.Proofs.YtngjaajcdbodeaaW.PrintMore Go.Proofs.Ytngjaajcdbodeaa.Sq
attribute [local go_sem] max2_int min2_int max_two min_two max_three min_three max_four min_four 
set_option linter.unusedVariables false
set_option linter.unusedSimpArgs false

/-! ### spec_BookOk: function 41 -/
mutual
def spec_BookOk.j0 : Nat → List Int → Bool → Int → List (S90) → Option (Bool)
  | 0, _, _, _, _ => none
  | k + 1, x3, x20, x590000, x590001 => if x20 = true then (some false) else (spec_BookOk.l0 k x3 0 x590000 x590001)
def spec_BookOk.l0 : Nat → List Int → Int → Int → List (S90) → Option (Bool)
  | 0, _, _, _, _ => none
  | k + 1, x3, x4, x590000, x590001 => if x4 < (x590001.length : Int) then (if 0 ≤ x4 then (if (rd_T90 x590001 x4).f0 = true then ((spec_NodeOk.f k ((rd_T90 x590001 x4).f1.f0) ((rd_T90 x590001 x4).f1.f1)).bind fun t596 => (if t596 = true then (if ((rd_T90 x590001 x4).f0 = true) then (spec_BookOk.l0 k x3 (wrap64 (x4 + 1)) x590000 x590001) else (if (rd_T90 x590001 x4).f1.f0 = true then (some false) else (if (((rd_T90 x590001 x4).f1.f1).length : Int) > 0 then (some false) else (spec_BookOk.l0 k x3 (wrap64 (x4 + 1)) x590000 x590001)))) else (some false))) else (if ((rd_T90 x590001 x4).f0 = true) then (spec_BookOk.l0 k x3 (wrap64 (x4 + 1)) x590000 x590001) else (if (rd_T90 x590001 x4).f1.f0 = true then (some false) else (if (((rd_T90 x590001 x4).f1.f1).length : Int) > 0 then (some false) else (spec_BookOk.l0 k x3 (wrap64 (x4 + 1)) x590000 x590001))))) else (none)) else (spec_BookOk.l1 k x3 0 0 x590000 x590001)
def spec_BookOk.l1 : Nat → List Int → Int → Int → Int → List (S90) → Option (Bool)
  | 0, _, _, _, _, _ => none
  | k + 1, x3, x5, x6, x590000, x590001 => if x6 < (x3.length : Int) then (if 0 ≤ x6 then (if 0 ≤ (rd x3 x6) then (if (rd x3 x6) < (x590001.length : Int) then (spec_BookOk.l2 k x3 x5 x6 0 x590000 x590001 ((rd_T90 x590001 (rd x3 x6)).f1.f0) ((rd_T90 x590001 (rd x3 x6)).f1.f1)) else (none)) else (none)) else (none)) else (some (x5 == (wrap64 ((x3.length : Int) - 1))))
def spec_BookOk.l2 : Nat → List Int → Int → Int → Int → Int → List (S90) → Bool → List (S103) → Option (Bool)
  | 0, _, _, _, _, _, _, _, _ => none
  | k + 1, x3, x5, x6, x8, x590000, x590001, x606000, x606001 => if x8 < (x606001.length : Int) then (spec_BookOk.j4 k x3 x5 x6 x8 (!x606000) x590000 x590001 x606000 x606001) else (spec_BookOk.j4 k x3 x5 x6 x8 false x590000 x590001 x606000 x606001)
def spec_BookOk.j4 : Nat → List Int → Int → Int → Int → Bool → Int → List (S90) → Bool → List (S103) → Option (Bool)
  | 0, _, _, _, _, _, _, _, _, _ => none
  | k + 1, x3, x5, x6, x8, x97, x590000, x590001, x606000, x606001 => if x97 = true then (if 0 ≤ x8 then (if x8 < (x606001.length : Int) then ((spec_l7Has.f k x3 ((rd_T103 x606001 x8).f0)).bind fun t607 => (if t607 = true then (if ((rd_T103 x606001 x8).f0) = x590000 then (some false) else (spec_BookOk.l2 k x3 (wrap64 (x5 + 1)) x6 (wrap64 (x8 + 1)) x590000 x590001 x606000 x606001)) else (some false))) else (none)) else (none)) else (spec_BookOk.l1 k x3 x5 (wrap64 (x6 + 1)) x590000 x590001)
end
def spec_BookOk.f (k : Nat) (a0_0 : Int) (l0_1 : List (S90)) : Option (Bool) := (spec_Reach.f k a0_0 l0_1).bind fun t590 => ((spec_l1In.f (l0_1.length : Int) 1 48).bind fun t593 => (if t593 = true then (spec_BookOk.j0 k t590 ((t590.length : Int) == 0) a0_0 l0_1) else (spec_BookOk.j0 k t590 true a0_0 l0_1)))
theorem spec_BookOk.mono_l : ∀ k, (∀ y0 y1 y2 y3, LeO (spec_BookOk.j0 k y0 y1 y2 y3) (spec_BookOk.j0 (k + 1) y0 y1 y2 y3)) ∧ (∀ y0 y1 y2 y3, LeO (spec_BookOk.l0 k y0 y1 y2 y3) (spec_BookOk.l0 (k + 1) y0 y1 y2 y3)) ∧ (∀ y0 y1 y2 y3 y4, LeO (spec_BookOk.l1 k y0 y1 y2 y3 y4) (spec_BookOk.l1 (k + 1) y0 y1 y2 y3 y4)) ∧ (∀ y0 y1 y2 y3 y4 y5 y6 y7, LeO (spec_BookOk.l2 k y0 y1 y2 y3 y4 y5 y6 y7) (spec_BookOk.l2 (k + 1) y0 y1 y2 y3 y4 y5 y6 y7)) ∧ (∀ y0 y1 y2 y3 y4 y5 y6 y7 y8, LeO (spec_BookOk.j4 k y0 y1 y2 y3 y4 y5 y6 y7 y8) (spec_BookOk.j4 (k + 1) y0 y1 y2 y3 y4 y5 y6 y7 y8))
  | 0 => ⟨fun _ _ _ _ r h => by simp [spec_BookOk.j0] at h, fun _ _ _ _ r h => by simp [spec_BookOk.l0] at h, fun _ _ _ _ _ r h => by simp [spec_BookOk.l1] at h, fun _ _ _ _ _ _ _ _ r h => by simp [spec_BookOk.l2] at h, fun _ _ _ _ _ _ _ _ _ r h => by simp [spec_BookOk.j4] at h⟩
  | k + 1 => by
    obtain ⟨ih0, ih1, ih2, ih3, ih4⟩ := spec_BookOk.mono_l k; refine ⟨?_, ?_, ?_, ?_, ?_⟩
    · intro y0 y1 y2 y3
      unfold spec_BookOk.j0
      repeat' first | (with_reducible first | exact ih0 _ _ _ _ | exact ih1 _ _ _ _ | exact ih2 _ _ _ _ _ | exact ih3 _ _ _ _ _ _ _ _ | exact ih4 _ _ _ _ _ _ _ _ _ | exact spec_NodeOk.mono _ _ _ | exact spec_Reach.mono _ _ _ | exact spec_l7Has.mono _ _ _ | exact LeO.refl _ | exact LeO.none _ | refine LeO.ite ?_ ?_ | refine LeO.bind ?_ (fun _ => ?_)) | exact ih0 _ _ _ _ | exact ih1 _ _ _ _ | exact ih2 _ _ _ _ _ | exact ih3 _ _ _ _ _ _ _ _ | exact ih4 _ _ _ _ _ _ _ _ _ | exact spec_NodeOk.mono _ _ _ | exact spec_Reach.mono _ _ _ | exact spec_l7Has.mono _ _ _ | exact LeO.none _ | refine LeO.ite ?_ ?_ | refine LeO.bind ?_ (fun _ => ?_)
    · intro y0 y1 y2 y3
      unfold spec_BookOk.l0
      repeat' first | (with_reducible first | exact ih0 _ _ _ _ | exact ih1 _ _ _ _ | exact ih2 _ _ _ _ _ | exact ih3 _ _ _ _ _ _ _ _ | exact ih4 _ _ _ _ _ _ _ _ _ | exact spec_NodeOk.mono _ _ _ | exact spec_Reach.mono _ _ _ | exact spec_l7Has.mono _ _ _ | exact LeO.refl _ | exact LeO.none _ | refine LeO.ite ?_ ?_ | refine LeO.bind ?_ (fun _ => ?_)) | exact ih0 _ _ _ _ | exact ih1 _ _ _ _ | exact ih2 _ _ _ _ _ | exact ih3 _ _ _ _ _ _ _ _ | exact ih4 _ _ _ _ _ _ _ _ _ | exact spec_NodeOk.mono _ _ _ | exact spec_Reach.mono _ _ _ | exact spec_l7Has.mono _ _ _ | exact LeO.none _ | refine LeO.ite ?_ ?_ | refine LeO.bind ?_ (fun _ => ?_)
    · intro y0 y1 y2 y3 y4
      unfold spec_BookOk.l1
      repeat' first | (with_reducible first | exact ih0 _ _ _ _ | exact ih1 _ _ _ _ | exact ih2 _ _ _ _ _ | exact ih3 _ _ _ _ _ _ _ _ | exact ih4 _ _ _ _ _ _ _ _ _ | exact spec_NodeOk.mono _ _ _ | exact spec_Reach.mono _ _ _ | exact spec_l7Has.mono _ _ _ | exact LeO.refl _ | exact LeO.none _ | refine LeO.ite ?_ ?_ | refine LeO.bind ?_ (fun _ => ?_)) | exact ih0 _ _ _ _ | exact ih1 _ _ _ _ | exact ih2 _ _ _ _ _ | exact ih3 _ _ _ _ _ _ _ _ | exact ih4 _ _ _ _ _ _ _ _ _ | exact spec_NodeOk.mono _ _ _ | exact spec_Reach.mono _ _ _ | exact spec_l7Has.mono _ _ _ | exact LeO.none _ | refine LeO.ite ?_ ?_ | refine LeO.bind ?_ (fun _ => ?_)
    · intro y0 y1 y2 y3 y4 y5 y6 y7
      unfold spec_BookOk.l2
      repeat' first | (with_reducible first | exact ih0 _ _ _ _ | exact ih1 _ _ _ _ | exact ih2 _ _ _ _ _ | exact ih3 _ _ _ _ _ _ _ _ | exact ih4 _ _ _ _ _ _ _ _ _ | exact spec_NodeOk.mono _ _ _ | exact spec_Reach.mono _ _ _ | exact spec_l7Has.mono _ _ _ | exact LeO.refl _ | exact LeO.none _ | refine LeO.ite ?_ ?_ | refine LeO.bind ?_ (fun _ => ?_)) | exact ih0 _ _ _ _ | exact ih1 _ _ _ _ | exact ih2 _ _ _ _ _ | exact ih3 _ _ _ _ _ _ _ _ | exact ih4 _ _ _ _ _ _ _ _ _ | exact spec_NodeOk.mono _ _ _ | exact spec_Reach.mono _ _ _ | exact spec_l7Has.mono _ _ _ | exact LeO.none _ | refine LeO.ite ?_ ?_ | refine LeO.bind ?_ (fun _ => ?_)
    · intro y0 y1 y2 y3 y4 y5 y6 y7 y8
      unfold spec_BookOk.j4
      repeat' first | (with_reducible first | exact ih0 _ _ _ _ | exact ih1 _ _ _ _ | exact ih2 _ _ _ _ _ | exact ih3 _ _ _ _ _ _ _ _ | exact ih4 _ _ _ _ _ _ _ _ _ | exact spec_NodeOk.mono _ _ _ | exact spec_Reach.mono _ _ _ | exact spec_l7Has.mono _ _ _ | exact LeO.refl _ | exact LeO.none _ | refine LeO.ite ?_ ?_ | refine LeO.bind ?_ (fun _ => ?_)) | exact ih0 _ _ _ _ | exact ih1 _ _ _ _ | exact ih2 _ _ _ _ _ | exact ih3 _ _ _ _ _ _ _ _ | exact ih4 _ _ _ _ _ _ _ _ _ | exact spec_NodeOk.mono _ _ _ | exact spec_Reach.mono _ _ _ | exact spec_l7Has.mono _ _ _ | exact LeO.none _ | refine LeO.ite ?_ ?_ | refine LeO.bind ?_ (fun _ => ?_)
theorem spec_BookOk.mono : ∀ a0 a1 k, LeO (spec_BookOk.f k a0 a1) (spec_BookOk.f (k + 1) a0 a1) := by
  intro a0 a1 k
  obtain ⟨ih0, ih1, ih2, ih3, ih4⟩ := spec_BookOk.mono_l k; unfold spec_BookOk.f
  repeat' first | (with_reducible first | exact ih0 _ _ _ _ | exact ih1 _ _ _ _ | exact ih2 _ _ _ _ _ | exact ih3 _ _ _ _ _ _ _ _ | exact ih4 _ _ _ _ _ _ _ _ _ | exact spec_NodeOk.mono _ _ _ | exact spec_Reach.mono _ _ _ | exact spec_l7Has.mono _ _ _ | exact LeO.refl _ | exact LeO.none _ | refine LeO.ite ?_ ?_ | refine LeO.bind ?_ (fun _ => ?_)) | exact ih0 _ _ _ _ | exact ih1 _ _ _ _ | exact ih2 _ _ _ _ _ | exact ih3 _ _ _ _ _ _ _ _ | exact ih4 _ _ _ _ _ _ _ _ _ | exact spec_NodeOk.mono _ _ _ | exact spec_Reach.mono _ _ _ | exact spec_l7Has.mono _ _ _ | exact LeO.none _ | refine LeO.ite ?_ ?_ | refine LeO.bind ?_ (fun _ => ?_)
def spec_BookOk.T13 : Bool × List (List Nat × List Nat) := (true, [([], []), ([0], [0]), ([], []), ([], []), ([2, 3], [2, 3]), ([4], [4]), ([1, 5], [1, 5]), ([6], [6]), ([7], [7]), ([], []), ([9, 8, 0, 1, 2, 3, 4, 5, 6, 7, 8, 9], [8, 9])])
def spec_BookOk.B13 : List Nat := [0, 1, 0, 0, 12, 28, 63, 127, 255, 0, 1023]
theorem spec_BookOk.tab13 : rtab .any (opsOf Try.f41 13) = spec_BookOk.T13 := by kernel_rfl
theorem spec_BookOk.bits13 : waitsOk spec_BookOk.T13.2 spec_BookOk.B13 = true := by kernel_rfl
def spec_BookOk.T17 : Bool × List (List Nat × List Nat) := (true, [([], []), ([], []), ([1], [1]), ([], []), ([2, 3], [2, 3]), ([4], [4]), ([5], [5]), ([0, 6], [0, 6]), ([7], [7]), ([8, 7], [8]), ([9], [9]), ([10, 9], [9, 10]), ([9], [9]), ([11, 12, 9], [9, 11, 12]), ([13, 9], [9, 13]), ([14, 9], [9, 14]), ([9], [9]), ([16, 9], [9, 16]), ([15, 17, 9], [9, 15, 17]), ([9, 18], [9, 18])])
def spec_BookOk.B17 : List Nat := [0, 0, 2, 0, 14, 30, 62, 127, 255, 511, 1023, 2047, 1023, 8191, 16383, 32767, 1023, 66559, 262143, 524287]
theorem spec_BookOk.tab17 : rtab .any (opsOf Try.f41 17) = spec_BookOk.T17 := by kernel_rfl
theorem spec_BookOk.bits17 : waitsOk spec_BookOk.T17.2 spec_BookOk.B17 = true := by kernel_rfl
set_option maxHeartbeats 8000000 in
set_option maxRecDepth 100000 in
theorem spec_BookOk.calls (k : Nat) (a0_0 : Int) (A0_1 : Option Addr) (c0_1 : Nat) (l0_1 : List (S90)) (r : Bool) (w : World) (hr0_1 : Kd.C k90 w A0_1 l0_1.length l0_1) (hc0_1 : l0_1.length ≤ c0_1) (h : spec_BookOk.f k a0_0 l0_1 = some r) :
    Calls Try.prog 41 #[.agg #[.int .i64 a0_0, .slice A0_1 l0_1.length c0_1]] w fun e w' => e = .returned (.bool r) ∧ Below w.heap.size w w' := by
  have hu49 := Try.underlying49; have hu54 := Try.underlying54; have HR0_1 := Aside0.mk hr0_1; have HC0_1 := Aside0.mk hc0_1; clear hr0_1 hc0_1; have HB := Aside0.mk (Below.refl w.heap.size w); have H : ((spec_Reach.f k a0_0 l0_1).bind fun t590 => ((spec_l1In.f (l0_1.length : Int) 1 48).bind fun t593 => (if t593 = true then (spec_BookOk.j0 k t590 ((t590.length : Int) == 0) a0_0 l0_1) else (spec_BookOk.j0 k t590 true a0_0 l0_1)))) = some r := h; clear h; replace H := Option.bind_eq_some_iff.mp H; obtain ⟨t590, A20, H⟩ := H; replace H : ((spec_l1In.f (l0_1.length : Int) 1 48).bind fun t593 => (if t593 = true then (spec_BookOk.j0 k t590 ((t590.length : Int) == 0) a0_0 l0_1) else (spec_BookOk.j0 k t590 true a0_0 l0_1))) = some r := H; have A2 := Aside0.mk A20; clear A20; have HC3 := Aside0.mk H; clear H
  go_enter Try.func41, Try.ntmps41
  go_upto_region 2 with (first | ((with_reducible refine gate_dst (N := 1) rfl ?_); (try (refine gate_guard (by rfl) ?_; dsimp only)); refine box_event ?hg (N := 1) ?hd (cs := #[.int .i64 a0_0, .slice A0_1 l0_1.length c0_1]) (t := 49) ?hr ?_; (case hd => rfl); (case hg => rfl); (case hr => first | (go_simp; done) | (go_simp; rfl)); intro gb589 hg w4 hbox hb; have n0_ := Aside0.mk (below_step (bz HB.out) hb); have n1_ := Aside0.mk (hbox); have n2_ := Aside0.mk ((by rw [hg]; exact (below_size (bz HB.out)) : w.heap.size ≤ gb589)); have n3_ := Aside0.mk ((by rw [hg]; exact (below_size (bz HB.out)) : w.heap.size ≤ gb589)); clear HB; have HB := n0_; have BK589 := n1_; have GW589 := n2_; have GE589 := n3_; clear n0_ n1_ n2_ n3_; clear hb hbox hg; have hcz5_0 := fz BK589.out 0 (.int .i64 a0_0); have hcz5_1 := fz BK589.out 1 (.slice A0_1 l0_1.length c0_1); have hfz5_0 := blk_frozen BK589.out 0; have hfz5_1 := blk_frozen BK589.out 1) | ((with_reducible refine gate_callee (f := 85) rfl ?_); refine goesL_ (some 10) rfl rfl Try.func85 (by kernel_rfl) rfl #[.agg #[.int .i64 a0_0, .slice A0_1 l0_1.length c0_1]] rfl dz ?_; (with_reducible refine (spec_Reach.calls k a0_0 _ _ l0_1 t590 _ ?side1 ?side2 A2.out).mono ?_); (case side1 => exact sz HR0_1.out HB.out); (case side2 => exact HC0_1.out); rintro e w6 ⟨v591, rfl, ho0, hb⟩; refine ⟨_, rfl, ?_⟩; have n0_ := Aside0.mk (Kd.R_lower ho0 (below_size (b1 GE589.out HB.out))); have n1_ := Aside0.mk (blk_below (g := gb589) (o := .cells #[.int .i64 a0_0, .slice A0_1 l0_1.length c0_1] 49 (0, 0)) (kz BK589.out) hb); have n2_ := Aside0.mk (below_step (b1 GE589.out HB.out) hb); clear BK589; clear HB; have HO592 := n0_; have BK589 := n1_; have HB := n2_; clear n0_ n1_ n2_; (try clear hb); (try clear hb2); (try clear hk); (try clear hi); (try clear ho0)))
  (try simp only [Act.put, List.setIfInBounds_toArray, List.set_cons_zero, List.set_cons_succ])
  go_cut [20] (fun v20 wc => ∃ (kq : Nat) (x20_2 : Bool), v20 = .bool x20_2 ∧ Aside0 (spec_BookOk.j0 kq t590 x20_2 a0_0 l0_1 = some r) ∧ Aside0 (kq ≤ k) ∧ Aside0 (Kd.R (Kd.int .i64) 3 wc w.heap.size (fun _ => True) v591 t590) ∧ Aside0 (wc.heap[gb589]? = some (.cells #[.int .i64 a0_0, (.slice A0_1 l0_1.length c0_1)] 49 (0, 0))) ∧ Aside0 (Below w.heap.size w wc))
  case first =>
    have H := HC3.out; clear HC3; replace H := Option.bind_eq_some_iff.mp H; obtain ⟨t593, A70, H⟩ := H; replace H : (if t593 = true then (spec_BookOk.j0 k t590 ((t590.length : Int) == 0) a0_0 l0_1) else (spec_BookOk.j0 k t590 true a0_0 l0_1)) = some r := H; have A7 := Aside0.mk A70; clear A70
    by_cases c8 : t593 = true
    · subst c8
      replace H : (spec_BookOk.j0 k t590 ((t590.length : Int) == 0) a0_0 l0_1) = some r := (by rw [if_pos rfl] at H; exact H); have H' := Aside0.mk H; clear H; have hcz9_0 := fz BK589.out 0 (.int .i64 a0_0); have hcz9_1 := fz BK589.out 1 (.slice A0_1 l0_1.length c0_1); have hfz9_0 := blk_frozen BK589.out 0; have hfz9_1 := blk_frozen BK589.out 1
      go_wp2_with (first | ((with_reducible refine gate_callee (f := 72) rfl ?_); refine goesL_ (some 14) rfl rfl Try.func72 (by kernel_rfl) rfl #[.int .i64 (l0_1.length : Int), .int .i64 1, .int .i64 48] rfl dz ?_; (with_reducible refine (spec_l1In.calls (l0_1.length : Int) 1 48 true _ A7.out).mono ?_); rintro e w' ⟨rfl, ⟨nd, rfl⟩⟩; refine ⟨_, rfl, ?_⟩; obtain ⟨Ao10, co10, eo10⟩ := Kd.R_slice HO592.out; subst eo10))
      go_meet
      case rel => exact ⟨_, (((t590.length : Int) == 0)), az, H', ⟨lz⟩, ⟨rz HO592.out⟩, ⟨kz BK589.out⟩, ⟨b1 GE589.out HB.out⟩⟩
    · replace c8 := Bool.eq_false_iff.mpr c8
      subst c8; replace H : (spec_BookOk.j0 k t590 true a0_0 l0_1) = some r := (by rw [if_neg (show ¬ (false = true) by decide)] at H; exact H); have H' := Aside0.mk H; clear H; have hcz11_0 := fz BK589.out 0 (.int .i64 a0_0); have hcz11_1 := fz BK589.out 1 (.slice A0_1 l0_1.length c0_1); have hfz11_0 := blk_frozen BK589.out 0; have hfz11_1 := blk_frozen BK589.out 1
      go_wp2_with (first | ((with_reducible refine gate_callee (f := 72) rfl ?_); refine goesL_ (some 14) rfl rfl Try.func72 (by kernel_rfl) rfl #[.int .i64 (l0_1.length : Int), .int .i64 1, .int .i64 48] rfl dz ?_; (with_reducible refine (spec_l1In.calls (l0_1.length : Int) 1 48 false _ A7.out).mono ?_); rintro e w' ⟨rfl, ⟨nd, rfl⟩⟩; refine ⟨_, rfl, ?_⟩))
      go_meet
      case rel => exact ⟨_, (true), az, H', ⟨lz⟩, ⟨rz HO592.out⟩, ⟨kz BK589.out⟩, ⟨b1 GE589.out HB.out⟩⟩
  case rest =>
    clear HC3; (try clear p2); (try clear c4); (try clear c7); (try clear c8); (try clear hcz11_0); (try clear hcz11_1); (try clear hcz5_0); (try clear hcz5_1); (try clear hcz9_0); (try clear hcz9_1); (try clear hfz11_0); (try clear hfz11_1); (try clear hfz5_0); (try clear hfz5_1); (try clear hfz9_0); (try clear hfz9_1); obtain ⟨kq, x20_2, rfl, HA, HJ2, HO_3, BK589, HB⟩ := hcut
    cases kq with
    | zero => exact absurd HA.out (by simp [spec_BookOk.j0])
    | succ kj2 =>
      have H := HA.out; clear HA
      simp only [spec_BookOk.j0] at H
      by_cases c12 : x20_2 = true
      · subst c12
        replace H : (some false) = some r := (by rw [if_pos rfl] at H; exact H); obtain rfl := Option.some.inj H; go_wp2; go_ret; exact ⟨ez, b1 GE589.out HB.out⟩
      · replace c12 := Bool.eq_false_iff.mpr c12
        subst c12; replace H : (spec_BookOk.l0 kj2 t590 0 a0_0 l0_1) = some r := (by rw [if_neg (show ¬ (false = true) by decide)] at H; exact H); have H' := Aside0.mk H; clear H; go_wp2
        go_loopg [4] kj2 (fun kq v4 w' => ∃ (x4_2 : Int), v4 = .int .i64 x4_2 ∧ Aside0 (spec_BookOk.l0 kq t590 x4_2 a0_0 l0_1 = some r) ∧ Aside0 (kq ≤ kj2) ∧ Aside0 (Kd.R (Kd.int .i64) 3 w' w.heap.size (fun _ => True) v591 t590) ∧ Aside0 (w'.heap[gb589]? = some (.cells #[.int .i64 a0_0, (.slice A0_1 l0_1.length c0_1)] 49 (0, 0))) ∧ Aside0 (Below w.heap.size w w'))
        case atStart => exact ⟨(0), az, H', ⟨Nat.le_refl _⟩, ⟨rz HO_3.out⟩, ⟨kz BK589.out⟩, ⟨b1 GE589.out HB.out⟩⟩
        case round =>
          clear H'; (try clear c1); (try clear p2); (try clear c4); (try clear c7); (try clear c8); (try clear c12); (try clear hcz11_0); (try clear hcz11_1); (try clear hcz5_0); (try clear hcz5_1); (try clear hcz9_0); (try clear hcz9_1); (try clear hfz11_0); (try clear hfz11_1); (try clear hfz5_0); (try clear hfz5_1); (try clear hfz9_0); (try clear hfz9_1); (try clear p2); obtain ⟨x4_2, rfl, HA, HK2, HO_3, BK589, HB⟩ := hrel
          cases gk with
          | zero => exact absurd HA.out (by simp [spec_BookOk.l0])
          | succ k2 =>
            have H := HA.out; clear HA
            simp only [spec_BookOk.l0] at H
            by_cases c13 : x4_2 < (l0_1.length : Int)
            · rw [if_pos c13] at H
              have c13b0 : decide (x4_2 < (l0_1.length : Int)) = true := decide_eq_true c13; clear c13
              by_cases c14 : 0 ≤ x4_2
              · rw [if_pos c14] at H
                have c14b0 : decide (0 ≤ x4_2) = true := decide_eq_true c14; clear c14; obtain ⟨bq15, hbq15⟩ : ∃ b_ : Bool, b_ = ((rd_T90 l0_1 x4_2).f0) := ⟨_, rfl⟩
                replace H : (if bq15 = true then ((spec_NodeOk.f k2 ((rd_T90 l0_1 x4_2).f1.f0) ((rd_T90 l0_1 x4_2).f1.f1)).bind fun t596 => (if t596 = true then (if (bq15 = true) then (spec_BookOk.l0 k2 t590 (wrap64 (x4_2 + 1)) a0_0 l0_1) else (if (rd_T90 l0_1 x4_2).f1.f0 = true then (some false) else (if (((rd_T90 l0_1 x4_2).f1.f1).length : Int) > 0 then (some false) else (spec_BookOk.l0 k2 t590 (wrap64 (x4_2 + 1)) a0_0 l0_1)))) else (some false))) else (if (bq15 = true) then (spec_BookOk.l0 k2 t590 (wrap64 (x4_2 + 1)) a0_0 l0_1) else (if (rd_T90 l0_1 x4_2).f1.f0 = true then (some false) else (if (((rd_T90 l0_1 x4_2).f1.f1).length : Int) > 0 then (some false) else (spec_BookOk.l0 k2 t590 (wrap64 (x4_2 + 1)) a0_0 l0_1))))) = some r := by rw [← hbq15] at H; exact H
                have Nbq15 := Aside0.mk hbq15; clear hbq15
                by_cases c16 : bq15 = true
                · subst c16
                  replace H : ((spec_NodeOk.f k2 ((rd_T90 l0_1 x4_2).f1.f0) ((rd_T90 l0_1 x4_2).f1.f1)).bind fun t596 => (if t596 = true then (if (true = true) then (spec_BookOk.l0 k2 t590 (wrap64 (x4_2 + 1)) a0_0 l0_1) else (if (rd_T90 l0_1 x4_2).f1.f0 = true then (some false) else (if (((rd_T90 l0_1 x4_2).f1.f1).length : Int) > 0 then (some false) else (spec_BookOk.l0 k2 t590 (wrap64 (x4_2 + 1)) a0_0 l0_1)))) else (some false))) = some r := (by rw [if_pos rfl] at H; exact H); replace H := Option.bind_eq_some_iff.mp H; obtain ⟨t596, A170, H⟩ := H; replace H : (if t596 = true then (if (true = true) then (spec_BookOk.l0 k2 t590 (wrap64 (x4_2 + 1)) a0_0 l0_1) else (if (rd_T90 l0_1 x4_2).f1.f0 = true then (some false) else (if (((rd_T90 l0_1 x4_2).f1.f1).length : Int) > 0 then (some false) else (spec_BookOk.l0 k2 t590 (wrap64 (x4_2 + 1)) a0_0 l0_1)))) else (some false)) = some r := H; have A17 := Aside0.mk A170; clear A170
                  by_cases c18 : t596 = true
                  · subst c18
                    replace H : (if (true = true) then (spec_BookOk.l0 k2 t590 (wrap64 (x4_2 + 1)) a0_0 l0_1) else (if (rd_T90 l0_1 x4_2).f1.f0 = true then (some false) else (if (((rd_T90 l0_1 x4_2).f1.f1).length : Int) > 0 then (some false) else (spec_BookOk.l0 k2 t590 (wrap64 (x4_2 + 1)) a0_0 l0_1)))) = some r := (by rw [if_pos rfl] at H; exact H)
                    by_cases c19 : (true = true)
                    · clear c19
                      replace H : (spec_BookOk.l0 k2 t590 (wrap64 (x4_2 + 1)) a0_0 l0_1) = some r := (by rw [if_pos rfl] at H; exact H); have H' := Aside0.mk H; clear H; have hcz20_0 := fz BK589.out 0 (.int .i64 a0_0); have hcz20_1 := fz BK589.out 1 (.slice A0_1 l0_1.length c0_1); have hfz20_0 := blk_frozen BK589.out 0; have hfz20_1 := blk_frozen BK589.out 1; have p594 : 0 ≤ (x4_2 : Int) := of_decide_eq_true uz; have q594 : x4_2 < (l0_1.length : Int) := of_decide_eq_true uz; obtain ⟨ad594, A594_2, c594_2, e594, hx594_0, hx594_1, hx594_2, hl594_2, hi594_2⟩ := at_T90 HR0_1.out x4_2 p594 q594
                      (try rw [← Nbq15.out] at hx594_0)
                      (try rw [← Nbq15.out] at hx594_1)
                      cases e594
                      replace hx594_0 := cz HB.out hx594_0; replace hx594_1 := cz HB.out hx594_1; replace hx594_2 := cz HB.out hx594_2; have HR594_2 := Aside0.mk hi594_2; have HC594_2 := Aside0.mk hl594_2; clear hi594_2 hl594_2; replace p594 := eq_true p594; replace q594 := eq_true q594; have p595 : 0 ≤ (x4_2 : Int) := of_decide_eq_true uz; have q595 : x4_2 < (l0_1.length : Int) := of_decide_eq_true uz; obtain ⟨ad595, A595_2, c595_2, e595, hx595_0, hx595_1, hx595_2, hl595_2, hi595_2⟩ := at_T90 HR0_1.out x4_2 p595 q595
                      (try rw [← Nbq15.out] at hx595_0)
                      (try rw [← Nbq15.out] at hx595_1)
                      obtain rfl : ad594 = ad595 := (by injection e595); replace hx595_0 := cz HB.out hx595_0; replace hx595_1 := cz HB.out hx595_1; replace hx595_2 := cz HB.out hx595_2; have HR595_2 := Aside0.mk hi595_2; have HC595_2 := Aside0.mk hl595_2; clear hi595_2 hl595_2; replace p595 := eq_true p595; replace q595 := eq_true q595; have ea_ := Option.some.inj (hx594_2.symm.trans hx595_2)
                      injection ea_ with ea_ en_ ec_
                      subst ea_; subst ec_; clear en_
                      go_wp2_with (first | (go_at_call 86; (with_reducible refine (spec_NodeOk.calls k2 ((rd_T90 l0_1 x4_2).f1.f0) _ _ ((rd_T90 l0_1 x4_2).f1.f1) true _ ?side1 ?side2 A17.out).mono ?_); (case side1 => exact sz HR595_2.out HB.out); (case side2 => exact HC595_2.out); rintro e w21 ⟨rfl, hb⟩; have n0_ := Aside0.mk (Kd.R_below (rz HO_3.out) hb); have n1_ := Aside0.mk (blk_below (g := gb589) (o := .cells #[.int .i64 a0_0, .slice (some ad594) l0_1.length c0_1] 49 (0, 0)) (kz BK589.out) hb); have n2_ := Aside0.mk (below_step (b1 GE589.out HB.out) hb); clear HO_3; clear BK589; clear HB; have HO_3 := n0_; have BK589 := n1_; have HB := n2_; clear n0_ n1_ n2_; (try clear hb); (try clear hb2); (try clear hk); (try clear hi); have hcz22_0 := fz BK589.out 0 (.int .i64 a0_0); have hcz22_1 := fz BK589.out 1 (.slice (some ad594) l0_1.length c0_1); have hfz22_0 := blk_frozen BK589.out 0; have hfz22_1 := blk_frozen BK589.out 1; have p597 : 0 ≤ (x4_2 : Int) := of_decide_eq_true uz; have q597 : x4_2 < (l0_1.length : Int) := of_decide_eq_true uz; obtain ⟨ad597, A597_2, c597_2, e597, hx597_0, hx597_1, hx597_2, hl597_2, hi597_2⟩ := at_T90 HR0_1.out x4_2 p597 q597; (try rw [← Nbq15.out] at hx597_0); (try rw [← Nbq15.out] at hx597_1); obtain rfl : ad594 = ad597 := (by injection e597); replace hx597_0 := cz HB.out hx597_0; replace hx597_1 := cz HB.out hx597_1; replace hx597_2 := cz HB.out hx597_2; have HR597_2 := Aside0.mk hi597_2; have HC597_2 := Aside0.mk hl597_2; clear hi597_2 hl597_2; replace p597 := eq_true p597; replace q597 := eq_true q597))
                      go_roundg k2
                      case measure => have := HJ2.out; have := HK2.out; omega
                      case rel => exact ⟨(wrap64 (x4_2 + 1)), az, H', ⟨by have := HJ2.out; have := HK2.out; omega⟩, ⟨rz HO_3.out⟩, ⟨kz BK589.out⟩, ⟨b1 GE589.out HB.out⟩⟩
                    · exact absurd rfl c19
                  · replace c18 := Bool.eq_false_iff.mpr c18
                    subst c18; replace H : (some false) = some r := (by rw [if_neg (show ¬ (false = true) by decide)] at H; exact H); obtain rfl := Option.some.inj H; have hcz34_0 := fz BK589.out 0 (.int .i64 a0_0); have hcz34_1 := fz BK589.out 1 (.slice A0_1 l0_1.length c0_1); have hfz34_0 := blk_frozen BK589.out 0; have hfz34_1 := blk_frozen BK589.out 1; have p594 : 0 ≤ (x4_2 : Int) := of_decide_eq_true uz; have q594 : x4_2 < (l0_1.length : Int) := of_decide_eq_true uz; obtain ⟨ad594, A594_2, c594_2, e594, hx594_0, hx594_1, hx594_2, hl594_2, hi594_2⟩ := at_T90 HR0_1.out x4_2 p594 q594
                    (try rw [← Nbq15.out] at hx594_0)
                    (try rw [← Nbq15.out] at hx594_1)
                    cases e594
                    replace hx594_0 := cz HB.out hx594_0; replace hx594_1 := cz HB.out hx594_1; replace hx594_2 := cz HB.out hx594_2; have HR594_2 := Aside0.mk hi594_2; have HC594_2 := Aside0.mk hl594_2; clear hi594_2 hl594_2; replace p594 := eq_true p594; replace q594 := eq_true q594; have p595 : 0 ≤ (x4_2 : Int) := of_decide_eq_true uz; have q595 : x4_2 < (l0_1.length : Int) := of_decide_eq_true uz; obtain ⟨ad595, A595_2, c595_2, e595, hx595_0, hx595_1, hx595_2, hl595_2, hi595_2⟩ := at_T90 HR0_1.out x4_2 p595 q595
                    (try rw [← Nbq15.out] at hx595_0)
                    (try rw [← Nbq15.out] at hx595_1)
                    obtain rfl : ad594 = ad595 := (by injection e595); replace hx595_0 := cz HB.out hx595_0; replace hx595_1 := cz HB.out hx595_1; replace hx595_2 := cz HB.out hx595_2; have HR595_2 := Aside0.mk hi595_2; have HC595_2 := Aside0.mk hl595_2; clear hi595_2 hl595_2; replace p595 := eq_true p595; replace q595 := eq_true q595; have ea_ := Option.some.inj (hx594_2.symm.trans hx595_2)
                    injection ea_ with ea_ en_ ec_
                    subst ea_; subst ec_; clear en_
                    go_wp2_with (first | (go_at_call 86; (with_reducible refine (spec_NodeOk.calls k2 ((rd_T90 l0_1 x4_2).f1.f0) _ _ ((rd_T90 l0_1 x4_2).f1.f1) false _ ?side1 ?side2 A17.out).mono ?_); (case side1 => exact sz HR595_2.out HB.out); (case side2 => exact HC595_2.out); rintro e w35 ⟨rfl, hb⟩; have n0_ := Aside0.mk (Kd.R_below (rz HO_3.out) hb); have n1_ := Aside0.mk (blk_below (g := gb589) (o := .cells #[.int .i64 a0_0, .slice (some ad594) l0_1.length c0_1] 49 (0, 0)) (kz BK589.out) hb); have n2_ := Aside0.mk (below_step (b1 GE589.out HB.out) hb); clear HO_3; clear BK589; clear HB; have HO_3 := n0_; have BK589 := n1_; have HB := n2_; clear n0_ n1_ n2_; (try clear hb); (try clear hb2); (try clear hk); (try clear hi)))
                    go_ret; exact ⟨ez, b1 GE589.out HB.out⟩
                · replace c16 := Bool.eq_false_iff.mpr c16
                  subst c16; replace H : (if (false = true) then (spec_BookOk.l0 k2 t590 (wrap64 (x4_2 + 1)) a0_0 l0_1) else (if (rd_T90 l0_1 x4_2).f1.f0 = true then (some false) else (if (((rd_T90 l0_1 x4_2).f1.f1).length : Int) > 0 then (some false) else (spec_BookOk.l0 k2 t590 (wrap64 (x4_2 + 1)) a0_0 l0_1)))) = some r := (by rw [if_neg (show ¬ (false = true) by decide)] at H; exact H)
                  by_cases c36 : (false = true)
                  · exact absurd c36 (by decide)
                  · clear c36
                    replace H : (if (rd_T90 l0_1 x4_2).f1.f0 = true then (some false) else (if (((rd_T90 l0_1 x4_2).f1.f1).length : Int) > 0 then (some false) else (spec_BookOk.l0 k2 t590 (wrap64 (x4_2 + 1)) a0_0 l0_1))) = some r := (by rw [if_neg (show ¬ (false = true) by decide)] at H; exact H); obtain ⟨bq38, hbq38⟩ : ∃ b_ : Bool, b_ = ((rd_T90 l0_1 x4_2).f1.f0) := ⟨_, rfl⟩
                    replace H : (if bq38 = true then (some false) else (if (((rd_T90 l0_1 x4_2).f1.f1).length : Int) > 0 then (some false) else (spec_BookOk.l0 k2 t590 (wrap64 (x4_2 + 1)) a0_0 l0_1))) = some r := by rw [← hbq38] at H; exact H
                    have Nbq38 := Aside0.mk hbq38; clear hbq38
                    by_cases c39 : bq38 = true
                    · subst c39
                      replace H : (some false) = some r := (by rw [if_pos rfl] at H; exact H); obtain rfl := Option.some.inj H; have hcz40_0 := fz BK589.out 0 (.int .i64 a0_0); have hcz40_1 := fz BK589.out 1 (.slice A0_1 l0_1.length c0_1); have hfz40_0 := blk_frozen BK589.out 0; have hfz40_1 := blk_frozen BK589.out 1; have p594 : 0 ≤ (x4_2 : Int) := of_decide_eq_true uz; have q594 : x4_2 < (l0_1.length : Int) := of_decide_eq_true uz; obtain ⟨ad594, A594_2, c594_2, e594, hx594_0, hx594_1, hx594_2, hl594_2, hi594_2⟩ := at_T90 HR0_1.out x4_2 p594 q594
                      (try rw [← Nbq15.out] at hx594_0)
                      (try rw [← Nbq38.out] at hx594_0)
                      (try rw [← Nbq15.out] at hx594_1)
                      (try rw [← Nbq38.out] at hx594_1)
                      cases e594
                      replace hx594_0 := cz HB.out hx594_0; replace hx594_1 := cz HB.out hx594_1; replace hx594_2 := cz HB.out hx594_2; have HR594_2 := Aside0.mk hi594_2; have HC594_2 := Aside0.mk hl594_2; clear hi594_2 hl594_2; replace p594 := eq_true p594; replace q594 := eq_true q594; have p600 : 0 ≤ (x4_2 : Int) := of_decide_eq_true uz; have q600 : x4_2 < (l0_1.length : Int) := of_decide_eq_true uz; obtain ⟨ad600, A600_2, c600_2, e600, hx600_0, hx600_1, hx600_2, hl600_2, hi600_2⟩ := at_T90 HR0_1.out x4_2 p600 q600
                      (try rw [← Nbq15.out] at hx600_0)
                      (try rw [← Nbq38.out] at hx600_0)
                      (try rw [← Nbq15.out] at hx600_1)
                      (try rw [← Nbq38.out] at hx600_1)
                      obtain rfl : ad594 = ad600 := (by injection e600); replace hx600_0 := cz HB.out hx600_0; replace hx600_1 := cz HB.out hx600_1; replace hx600_2 := cz HB.out hx600_2; have HR600_2 := Aside0.mk hi600_2; have HC600_2 := Aside0.mk hl600_2; clear hi600_2 hl600_2; replace p600 := eq_true p600; replace q600 := eq_true q600; have ea_ := Option.some.inj (hx594_2.symm.trans hx600_2)
                      injection ea_ with ea_ en_ ec_
                      subst ea_; subst ec_; clear en_; have p601 : 0 ≤ (x4_2 : Int) := of_decide_eq_true uz; have q601 : x4_2 < (l0_1.length : Int) := of_decide_eq_true uz; obtain ⟨ad601, A601_2, c601_2, e601, hx601_0, hx601_1, hx601_2, hl601_2, hi601_2⟩ := at_T90 HR0_1.out x4_2 p601 q601
                      (try rw [← Nbq15.out] at hx601_0)
                      (try rw [← Nbq38.out] at hx601_0)
                      (try rw [← Nbq15.out] at hx601_1)
                      (try rw [← Nbq38.out] at hx601_1)
                      obtain rfl : ad594 = ad601 := (by injection e601); replace hx601_0 := cz HB.out hx601_0; replace hx601_1 := cz HB.out hx601_1; replace hx601_2 := cz HB.out hx601_2; have HR601_2 := Aside0.mk hi601_2; have HC601_2 := Aside0.mk hl601_2; clear hi601_2 hl601_2; replace p601 := eq_true p601; replace q601 := eq_true q601; have ea_ := Option.some.inj (hx594_2.symm.trans hx601_2)
                      injection ea_ with ea_ en_ ec_
                      subst ea_; subst ec_; clear en_; go_wp2; go_ret; exact ⟨ez, b1 GE589.out HB.out⟩
                    · replace c39 := Bool.eq_false_iff.mpr c39
                      subst c39; replace H : (if (((rd_T90 l0_1 x4_2).f1.f1).length : Int) > 0 then (some false) else (spec_BookOk.l0 k2 t590 (wrap64 (x4_2 + 1)) a0_0 l0_1)) = some r := (by rw [if_neg (show ¬ (false = true) by decide)] at H; exact H)
                      by_cases c41 : (((rd_T90 l0_1 x4_2).f1.f1).length : Int) > 0
                      · rw [if_pos c41] at H
                        have c41b0 : decide (0 < (((rd_T90 l0_1 x4_2).f1.f1).length : Int)) = true := decide_eq_true c41; have c41b1 : decide (0 < ((rd_T90 l0_1 x4_2).f1.f1).length) = true := decide_eq_true (by omega); clear c41; obtain rfl := Option.some.inj H; have hcz42_0 := fz BK589.out 0 (.int .i64 a0_0); have hcz42_1 := fz BK589.out 1 (.slice A0_1 l0_1.length c0_1); have hfz42_0 := blk_frozen BK589.out 0; have hfz42_1 := blk_frozen BK589.out 1; have p594 : 0 ≤ (x4_2 : Int) := of_decide_eq_true uz; have q594 : x4_2 < (l0_1.length : Int) := of_decide_eq_true uz; obtain ⟨ad594, A594_2, c594_2, e594, hx594_0, hx594_1, hx594_2, hl594_2, hi594_2⟩ := at_T90 HR0_1.out x4_2 p594 q594
                        (try rw [← Nbq15.out] at hx594_0)
                        (try rw [← Nbq38.out] at hx594_0)
                        (try rw [← Nbq15.out] at hx594_1)
                        (try rw [← Nbq38.out] at hx594_1)
                        cases e594
                        replace hx594_0 := cz HB.out hx594_0; replace hx594_1 := cz HB.out hx594_1; replace hx594_2 := cz HB.out hx594_2; have HR594_2 := Aside0.mk hi594_2; have HC594_2 := Aside0.mk hl594_2; clear hi594_2 hl594_2; replace p594 := eq_true p594; replace q594 := eq_true q594; have p600 : 0 ≤ (x4_2 : Int) := of_decide_eq_true uz; have q600 : x4_2 < (l0_1.length : Int) := of_decide_eq_true uz; obtain ⟨ad600, A600_2, c600_2, e600, hx600_0, hx600_1, hx600_2, hl600_2, hi600_2⟩ := at_T90 HR0_1.out x4_2 p600 q600
                        (try rw [← Nbq15.out] at hx600_0)
                        (try rw [← Nbq38.out] at hx600_0)
                        (try rw [← Nbq15.out] at hx600_1)
                        (try rw [← Nbq38.out] at hx600_1)
                        obtain rfl : ad594 = ad600 := (by injection e600); replace hx600_0 := cz HB.out hx600_0; replace hx600_1 := cz HB.out hx600_1; replace hx600_2 := cz HB.out hx600_2; have HR600_2 := Aside0.mk hi600_2; have HC600_2 := Aside0.mk hl600_2; clear hi600_2 hl600_2; replace p600 := eq_true p600; replace q600 := eq_true q600; have ea_ := Option.some.inj (hx594_2.symm.trans hx600_2)
                        injection ea_ with ea_ en_ ec_
                        subst ea_; subst ec_; clear en_; have p601 : 0 ≤ (x4_2 : Int) := of_decide_eq_true uz; have q601 : x4_2 < (l0_1.length : Int) := of_decide_eq_true uz; obtain ⟨ad601, A601_2, c601_2, e601, hx601_0, hx601_1, hx601_2, hl601_2, hi601_2⟩ := at_T90 HR0_1.out x4_2 p601 q601
                        (try rw [← Nbq15.out] at hx601_0)
                        (try rw [← Nbq38.out] at hx601_0)
                        (try rw [← Nbq15.out] at hx601_1)
                        (try rw [← Nbq38.out] at hx601_1)
                        obtain rfl : ad594 = ad601 := (by injection e601); replace hx601_0 := cz HB.out hx601_0; replace hx601_1 := cz HB.out hx601_1; replace hx601_2 := cz HB.out hx601_2; have HR601_2 := Aside0.mk hi601_2; have HC601_2 := Aside0.mk hl601_2; clear hi601_2 hl601_2; replace p601 := eq_true p601; replace q601 := eq_true q601; have ea_ := Option.some.inj (hx594_2.symm.trans hx601_2)
                        injection ea_ with ea_ en_ ec_
                        subst ea_; subst ec_; clear en_; have p602 : 0 ≤ (x4_2 : Int) := of_decide_eq_true uz; have q602 : x4_2 < (l0_1.length : Int) := of_decide_eq_true uz; obtain ⟨ad602, A602_2, c602_2, e602, hx602_0, hx602_1, hx602_2, hl602_2, hi602_2⟩ := at_T90 HR0_1.out x4_2 p602 q602
                        (try rw [← Nbq15.out] at hx602_0)
                        (try rw [← Nbq38.out] at hx602_0)
                        (try rw [← Nbq15.out] at hx602_1)
                        (try rw [← Nbq38.out] at hx602_1)
                        obtain rfl : ad594 = ad602 := (by injection e602); replace hx602_0 := cz HB.out hx602_0; replace hx602_1 := cz HB.out hx602_1; replace hx602_2 := cz HB.out hx602_2; have HR602_2 := Aside0.mk hi602_2; have HC602_2 := Aside0.mk hl602_2; clear hi602_2 hl602_2; replace p602 := eq_true p602; replace q602 := eq_true q602; have ea_ := Option.some.inj (hx594_2.symm.trans hx602_2)
                        injection ea_ with ea_ en_ ec_
                        subst ea_; subst ec_; clear en_; go_wp2; go_ret; exact ⟨ez, b1 GE589.out HB.out⟩
                      · rw [if_neg c41] at H
                        have c41b0 : decide (0 < (((rd_T90 l0_1 x4_2).f1.f1).length : Int)) = false := decide_eq_false c41; have c41b1 : decide (0 < ((rd_T90 l0_1 x4_2).f1.f1).length) = false := decide_eq_false (by omega); clear c41; have H' := Aside0.mk H; clear H; have hcz43_0 := fz BK589.out 0 (.int .i64 a0_0); have hcz43_1 := fz BK589.out 1 (.slice A0_1 l0_1.length c0_1); have hfz43_0 := blk_frozen BK589.out 0; have hfz43_1 := blk_frozen BK589.out 1; have p594 : 0 ≤ (x4_2 : Int) := of_decide_eq_true uz; have q594 : x4_2 < (l0_1.length : Int) := of_decide_eq_true uz; obtain ⟨ad594, A594_2, c594_2, e594, hx594_0, hx594_1, hx594_2, hl594_2, hi594_2⟩ := at_T90 HR0_1.out x4_2 p594 q594
                        (try rw [← Nbq15.out] at hx594_0)
                        (try rw [← Nbq38.out] at hx594_0)
                        (try rw [← Nbq15.out] at hx594_1)
                        (try rw [← Nbq38.out] at hx594_1)
                        cases e594
                        replace hx594_0 := cz HB.out hx594_0; replace hx594_1 := cz HB.out hx594_1; replace hx594_2 := cz HB.out hx594_2; have HR594_2 := Aside0.mk hi594_2; have HC594_2 := Aside0.mk hl594_2; clear hi594_2 hl594_2; replace p594 := eq_true p594; replace q594 := eq_true q594; have p600 : 0 ≤ (x4_2 : Int) := of_decide_eq_true uz; have q600 : x4_2 < (l0_1.length : Int) := of_decide_eq_true uz; obtain ⟨ad600, A600_2, c600_2, e600, hx600_0, hx600_1, hx600_2, hl600_2, hi600_2⟩ := at_T90 HR0_1.out x4_2 p600 q600
                        (try rw [← Nbq15.out] at hx600_0)
                        (try rw [← Nbq38.out] at hx600_0)
                        (try rw [← Nbq15.out] at hx600_1)
                        (try rw [← Nbq38.out] at hx600_1)
                        obtain rfl : ad594 = ad600 := (by injection e600); replace hx600_0 := cz HB.out hx600_0; replace hx600_1 := cz HB.out hx600_1; replace hx600_2 := cz HB.out hx600_2; have HR600_2 := Aside0.mk hi600_2; have HC600_2 := Aside0.mk hl600_2; clear hi600_2 hl600_2; replace p600 := eq_true p600; replace q600 := eq_true q600; have ea_ := Option.some.inj (hx594_2.symm.trans hx600_2)
                        injection ea_ with ea_ en_ ec_
                        subst ea_; subst ec_; clear en_; have p601 : 0 ≤ (x4_2 : Int) := of_decide_eq_true uz; have q601 : x4_2 < (l0_1.length : Int) := of_decide_eq_true uz; obtain ⟨ad601, A601_2, c601_2, e601, hx601_0, hx601_1, hx601_2, hl601_2, hi601_2⟩ := at_T90 HR0_1.out x4_2 p601 q601
                        (try rw [← Nbq15.out] at hx601_0)
                        (try rw [← Nbq38.out] at hx601_0)
                        (try rw [← Nbq15.out] at hx601_1)
                        (try rw [← Nbq38.out] at hx601_1)
                        obtain rfl : ad594 = ad601 := (by injection e601); replace hx601_0 := cz HB.out hx601_0; replace hx601_1 := cz HB.out hx601_1; replace hx601_2 := cz HB.out hx601_2; have HR601_2 := Aside0.mk hi601_2; have HC601_2 := Aside0.mk hl601_2; clear hi601_2 hl601_2; replace p601 := eq_true p601; replace q601 := eq_true q601; have ea_ := Option.some.inj (hx594_2.symm.trans hx601_2)
                        injection ea_ with ea_ en_ ec_
                        subst ea_; subst ec_; clear en_; have p602 : 0 ≤ (x4_2 : Int) := of_decide_eq_true uz; have q602 : x4_2 < (l0_1.length : Int) := of_decide_eq_true uz; obtain ⟨ad602, A602_2, c602_2, e602, hx602_0, hx602_1, hx602_2, hl602_2, hi602_2⟩ := at_T90 HR0_1.out x4_2 p602 q602
                        (try rw [← Nbq15.out] at hx602_0)
                        (try rw [← Nbq38.out] at hx602_0)
                        (try rw [← Nbq15.out] at hx602_1)
                        (try rw [← Nbq38.out] at hx602_1)
                        obtain rfl : ad594 = ad602 := (by injection e602); replace hx602_0 := cz HB.out hx602_0; replace hx602_1 := cz HB.out hx602_1; replace hx602_2 := cz HB.out hx602_2; have HR602_2 := Aside0.mk hi602_2; have HC602_2 := Aside0.mk hl602_2; clear hi602_2 hl602_2; replace p602 := eq_true p602; replace q602 := eq_true q602; have ea_ := Option.some.inj (hx594_2.symm.trans hx602_2)
                        injection ea_ with ea_ en_ ec_
                        subst ea_; subst ec_; clear en_; go_wp2; go_roundg k2
                        case measure => have := HJ2.out; have := HK2.out; omega
                        case rel => exact ⟨(wrap64 (x4_2 + 1)), az, H', ⟨by have := HJ2.out; have := HK2.out; omega⟩, ⟨rz HO_3.out⟩, ⟨kz BK589.out⟩, ⟨b1 GE589.out HB.out⟩⟩
              · rw [if_neg c14] at H
                exact absurd H (by simp)
            · rw [if_neg c13] at H
              have c13b0 : decide (x4_2 < (l0_1.length : Int)) = false := decide_eq_false c13; clear c13; have H' := Aside0.mk H; clear H; have hcz44_0 := fz BK589.out 0 (.int .i64 a0_0); have hcz44_1 := fz BK589.out 1 (.slice A0_1 l0_1.length c0_1); have hfz44_0 := blk_frozen BK589.out 0; have hfz44_1 := blk_frozen BK589.out 1; go_wp2
              go_loopg [5, 6] k2 (fun kq v5 v6 w' => ∃ (x5_3 : Int) (x6_3 : Int), v5 = .int .i64 x5_3 ∧ v6 = .int .i64 x6_3 ∧ Aside0 (spec_BookOk.l1 kq t590 x5_3 x6_3 a0_0 l0_1 = some r) ∧ Aside0 (kq ≤ k2) ∧ Aside0 (Kd.R (Kd.int .i64) 3 w' w.heap.size (fun _ => True) v591 t590) ∧ Aside0 (w'.heap[gb589]? = some (.cells #[.int .i64 a0_0, (.slice A0_1 l0_1.length c0_1)] 49 (0, 0))) ∧ Aside0 (Below w.heap.size w w'))
              case atStart => exact ⟨(0), (0), az, az, H', ⟨Nat.le_refl _⟩, ⟨rz HO_3.out⟩, ⟨kz BK589.out⟩, ⟨b1 GE589.out HB.out⟩⟩
              case round =>
                clear H'; (try clear c1); (try clear q1); (try clear c2); (try clear p2); (try clear c3); (try clear q3); (try clear c4); (try clear c5); (try clear p5); (try clear q5); (try clear hx5); (try clear c6); (try clear p6); (try clear q6); (try clear hx6); (try clear c13); (try clear c13b0); (try clear c14); (try clear q15); (try clear c16); (try clear c18); (try clear c19); (try clear c23); (try clear c23b0); (try clear c27); (try clear c27b0); (try clear c27b1); (try clear c36); (try clear q38); (try clear c39); (try clear c41); (try clear c41b0); (try clear c41b1); (try clear hcz20_0); (try clear hcz20_1); (try clear hcz22_0); (try clear hcz22_1); (try clear hcz24_0); (try clear hcz24_1); (try clear hcz26_0); (try clear hcz26_1); (try clear hcz28_0); (try clear hcz28_1); (try clear hcz30_0); (try clear hcz30_1); (try clear hcz31_0); (try clear hcz31_1); (try clear hcz33_0); (try clear hcz33_1); (try clear hcz34_0); (try clear hcz34_1); (try clear hcz37_0); (try clear hcz37_1); (try clear hcz40_0); (try clear hcz40_1); (try clear hcz42_0); (try clear hcz42_1); (try clear hcz43_0); (try clear hcz43_1); (try clear hcz44_0); (try clear hcz44_1); (try clear hfz20_0); (try clear hfz20_1); (try clear hfz22_0); (try clear hfz22_1); (try clear hfz24_0); (try clear hfz24_1); (try clear hfz26_0); (try clear hfz26_1); (try clear hfz28_0); (try clear hfz28_1); (try clear hfz30_0); (try clear hfz30_1); (try clear hfz31_0); (try clear hfz31_1); (try clear hfz33_0); (try clear hfz33_1); (try clear hfz34_0); (try clear hfz34_1); (try clear hfz37_0); (try clear hfz37_1); (try clear hfz40_0); (try clear hfz40_1); (try clear hfz42_0); (try clear hfz42_1); (try clear hfz43_0); (try clear hfz43_1); (try clear hfz44_0); (try clear hfz44_1); (try clear hx594_0); (try clear hx594_1); (try clear hx594_2); (try clear hx595_0); (try clear hx595_1); (try clear hx595_2); (try clear hx597_0); (try clear hx597_1); (try clear hx597_2); (try clear hx598_0); (try clear hx598_1); (try clear hx598_2); (try clear hx599_0); (try clear hx599_1); (try clear hx599_2); (try clear hx600_0); (try clear hx600_1); (try clear hx600_2); (try clear hx601_0); (try clear hx601_1); (try clear hx601_2); (try clear hx602_0); (try clear hx602_1); (try clear hx602_2); (try clear p594); (try clear p595); (try clear p597); (try clear p598); (try clear p599); (try clear p600); (try clear p601); (try clear p602); (try clear q594); (try clear q595); (try clear q597); (try clear q598); (try clear q599); (try clear q600); (try clear q601); (try clear q602); obtain ⟨x5_3, x6_3, rfl, rfl, HA, HK3, HO_3, BK589, HB⟩ := hrel
                cases gk with
                | zero => exact absurd HA.out (by simp [spec_BookOk.l1])
                | succ k3 =>
                  have H := HA.out; clear HA
                  simp only [spec_BookOk.l1] at H
                  by_cases c45 : x6_3 < (t590.length : Int)
                  · rw [if_pos c45] at H
                    have c45b0 : decide (x6_3 < (t590.length : Int)) = true := decide_eq_true c45; clear c45
                    by_cases c46 : 0 ≤ x6_3
                    · rw [if_pos c46] at H
                      have c46b0 : decide (0 ≤ x6_3) = true := decide_eq_true c46; clear c46
                      by_cases c47 : 0 ≤ (rd t590 x6_3)
                      · rw [if_pos c47] at H
                        have c47b0 : decide (0 ≤ (rd t590 x6_3)) = true := decide_eq_true c47; clear c47
                        by_cases c48 : (rd t590 x6_3) < (l0_1.length : Int)
                        · rw [if_pos c48] at H
                          have c48b0 : decide ((rd t590 x6_3) < (l0_1.length : Int)) = true := decide_eq_true c48; clear c48; have H' := Aside0.mk H; clear H; obtain ⟨Ao49, co49, eo49⟩ := Kd.R_slice HO_3.out; subst eo49
                          try go_wp2
                          have n0_ := Aside0.mk (Kd.R_drew HO_3.out); have n1_ := Aside0.mk (blk_drew BK589.out); have n2_ := Aside0.mk (below_drew1 HB.out); clear HO_3; clear BK589; clear HB; have HO_3 := n0_; have BK589 := n1_; have HB := n2_; clear n0_ n1_ n2_; have p603 : 0 ≤ (x6_3 : Int) := of_decide_eq_true uz; have q603 : x6_3 < (t590.length : Int) := of_decide_eq_true uz; obtain ⟨ad603, e603, hx603_0⟩ := Kd.at_int (Kd.R_reads' HO_3.out).2.2 x6_3 p603 q603
                          cases e603
                          replace p603 := eq_true p603; replace q603 := eq_true q603; have p604 : 0 ≤ ((rd t590 x6_3) : Int) := of_decide_eq_true uz; have q604 : (rd t590 x6_3) < (l0_1.length : Int) := of_decide_eq_true uz; obtain ⟨ad604, A604_2, c604_2, e604, hx604_0, hx604_1, hx604_2, hl604_2, hi604_2⟩ := at_T90 HR0_1.out (rd t590 x6_3) p604 q604; have hw604_2 := hx604_2; have hw604_1 := hx604_1; have hw604_0 := hx604_0
                          cases e604
                          replace hx604_0 := cz HB.out hx604_0; replace hx604_1 := cz HB.out hx604_1; replace hx604_2 := cz HB.out hx604_2; have HR604_2 := Aside0.mk hi604_2; have HC604_2 := Aside0.mk hl604_2; clear hi604_2 hl604_2; replace p604 := eq_true p604; replace q604 := eq_true q604
                          refine start_ (n := 11) (S := fun w' => w'.cell? ⟨gb589, 0, none⟩ = some (.int .i64 a0_0) ∧ w'.cell? ⟨gb589, 1, none⟩ = some (.slice (some ad604) l0_1.length c0_1) ∧ w'.cell? (ad603.add (x6_3).toNat) = some (.int .i64 (rd t590 x6_3)) ∧ w'.cell? (ad604.add (((rd t590 x6_3)).toNat * 3)) = some (.bool ((rd_T90 l0_1 (rd t590 x6_3)).f0)) ∧ w'.cell? ⟨(ad604.add (((rd t590 x6_3)).toNat * 3)).block, (ad604.add (((rd t590 x6_3)).toNat * 3)).off + 1, none⟩ = some (.bool ((rd_T90 l0_1 (rd t590 x6_3)).f1.f0)) ∧ w'.cell? ⟨(ad604.add (((rd t590 x6_3)).toNat * 3)).block, (ad604.add (((rd t590 x6_3)).toNat * 3)).off + 2, none⟩ = some (.slice A604_2 ((rd_T90 l0_1 (rd t590 x6_3)).f1.f1).length c604_2)) (ds := []) #[false, false, false, false, false, false, false, false, false, false, false] (by kernel_rfl) rfl rfl ⟨(blk_cell BK589.out 0).trans rfl, (blk_cell BK589.out 1).trans rfl, hx603_0, (cz HB.out hw604_0 :), (cz HB.out hw604_1 :), (cz HB.out hw604_2 :)⟩ (fun hHeld => ?_); refine with_tabW spec_BookOk.tab13 spec_BookOk.bits13 (fun HT_ HW_ => ?_)
                          generalize wr.drew = w50 at HO_3 BK589 HB HR604_2 hx603_0 hx604_0 hx604_1 hx604_2 hHeld ⊢
                          refine pure_ (i := 0) (N := some 79) (v := ?_) (a' := ?_) #[true, false, false, false, false, false, false, false, false, false, false] rfl rfl (any_of HT_.out (by kernel_rfl)) (fun _ _ _ h => h) (Or.inl ⟨by rfl, ?_⟩) ?_ ?_; rotate_left
                          · intro w'
                            go_simp
                            with_reducible rfl
                          rotate_left
                          · exact pz
                          refine pure_ (i := 2) (N := some 81) (v := ?_) (a' := ?_) #[true, false, true, false, false, false, false, false, false, false, false] rfl rfl (any_of HT_.out (by kernel_rfl)) (fun _ _ _ h => h) (Or.inl ⟨by rfl, ?_⟩) ?_ ?_; rotate_left
                          · intro w'
                            go_simp
                            with_reducible rfl
                          rotate_left
                          · exact pz
                          refine pure_ (i := 3) (N := some 82) (v := ?_) (a' := ?_) #[true, false, true, true, false, false, false, false, false, false, false] rfl rfl (any_of HT_.out (by kernel_rfl)) (fun _ _ _ h => h) (Or.inl ⟨by rfl, ?_⟩) ?_ ?_; rotate_left
                          · intro w'
                            go_simp
                            with_reducible rfl
                          rotate_left
                          · exact pz
                          refine pure_ (i := 4) (N := some 83) (v := ?_) (a' := ?_) #[true, false, true, true, true, false, false, false, false, false, false] rfl rfl (any_of HT_.out (by kernel_rfl)) (fun _ _ _ h => h) (Or.inl ⟨by rfl, ?_⟩) ?_ ?_; rotate_left
                          · intro w'
                            go_simp
                            with_reducible rfl
                          rotate_left
                          · exact pz
                          refine take_ (i := 1) (N := some 80) (v := ?_) (a' := ?_) #[true, true, true, true, true, false, false, false, false, false, false] rfl rfl (take_ofW HT_.out HW_.out (by kernel_rfl)) (fun _ _ _ h => h) (Or.inl ⟨by rfl, ?_⟩) hHeld ?_ ?_; rotate_left
                          · rintro w' ⟨s0, s1, s2, s3, s4, s5⟩
                            go_simp
                            with_reducible rfl
                          rotate_left
                          · exact pz
                          refine take_ (i := 5) (N := some 84) (v := ?_) (a' := ?_) #[true, true, true, true, true, true, false, false, false, false, false] rfl rfl (take_ofW HT_.out HW_.out (by kernel_rfl)) (fun _ _ _ h => h) (Or.inl ⟨by rfl, ?_⟩) hHeld ?_ ?_; rotate_left
                          · rintro w' ⟨s0, s1, s2, s3, s4, s5⟩
                            go_simp
                            with_reducible rfl
                          rotate_left
                          · exact pz
                          refine pure_ (i := 6) (N := some 85) (v := ?_) (a' := ?_) #[true, true, true, true, true, true, true, false, false, false, false] rfl rfl (any_of HT_.out (by kernel_rfl)) (fun _ _ _ h => h) (Or.inl ⟨by rfl, ?_⟩) ?_ ?_; rotate_left
                          · intro w'
                            go_simp
                            with_reducible rfl
                          rotate_left
                          · exact pz
                          refine pure_ (i := 7) (N := some 86) (v := ?_) (a' := ?_) #[true, true, true, true, true, true, true, true, false, false, false] rfl rfl (any_of HT_.out (by kernel_rfl)) (fun _ _ _ h => h) (Or.inl ⟨by rfl, ?_⟩) ?_ ?_; rotate_left
                          · intro w'
                            go_simp
                            with_reducible rfl
                          rotate_left
                          · exact pz
                          refine take_ (i := 8) (N := some 87) (v := ?_) (a' := ?_) #[true, true, true, true, true, true, true, true, true, false, false] rfl rfl (take_ofW HT_.out HW_.out (by kernel_rfl)) (fun _ _ _ h => h) (Or.inl ⟨by rfl, ?_⟩) hHeld ?_ ?_; rotate_left
                          · rintro w' ⟨s0, s1, s2, s3, s4, s5⟩
                            go_simp
                            with_reducible rfl
                          rotate_left
                          · exact pz
                          refine one_ (i := 9) (N := some 7) #[true, true, true, true, true, true, true, true, true, true, false] rfl rfl (one_of HT_.out (by kernel_rfl)) (by decide) (fun K hK => ?_)
                          refine box_step ?hg (N := 7) ?hd (cs := #[.bool false, .slice none 0 0]) (t := 54) ?hr ?_; (case hd => rfl); (case hg => rfl); (case hr => first | (go_simp; done) | (go_simp; rfl))
                          intro gb605 hg w51 hbox hb
                          have HS2_ := (hb.cell (World.block_lt_of_cell? _ _ (hHeld.2.2.1))).trans (hHeld.2.2.1); have n0_ := Aside0.mk (Kd.R_below (rz HO_3.out) hb); have n1_ := Aside0.mk (blk_below (g := gb589) (o := .cells #[.int .i64 a0_0, .slice (some ad604) l0_1.length c0_1] 49 (0, 0)) (kz BK589.out) hb); have n2_ := Aside0.mk (below_step (b1 GE589.out HB.out) hb); have n3_ := Aside0.mk (hbox); have n4_ := Aside0.mk ((by rw [hg]; exact (below_size (b1 GE589.out HB.out)) : w.heap.size ≤ gb605)); have n5_ := Aside0.mk ((by rw [hg]; exact (below_size (b1 GE589.out HB.out)) : w.heap.size ≤ gb605)); have n6_ := Aside0.mk ((by rw [hg]; exact Nat.ne_of_lt (blk_lt (g := gb589) (o := .cells #[.int .i64 a0_0, .slice (some ad604) l0_1.length c0_1] 49 (0, 0)) (kz BK589.out)) : gb589 ≠ gb605)); have n7_ := Aside0.mk ((by rw [hg]; exact Nat.ne_of_gt (blk_lt (g := gb589) (o := .cells #[.int .i64 a0_0, .slice (some ad604) l0_1.length c0_1] 49 (0, 0)) (kz BK589.out)) : gb605 ≠ gb589)); clear HO_3; clear BK589; clear HB; have HO_3 := n0_; have BK589 := n1_; have HB := n2_; have BK605 := n3_; have GW605 := n4_; have GE605 := n5_; have NB589_605 := n6_; have NB605_589 := n7_; clear n0_ n1_ n2_ n3_ n4_ n5_ n6_ n7_; clear hb hbox hg; refine hK.out _ _ ⟨(blk_cell BK589.out 0).trans rfl, (blk_cell BK589.out 1).trans rfl, HS2_, (cz HB.out hw604_0 :), (cz HB.out hw604_1 :), (cz HB.out hw604_2 :)⟩ (fun hHeld => ?_); clear hK K; refine norm_ (a' := ?_) ?_ ?_; rotate_left
                          · show Act.put _ (some 7) _ = _
                            simp only [Act.put, List.setIfInBounds_toArray, List.set_cons_zero, List.set_cons_succ, i64_w, i32_w]
                            rfl
                          refine one_ (i := 10) (N := none) #[true, true, true, true, true, true, true, true, true, true, true] rfl rfl (one_of HT_.out (by kernel_rfl)) (by decide) (fun K hK => ?_); have hs52 : w51.cell? ⟨gb605, 0, none⟩ = some (.bool false) := (blk_cell BK605.out 0).trans rfl; have hfs52 := blk_frozen BK605.out 0; have hns52_0 := NB589_605.out; have hms52_0 := NB605_589.out; have hs53 : w51.cell? ⟨gb605, 1, none⟩ = some (.slice none 0 0) := (blk_cell BK605.out 1).trans rfl; have hfs53 := blk_frozen BK605.out 1; have hns53_0 := NB589_605.out; have hms53_0 := NB605_589.out; refine skip_ (w1 := ?_) (by rfl) rfl ?_ ?_; rotate_left
                          · go_simp
                            rfl
                          refine hK.out _ _ ⟨((cell_far (p := ⟨gb605, _, none⟩) NB589_605.out _).trans (((cell_far (p := ⟨gb605, _, none⟩) NB589_605.out _).trans (hHeld.1)))), ((cell_far (p := ⟨gb605, _, none⟩) NB589_605.out _).trans (((cell_far (p := ⟨gb605, _, none⟩) NB589_605.out _).trans (hHeld.2.1)))), ((cell_far (p := ⟨gb605, _, none⟩) (by first | exact Kd.own_blk (Kd.R_ne HO_3.out BK605.out (by decide)) | (rw [add_block]; exact Kd.own_blk (Kd.R_ne HO_3.out BK605.out (by decide))) | (show (Addr.add _ _).block ≠ _; rw [add_block]; exact Kd.own_blk (Kd.R_ne HO_3.out BK605.out (by decide))) | (dsimp only; exact Kd.own_blk (Kd.R_ne HO_3.out BK605.out (by decide)))) _).trans (((cell_far (p := ⟨gb605, _, none⟩) (by first | exact Kd.own_blk (Kd.R_ne HO_3.out BK605.out (by decide)) | (rw [add_block]; exact Kd.own_blk (Kd.R_ne HO_3.out BK605.out (by decide))) | (show (Addr.add _ _).block ≠ _; rw [add_block]; exact Kd.own_blk (Kd.R_ne HO_3.out BK605.out (by decide))) | (dsimp only; exact Kd.own_blk (Kd.R_ne HO_3.out BK605.out (by decide)))) _).trans (hHeld.2.2.1)))), ((cell_far (p := ⟨gb605, _, none⟩) (by first | exact Nat.ne_of_lt (Nat.lt_of_lt_of_le (by have := World.block_lt_of_cell? _ _ hw604_0; first | rwa [add_block] at this | exact this) GW605.out) | (rw [add_block]; exact Nat.ne_of_lt (Nat.lt_of_lt_of_le (by have := World.block_lt_of_cell? _ _ hw604_0; first | rwa [add_block] at this | exact this) GW605.out)) | (show (Addr.add _ _).block ≠ _; rw [add_block]; exact Nat.ne_of_lt (Nat.lt_of_lt_of_le (by have := World.block_lt_of_cell? _ _ hw604_0; first | rwa [add_block] at this | exact this) GW605.out)) | (dsimp only; exact Nat.ne_of_lt (Nat.lt_of_lt_of_le (by have := World.block_lt_of_cell? _ _ hw604_0; first | rwa [add_block] at this | exact this) GW605.out))) _).trans (((cell_far (p := ⟨gb605, _, none⟩) (by first | exact Nat.ne_of_lt (Nat.lt_of_lt_of_le (by have := World.block_lt_of_cell? _ _ hw604_0; first | rwa [add_block] at this | exact this) GW605.out) | (rw [add_block]; exact Nat.ne_of_lt (Nat.lt_of_lt_of_le (by have := World.block_lt_of_cell? _ _ hw604_0; first | rwa [add_block] at this | exact this) GW605.out)) | (show (Addr.add _ _).block ≠ _; rw [add_block]; exact Nat.ne_of_lt (Nat.lt_of_lt_of_le (by have := World.block_lt_of_cell? _ _ hw604_0; first | rwa [add_block] at this | exact this) GW605.out)) | (dsimp only; exact Nat.ne_of_lt (Nat.lt_of_lt_of_le (by have := World.block_lt_of_cell? _ _ hw604_0; first | rwa [add_block] at this | exact this) GW605.out))) _).trans (hHeld.2.2.2.1)))), ((cell_far (p := ⟨gb605, _, none⟩) (by first | exact Nat.ne_of_lt (Nat.lt_of_lt_of_le (by have := World.block_lt_of_cell? _ _ hw604_1; first | rwa [add_block] at this | exact this) GW605.out) | (rw [add_block]; exact Nat.ne_of_lt (Nat.lt_of_lt_of_le (by have := World.block_lt_of_cell? _ _ hw604_1; first | rwa [add_block] at this | exact this) GW605.out)) | (show (Addr.add _ _).block ≠ _; rw [add_block]; exact Nat.ne_of_lt (Nat.lt_of_lt_of_le (by have := World.block_lt_of_cell? _ _ hw604_1; first | rwa [add_block] at this | exact this) GW605.out)) | (dsimp only; exact Nat.ne_of_lt (Nat.lt_of_lt_of_le (by have := World.block_lt_of_cell? _ _ hw604_1; first | rwa [add_block] at this | exact this) GW605.out))) _).trans (((cell_far (p := ⟨gb605, _, none⟩) (by first | exact Nat.ne_of_lt (Nat.lt_of_lt_of_le (by have := World.block_lt_of_cell? _ _ hw604_1; first | rwa [add_block] at this | exact this) GW605.out) | (rw [add_block]; exact Nat.ne_of_lt (Nat.lt_of_lt_of_le (by have := World.block_lt_of_cell? _ _ hw604_1; first | rwa [add_block] at this | exact this) GW605.out)) | (show (Addr.add _ _).block ≠ _; rw [add_block]; exact Nat.ne_of_lt (Nat.lt_of_lt_of_le (by have := World.block_lt_of_cell? _ _ hw604_1; first | rwa [add_block] at this | exact this) GW605.out)) | (dsimp only; exact Nat.ne_of_lt (Nat.lt_of_lt_of_le (by have := World.block_lt_of_cell? _ _ hw604_1; first | rwa [add_block] at this | exact this) GW605.out))) _).trans (hHeld.2.2.2.2.1)))), ((cell_far (p := ⟨gb605, _, none⟩) (by first | exact Nat.ne_of_lt (Nat.lt_of_lt_of_le (by have := World.block_lt_of_cell? _ _ hw604_2; first | rwa [add_block] at this | exact this) GW605.out) | (rw [add_block]; exact Nat.ne_of_lt (Nat.lt_of_lt_of_le (by have := World.block_lt_of_cell? _ _ hw604_2; first | rwa [add_block] at this | exact this) GW605.out)) | (show (Addr.add _ _).block ≠ _; rw [add_block]; exact Nat.ne_of_lt (Nat.lt_of_lt_of_le (by have := World.block_lt_of_cell? _ _ hw604_2; first | rwa [add_block] at this | exact this) GW605.out)) | (dsimp only; exact Nat.ne_of_lt (Nat.lt_of_lt_of_le (by have := World.block_lt_of_cell? _ _ hw604_2; first | rwa [add_block] at this | exact this) GW605.out))) _).trans (((cell_far (p := ⟨gb605, _, none⟩) (by first | exact Nat.ne_of_lt (Nat.lt_of_lt_of_le (by have := World.block_lt_of_cell? _ _ hw604_2; first | rwa [add_block] at this | exact this) GW605.out) | (rw [add_block]; exact Nat.ne_of_lt (Nat.lt_of_lt_of_le (by have := World.block_lt_of_cell? _ _ hw604_2; first | rwa [add_block] at this | exact this) GW605.out)) | (show (Addr.add _ _).block ≠ _; rw [add_block]; exact Nat.ne_of_lt (Nat.lt_of_lt_of_le (by have := World.block_lt_of_cell? _ _ hw604_2; first | rwa [add_block] at this | exact this) GW605.out)) | (dsimp only; exact Nat.ne_of_lt (Nat.lt_of_lt_of_le (by have := World.block_lt_of_cell? _ _ hw604_2; first | rwa [add_block] at this | exact this) GW605.out))) _).trans (hHeld.2.2.2.2.2))))⟩ (fun hHeld => ?_); clear hK K; refine done_ (done_of HT_.out (by kernel_rfl)) ?_
                          try go_wp2
                          go_loopg [5, 8] k3 (fun kq v5 v8 w' => ∃ (x5_4 : Int) (x8_4 : Int), v5 = .int .i64 x5_4 ∧ v8 = .int .i64 x8_4 ∧ Aside0 (spec_BookOk.l2 kq t590 x5_4 x6_3 x8_4 a0_0 l0_1 ((rd_T90 l0_1 (rd t590 x6_3)).f1.f0) ((rd_T90 l0_1 (rd t590 x6_3)).f1.f1) = some r) ∧ Aside0 (kq ≤ k3) ∧ Aside0 (Kd.R (Kd.int .i64) 3 w' w.heap.size (fun _ => True) (.slice (some ad603) t590.length co49) t590) ∧ Aside0 (w'.heap[gb589]? = some (.cells #[.int .i64 a0_0, (.slice (some ad604) l0_1.length c0_1)] 49 (0, 0))) ∧ Aside0 (w'.heap[gb605]? = some (.cells #[.bool ((rd_T90 l0_1 (rd t590 x6_3)).f1.f0), (.slice A604_2 ((rd_T90 l0_1 (rd t590 x6_3)).f1.f1).length c604_2)] 54 (0, 0))) ∧ Aside0 (Below w.heap.size w w'))
                          case atStart => exact ⟨(x5_3), (0), az, az, H', ⟨Nat.le_refl _⟩, ⟨by (with_reducible repeat (first | apply Kd.R_alloc | apply Kd.R_drewN | apply Kd.R_drew)); exact Kd.R_mono (Kd.R_far (p := ⟨gb605, 1, none⟩) (Kd.R_far (p := ⟨gb605, 0, none⟩) (Kd.R_types HO_3.out BK605.out (by decide)) (fun _ hk => hk.2) (.bool ((rd_T90 l0_1 (rd t590 x6_3)).f1.f0))) (fun _ hk => hk.2) (.slice A604_2 ((rd_T90 l0_1 (rd t590 x6_3)).f1.f1).length c604_2)) (fun _ hk => trivial)⟩, ⟨by (with_reducible repeat (first | refine blk_drewN ?_ _ | refine blk_drew ?_ | refine blk_alloc ?_ _)); refine blk_far ?_ NB589_605.out _; (with_reducible repeat (first | refine blk_drewN ?_ _ | refine blk_drew ?_ | refine blk_alloc ?_ _)); refine blk_far ?_ NB589_605.out _; (with_reducible repeat (first | refine blk_drewN ?_ _ | refine blk_drew ?_ | refine blk_alloc ?_ _)); exact BK589.out⟩, ⟨by (with_reducible repeat (first | refine blk_drewN ?_ _ | refine blk_drew ?_ | refine blk_alloc ?_ _)); refine blk_put (cs := #[.bool ((rd_T90 l0_1 (rd t590 x6_3)).f1.f0), .slice none 0 0]) ?_ 1 _ rfl; (with_reducible repeat (first | refine blk_drewN ?_ _ | refine blk_drew ?_ | refine blk_alloc ?_ _)); refine blk_put (cs := #[.bool false, .slice none 0 0]) ?_ 0 _ rfl; (with_reducible repeat (first | refine blk_drewN ?_ _ | refine blk_drew ?_ | refine blk_alloc ?_ _)); exact BK605.out⟩, ⟨b2 GE589.out GE605.out HB.out⟩⟩
                          case round =>
                            clear H'; (try clear c1); (try clear q1); (try clear c2); (try clear p2); (try clear c3); (try clear q3); (try clear c4); (try clear c5); (try clear p5); (try clear q5); (try clear hx5); (try clear c6); (try clear p6); (try clear q6); (try clear hx6); (try clear c13); (try clear c13b0); (try clear c14); (try clear q15); (try clear c16); (try clear c18); (try clear c19); (try clear c23); (try clear c23b0); (try clear c27); (try clear c27b0); (try clear c27b1); (try clear c36); (try clear q38); (try clear c39); (try clear c41); (try clear c41b0); (try clear c41b1); (try clear c45); (try clear c45b0); (try clear c46); (try clear c46b0); (try clear c47); (try clear c47b0); (try clear c48); (try clear c48b0); (try clear hcz20_0); (try clear hcz20_1); (try clear hcz22_0); (try clear hcz22_1); (try clear hcz24_0); (try clear hcz24_1); (try clear hcz26_0); (try clear hcz26_1); (try clear hcz28_0); (try clear hcz28_1); (try clear hcz30_0); (try clear hcz30_1); (try clear hcz31_0); (try clear hcz31_1); (try clear hcz33_0); (try clear hcz33_1); (try clear hcz34_0); (try clear hcz34_1); (try clear hcz37_0); (try clear hcz37_1); (try clear hcz40_0); (try clear hcz40_1); (try clear hcz42_0); (try clear hcz42_1); (try clear hcz43_0); (try clear hcz43_1); (try clear hcz44_0); (try clear hcz44_1); (try clear hfz20_0); (try clear hfz20_1); (try clear hfz22_0); (try clear hfz22_1); (try clear hfz24_0); (try clear hfz24_1); (try clear hfz26_0); (try clear hfz26_1); (try clear hfz28_0); (try clear hfz28_1); (try clear hfz30_0); (try clear hfz30_1); (try clear hfz31_0); (try clear hfz31_1); (try clear hfz33_0); (try clear hfz33_1); (try clear hfz34_0); (try clear hfz34_1); (try clear hfz37_0); (try clear hfz37_1); (try clear hfz40_0); (try clear hfz40_1); (try clear hfz42_0); (try clear hfz42_1); (try clear hfz43_0); (try clear hfz43_1); (try clear hfz44_0); (try clear hfz44_1); (try clear hx594_0); (try clear hx594_1); (try clear hx594_2); (try clear hx595_0); (try clear hx595_1); (try clear hx595_2); (try clear hx597_0); (try clear hx597_1); (try clear hx597_2); (try clear hx598_0); (try clear hx598_1); (try clear hx598_2); (try clear hx599_0); (try clear hx599_1); (try clear hx599_2); (try clear hx600_0); (try clear hx600_1); (try clear hx600_2); (try clear hx601_0); (try clear hx601_1); (try clear hx601_2); (try clear hx602_0); (try clear hx602_1); (try clear hx602_2); (try clear hx603_0); (try clear hx604_0); (try clear hx604_1); (try clear hx604_2); (try clear p2); (try clear p5); (try clear p594); (try clear p595); (try clear p597); (try clear p598); (try clear p599); (try clear p6); (try clear p600); (try clear p601); (try clear p602); (try clear p603); (try clear p604); (try clear q1); (try clear q15); (try clear q3); (try clear q38); (try clear q5); (try clear q594); (try clear q595); (try clear q597); (try clear q598); (try clear q599); (try clear q6); (try clear q600); (try clear q601); (try clear q602); (try clear q603); (try clear q604); obtain ⟨x5_4, x8_4, rfl, rfl, HA, HK4, HO_3, BK589, BK605, HB⟩ := hrel
                            cases gk with
                            | zero => exact absurd HA.out (by simp [spec_BookOk.l2])
                            | succ k4 =>
                              have H := HA.out; clear HA
                              simp only [spec_BookOk.l2] at H
                              have HC54 := Aside0.mk H; clear H
                              go_upto_region 15 with (fail)
                              go_cut [97] (fun v97 wc => ∃ (kq : Nat) (x97_53 : Bool), v97 = .bool x97_53 ∧ Aside0 (spec_BookOk.j4 kq t590 x5_4 x6_3 x8_4 x97_53 a0_0 l0_1 ((rd_T90 l0_1 (rd t590 x6_3)).f1.f0) ((rd_T90 l0_1 (rd t590 x6_3)).f1.f1) = some r) ∧ Aside0 (kq ≤ k4) ∧ Aside0 (Kd.R (Kd.int .i64) 3 wc w.heap.size (fun _ => True) (.slice (some ad603) t590.length co49) t590) ∧ Aside0 (wc.heap[gb589]? = some (.cells #[.int .i64 a0_0, (.slice (some ad604) l0_1.length c0_1)] 49 (0, 0))) ∧ Aside0 (wc.heap[gb605]? = some (.cells #[.bool ((rd_T90 l0_1 (rd t590 x6_3)).f1.f0), (.slice A604_2 ((rd_T90 l0_1 (rd t590 x6_3)).f1.f1).length c604_2)] 54 (0, 0))) ∧ Aside0 (Below w.heap.size w wc))
                              case first =>
                                have H := HC54.out; clear HC54
                                by_cases c55 : x8_4 < (((rd_T90 l0_1 (rd t590 x6_3)).f1.f1).length : Int)
                                · rw [if_pos c55] at H
                                  have c55b0 : decide (x8_4 < (((rd_T90 l0_1 (rd t590 x6_3)).f1.f1).length : Int)) = true := decide_eq_true c55; clear c55
                                  (first | rw [c55b0] | (simp only [i64_w, i32_w]; rw [c55b0]) | skip)
                                  have H' := Aside0.mk H; clear H; have hnb56 := NB605_589.out; have hnc56 := NB589_605.out; have hcz57_0 : wr.cell? ⟨gb605, 0, none⟩ = some (.bool ((rd_T90 l0_1 (rd t590 x6_3)).f1.f0)) := (blk_cell BK605.out 0).trans rfl; have hcz57_1 : wr.cell? ⟨gb605, 1, none⟩ = some (.slice A604_2 ((rd_T90 l0_1 (rd t590 x6_3)).f1.f1).length c604_2) := (blk_cell BK605.out 1).trans rfl; have hfz57_0 := blk_frozen BK605.out 0; have hfz57_1 := blk_frozen BK605.out 1; go_wp2; go_meet
                                  case rel => exact ⟨_, (!((rd_T90 l0_1 (rd t590 x6_3)).f1.f0)), az, H', ⟨by have := HJ2.out; have := HK2.out; have := HK3.out; have := HK4.out; first | omega | exact Nat.le_refl _⟩, ⟨rz HO_3.out⟩, ⟨kz BK589.out⟩, ⟨kz BK605.out⟩, ⟨b2 GE589.out GE605.out HB.out⟩⟩
                                · rw [if_neg c55] at H
                                  have c55b0 : decide (x8_4 < (((rd_T90 l0_1 (rd t590 x6_3)).f1.f1).length : Int)) = false := decide_eq_false c55; clear c55
                                  (first | rw [c55b0] | (simp only [i64_w, i32_w]; rw [c55b0]) | skip)
                                  have H' := Aside0.mk H; clear H; have hnb58 := NB605_589.out; have hnc58 := NB589_605.out; have hcz59_0 : wr.cell? ⟨gb605, 0, none⟩ = some (.bool ((rd_T90 l0_1 (rd t590 x6_3)).f1.f0)) := (blk_cell BK605.out 0).trans rfl; have hcz59_1 : wr.cell? ⟨gb605, 1, none⟩ = some (.slice A604_2 ((rd_T90 l0_1 (rd t590 x6_3)).f1.f1).length c604_2) := (blk_cell BK605.out 1).trans rfl; have hfz59_0 := blk_frozen BK605.out 0; have hfz59_1 := blk_frozen BK605.out 1; go_wp2; go_meet
                                  case rel => exact ⟨_, (false), az, H', ⟨by have := HJ2.out; have := HK2.out; have := HK3.out; have := HK4.out; first | omega | exact Nat.le_refl _⟩, ⟨rz HO_3.out⟩, ⟨kz BK589.out⟩, ⟨kz BK605.out⟩, ⟨b2 GE589.out GE605.out HB.out⟩⟩
                              case rest =>
                                clear HC54; (try clear c1); (try clear q1); (try clear c2); (try clear p2); (try clear c3); (try clear q3); (try clear c4); (try clear c5); (try clear p5); (try clear q5); (try clear hx5); (try clear c6); (try clear p6); (try clear q6); (try clear hx6); (try clear c13); (try clear c13b0); (try clear c14); (try clear q15); (try clear c16); (try clear c18); (try clear c19); (try clear c23); (try clear c23b0); (try clear c27); (try clear c27b0); (try clear c27b1); (try clear c36); (try clear q38); (try clear c39); (try clear c41); (try clear c41b0); (try clear c41b1); (try clear c45); (try clear c45b0); (try clear c46); (try clear c46b0); (try clear c47); (try clear c47b0); (try clear c48); (try clear c48b0); (try clear c55); (try clear c55b0); (try clear c56); (try clear c58); (try clear p59); (try clear q59); (try clear hx59); (try clear hcz20_0); (try clear hcz20_1); (try clear hcz22_0); (try clear hcz22_1); (try clear hcz24_0); (try clear hcz24_1); (try clear hcz26_0); (try clear hcz26_1); (try clear hcz28_0); (try clear hcz28_1); (try clear hcz30_0); (try clear hcz30_1); (try clear hcz31_0); (try clear hcz31_1); (try clear hcz33_0); (try clear hcz33_1); (try clear hcz34_0); (try clear hcz34_1); (try clear hcz37_0); (try clear hcz37_1); (try clear hcz40_0); (try clear hcz40_1); (try clear hcz42_0); (try clear hcz42_1); (try clear hcz43_0); (try clear hcz43_1); (try clear hcz44_0); (try clear hcz44_1); (try clear hcz57_0); (try clear hcz57_1); (try clear hcz59_0); (try clear hcz59_1); (try clear hfz20_0); (try clear hfz20_1); (try clear hfz22_0); (try clear hfz22_1); (try clear hfz24_0); (try clear hfz24_1); (try clear hfz26_0); (try clear hfz26_1); (try clear hfz28_0); (try clear hfz28_1); (try clear hfz30_0); (try clear hfz30_1); (try clear hfz31_0); (try clear hfz31_1); (try clear hfz33_0); (try clear hfz33_1); (try clear hfz34_0); (try clear hfz34_1); (try clear hfz37_0); (try clear hfz37_1); (try clear hfz40_0); (try clear hfz40_1); (try clear hfz42_0); (try clear hfz42_1); (try clear hfz43_0); (try clear hfz43_1); (try clear hfz44_0); (try clear hfz44_1); (try clear hfz57_0); (try clear hfz57_1); (try clear hfz59_0); (try clear hfz59_1); (try clear hx594_0); (try clear hx594_1); (try clear hx594_2); (try clear hx595_0); (try clear hx595_1); (try clear hx595_2); (try clear hx597_0); (try clear hx597_1); (try clear hx597_2); (try clear hx598_0); (try clear hx598_1); (try clear hx598_2); (try clear hx599_0); (try clear hx599_1); (try clear hx599_2); (try clear hx600_0); (try clear hx600_1); (try clear hx600_2); (try clear hx601_0); (try clear hx601_1); (try clear hx601_2); (try clear hx602_0); (try clear hx602_1); (try clear hx602_2); (try clear hx603_0); (try clear hx604_0); (try clear hx604_1); (try clear hx604_2); (try clear p2); (try clear p5); (try clear p594); (try clear p595); (try clear p597); (try clear p598); (try clear p599); (try clear p6); (try clear p600); (try clear p601); (try clear p602); (try clear p603); (try clear p604); (try clear q1); (try clear q15); (try clear q3); (try clear q38); (try clear q5); (try clear q594); (try clear q595); (try clear q597); (try clear q598); (try clear q599); (try clear q6); (try clear q600); (try clear q601); (try clear q602); (try clear q603); (try clear q604); obtain ⟨kq, x97_53, rfl, HA, HJ53, HO_3, BK589, BK605, HB⟩ := hcut
                                cases kq with
                                | zero => exact absurd HA.out (by simp [spec_BookOk.j4])
                                | succ kj53 =>
                                  have H := HA.out; clear HA
                                  simp only [spec_BookOk.j4] at H
                                  by_cases c60 : x97_53 = true
                                  · subst c60
                                    replace H : (if 0 ≤ x8_4 then (if x8_4 < (((rd_T90 l0_1 (rd t590 x6_3)).f1.f1).length : Int) then ((spec_l7Has.f kj53 t590 ((rd_T103 ((rd_T90 l0_1 (rd t590 x6_3)).f1.f1) x8_4).f0)).bind fun t607 => (if t607 = true then (if ((rd_T103 ((rd_T90 l0_1 (rd t590 x6_3)).f1.f1) x8_4).f0) = a0_0 then (some false) else (spec_BookOk.l2 kj53 t590 (wrap64 (x5_4 + 1)) x6_3 (wrap64 (x8_4 + 1)) a0_0 l0_1 ((rd_T90 l0_1 (rd t590 x6_3)).f1.f0) ((rd_T90 l0_1 (rd t590 x6_3)).f1.f1))) else (some false))) else (none)) else (none)) = some r := (by rw [if_pos rfl] at H; exact H)
                                    by_cases c61 : 0 ≤ x8_4
                                    · rw [if_pos c61] at H
                                      have c61b0 : decide (0 ≤ x8_4) = true := decide_eq_true c61; clear c61
                                      by_cases c62 : x8_4 < (((rd_T90 l0_1 (rd t590 x6_3)).f1.f1).length : Int)
                                      · rw [if_pos c62] at H
                                        have c62b0 : decide (x8_4 < (((rd_T90 l0_1 (rd t590 x6_3)).f1.f1).length : Int)) = true := decide_eq_true c62; clear c62; replace H := Option.bind_eq_some_iff.mp H; obtain ⟨t607, A630, H⟩ := H; replace H : (if t607 = true then (if ((rd_T103 ((rd_T90 l0_1 (rd t590 x6_3)).f1.f1) x8_4).f0) = a0_0 then (some false) else (spec_BookOk.l2 kj53 t590 (wrap64 (x5_4 + 1)) x6_3 (wrap64 (x8_4 + 1)) a0_0 l0_1 ((rd_T90 l0_1 (rd t590 x6_3)).f1.f0) ((rd_T90 l0_1 (rd t590 x6_3)).f1.f1))) else (some false)) = some r := H; have A63 := Aside0.mk A630; clear A630
                                        by_cases c64 : t607 = true
                                        · subst c64
                                          replace H : (if ((rd_T103 ((rd_T90 l0_1 (rd t590 x6_3)).f1.f1) x8_4).f0) = a0_0 then (some false) else (spec_BookOk.l2 kj53 t590 (wrap64 (x5_4 + 1)) x6_3 (wrap64 (x8_4 + 1)) a0_0 l0_1 ((rd_T90 l0_1 (rd t590 x6_3)).f1.f0) ((rd_T90 l0_1 (rd t590 x6_3)).f1.f1))) = some r := (by rw [if_pos rfl] at H; exact H)
                                          by_cases c65 : ((rd_T103 ((rd_T90 l0_1 (rd t590 x6_3)).f1.f1) x8_4).f0) = a0_0
                                          · rw [if_pos c65] at H
                                            have c65b0 : (((rd_T103 ((rd_T90 l0_1 (rd t590 x6_3)).f1.f1) x8_4).f0) == a0_0) = true := beq_iff_eq.mpr c65; have c65b1 : (((rd_T103 ((rd_T90 l0_1 (rd t590 x6_3)).f1.f1) x8_4).f0) != a0_0) = false := bne_eq_false_iff_eq.mpr c65; clear c65; obtain rfl := Option.some.inj H
                                            try go_wp2
                                            have n0_ := Aside0.mk (Kd.R_drew HO_3.out); have n1_ := Aside0.mk (blk_drew BK589.out); have n2_ := Aside0.mk (blk_drew BK605.out); have n3_ := Aside0.mk (below_drew1 HB.out); clear HO_3; clear BK589; clear BK605; clear HB; have HO_3 := n0_; have BK589 := n1_; have BK605 := n2_; have HB := n3_; clear n0_ n1_ n2_ n3_; have p606 : 0 ≤ (x8_4 : Int) := of_decide_eq_true uz; have q606 : x8_4 < (((rd_T90 l0_1 (rd t590 x6_3)).f1.f1).length : Int) := of_decide_eq_true uz; obtain ⟨ad606, e606, hx606_0, hx606_1, hx606_2, hx606_3, hx606_4⟩ := at_T103 HR604_2.out x8_4 p606 q606; have hw606_4 := hx606_4; have hw606_3 := hx606_3; have hw606_2 := hx606_2; have hw606_1 := hx606_1; have hw606_0 := hx606_0
                                            cases e606
                                            replace hx606_0 := cz HB.out hx606_0; replace hx606_1 := cz HB.out hx606_1; replace hx606_2 := cz HB.out hx606_2; replace hx606_3 := cz HB.out hx606_3; replace hx606_4 := cz HB.out hx606_4; replace p606 := eq_true p606; replace q606 := eq_true q606; have p608 : 0 ≤ (x8_4 : Int) := of_decide_eq_true uz; have q608 : x8_4 < (((rd_T90 l0_1 (rd t590 x6_3)).f1.f1).length : Int) := of_decide_eq_true uz; obtain ⟨ad608, e608, hx608_0, hx608_1, hx608_2, hx608_3, hx608_4⟩ := at_T103 HR604_2.out x8_4 p608 q608; have hw608_4 := hx608_4; have hw608_3 := hx608_3; have hw608_2 := hx608_2; have hw608_1 := hx608_1; have hw608_0 := hx608_0; obtain rfl : ad606 = ad608 := (by injection e608); replace hx608_0 := cz HB.out hx608_0; replace hx608_1 := cz HB.out hx608_1; replace hx608_2 := cz HB.out hx608_2; replace hx608_3 := cz HB.out hx608_3; replace hx608_4 := cz HB.out hx608_4; replace p608 := eq_true p608; replace q608 := eq_true q608
                                            refine start_ (n := 20) (S := fun w' => w'.cell? ⟨gb605, 0, none⟩ = some (.bool ((rd_T90 l0_1 (rd t590 x6_3)).f1.f0)) ∧ w'.cell? ⟨gb605, 1, none⟩ = some (.slice (some ad606) ((rd_T90 l0_1 (rd t590 x6_3)).f1.f1).length c604_2) ∧ w'.cell? ⟨gb589, 0, none⟩ = some (.int .i64 a0_0) ∧ w'.cell? ⟨gb589, 1, none⟩ = some (.slice (some ad604) l0_1.length c0_1) ∧ w'.cell? (ad606.add ((x8_4).toNat * 5)) = some (.int .i64 ((rd_T103 ((rd_T90 l0_1 (rd t590 x6_3)).f1.f1) x8_4).f0)) ∧ w'.cell? ⟨(ad606.add ((x8_4).toNat * 5)).block, (ad606.add ((x8_4).toNat * 5)).off + 1, none⟩ = some (.int .i64 ((rd_T103 ((rd_T90 l0_1 (rd t590 x6_3)).f1.f1) x8_4).f1.f0)) ∧ w'.cell? ⟨(ad606.add ((x8_4).toNat * 5)).block, (ad606.add ((x8_4).toNat * 5)).off + 2, none⟩ = some (.int .i64 ((rd_T103 ((rd_T90 l0_1 (rd t590 x6_3)).f1.f1) x8_4).f1.f1)) ∧ w'.cell? ⟨(ad606.add ((x8_4).toNat * 5)).block, (ad606.add ((x8_4).toNat * 5)).off + 3, none⟩ = some (.int .i64 ((rd_T103 ((rd_T90 l0_1 (rd t590 x6_3)).f1.f1) x8_4).f1.f2)) ∧ w'.cell? ⟨(ad606.add ((x8_4).toNat * 5)).block, (ad606.add ((x8_4).toNat * 5)).off + 4, none⟩ = some (.int .i64 ((rd_T103 ((rd_T90 l0_1 (rd t590 x6_3)).f1.f1) x8_4).f1.f3)) ∧ w'.cell? (ad606.add ((x8_4).toNat * 5)) = some (.int .i64 ((rd_T103 ((rd_T90 l0_1 (rd t590 x6_3)).f1.f1) x8_4).f0)) ∧ w'.cell? ⟨(ad606.add ((x8_4).toNat * 5)).block, (ad606.add ((x8_4).toNat * 5)).off + 1, none⟩ = some (.int .i64 ((rd_T103 ((rd_T90 l0_1 (rd t590 x6_3)).f1.f1) x8_4).f1.f0)) ∧ w'.cell? ⟨(ad606.add ((x8_4).toNat * 5)).block, (ad606.add ((x8_4).toNat * 5)).off + 2, none⟩ = some (.int .i64 ((rd_T103 ((rd_T90 l0_1 (rd t590 x6_3)).f1.f1) x8_4).f1.f1)) ∧ w'.cell? ⟨(ad606.add ((x8_4).toNat * 5)).block, (ad606.add ((x8_4).toNat * 5)).off + 3, none⟩ = some (.int .i64 ((rd_T103 ((rd_T90 l0_1 (rd t590 x6_3)).f1.f1) x8_4).f1.f2)) ∧ w'.cell? ⟨(ad606.add ((x8_4).toNat * 5)).block, (ad606.add ((x8_4).toNat * 5)).off + 4, none⟩ = some (.int .i64 ((rd_T103 ((rd_T90 l0_1 (rd t590 x6_3)).f1.f1) x8_4).f1.f3))) (ds := []) #[false, false, false, false, false, false, false, false, false, false, false, false, false, false, false, false, false, false, false, false] (by kernel_rfl) rfl rfl ⟨(blk_cell BK605.out 0).trans rfl, (blk_cell BK605.out 1).trans rfl, (blk_cell BK589.out 0).trans rfl, (blk_cell BK589.out 1).trans rfl, (cz HB.out hw606_0 :), (cz HB.out hw606_1 :), (cz HB.out hw606_2 :), (cz HB.out hw606_3 :), (cz HB.out hw606_4 :), (cz HB.out hw608_0 :), (cz HB.out hw608_1 :), (cz HB.out hw608_2 :), (cz HB.out hw608_3 :), (cz HB.out hw608_4 :)⟩ (fun hHeld => ?_); refine with_tabW spec_BookOk.tab17 spec_BookOk.bits17 (fun HT_ HW_ => ?_)
                                            generalize wc.drew = w66 at HO_3 BK589 BK605 HB hx606_0 hx606_1 hx606_2 hx606_3 hx606_4 hx608_0 hx608_1 hx608_2 hx608_3 hx608_4 hHeld ⊢
                                            refine pure_ (i := 0) (N := some 100) (v := ?_) (a' := ?_) #[true, false, false, false, false, false, false, false, false, false, false, false, false, false, false, false, false, false, false, false] rfl rfl (any_of HT_.out (by kernel_rfl)) (fun _ _ _ h => h) (Or.inl ⟨by rfl, ?_⟩) ?_ ?_; rotate_left
                                            · intro w'
                                              go_simp
                                              with_reducible rfl
                                            rotate_left
                                            · exact pz
                                            refine pure_ (i := 1) (N := some 101) (v := ?_) (a' := ?_) #[true, true, false, false, false, false, false, false, false, false, false, false, false, false, false, false, false, false, false, false] rfl rfl (any_of HT_.out (by kernel_rfl)) (fun _ _ _ h => h) (Or.inl ⟨by rfl, ?_⟩) ?_ ?_; rotate_left
                                            · intro w'
                                              go_simp
                                              with_reducible rfl
                                            rotate_left
                                            · exact pz
                                            refine pure_ (i := 3) (N := some 103) (v := ?_) (a' := ?_) #[true, true, false, true, false, false, false, false, false, false, false, false, false, false, false, false, false, false, false, false] rfl rfl (any_of HT_.out (by kernel_rfl)) (fun _ _ _ h => h) (Or.inl ⟨by rfl, ?_⟩) ?_ ?_; rotate_left
                                            · intro w'
                                              go_simp
                                              with_reducible rfl
                                            rotate_left
                                            · exact pz
                                            refine take_ (i := 2) (N := some 102) (v := ?_) (a' := ?_) #[true, true, true, true, false, false, false, false, false, false, false, false, false, false, false, false, false, false, false, false] rfl rfl (take_ofW HT_.out HW_.out (by kernel_rfl)) (fun _ _ _ h => h) (Or.inl ⟨by rfl, ?_⟩) hHeld ?_ ?_; rotate_left
                                            · rintro w' ⟨s0, s1, s2, s3, s4, s5, s6, s7, s8, s9, s10, s11, s12, s13⟩
                                              go_simp
                                              with_reducible rfl
                                            rotate_left
                                            · exact pz
                                            refine pure_ (i := 4) (N := some 104) (v := ?_) (a' := ?_) #[true, true, true, true, true, false, false, false, false, false, false, false, false, false, false, false, false, false, false, false] rfl rfl (any_of HT_.out (by kernel_rfl)) (fun _ _ _ h => h) (Or.inl ⟨by rfl, ?_⟩) ?_ ?_; rotate_left
                                            · intro w'
                                              go_simp
                                              with_reducible rfl
                                            rotate_left
                                            · exact pz
                                            refine pure_ (i := 5) (N := some 105) (v := ?_) (a' := ?_) #[true, true, true, true, true, true, false, false, false, false, false, false, false, false, false, false, false, false, false, false] rfl rfl (any_of HT_.out (by kernel_rfl)) (fun _ _ _ h => h) (Or.inl ⟨by rfl, ?_⟩) ?_ ?_; rotate_left
                                            · intro w'
                                              go_simp
                                              with_reducible rfl
                                            rotate_left
                                            · exact pz
                                            refine take_ (i := 6) (N := some 106) (v := ?_) (a' := ?_) #[true, true, true, true, true, true, true, false, false, false, false, false, false, false, false, false, false, false, false, false] rfl rfl (take_ofW HT_.out HW_.out (by kernel_rfl)) (fun _ _ _ h => h) (Or.inl ⟨by rfl, ?_⟩) hHeld ?_ ?_; rotate_left
                                            · rintro w' ⟨s0, s1, s2, s3, s4, s5, s6, s7, s8, s9, s10, s11, s12, s13⟩
                                              go_simp
                                              with_reducible rfl
                                            rotate_left
                                            · exact pz
                                            refine one_ (i := 7) (N := some 107) #[true, true, true, true, true, true, true, true, false, false, false, false, false, false, false, false, false, false, false, false] rfl rfl (one_of HT_.out (by kernel_rfl)) (by decide) (fun K hK => ?_); refine goes_ Try.func87 (by kernel_rfl) rfl #[.slice (some ad603) t590.length co49, .int .i64 ((rd_T103 ((rd_T90 l0_1 (rd t590 x6_3)).f1.f1) x8_4).f0)] (by rfl) rfl rfl dz ?_
                                            with_reducible refine (spec_l7Has.calls kj53 _ _ t590 ((rd_T103 ((rd_T90 l0_1 (rd t590 x6_3)).f1.f1) x8_4).f0) true _ ?side1 ?side2 A63.out).mono ?_
                                            (case side1 => repeat (first | exact (Kd.R_reads' HO_3.out).2.2 | (with_reducible refine Kd.C_alloc ?_ _) | (with_reducible refine Kd.C_drewN ?_ _) | (with_reducible refine Kd.C_drew ?_)))
                                            (case side2 => exact (Kd.R_reads' HO_3.out).2.1)
                                            rintro e w' ⟨rfl, ⟨nd, rfl⟩⟩
                                            refine ⟨_, rfl, ?_⟩; refine hK.out _ _ ⟨(blk_cell BK605.out 0).trans rfl, (blk_cell BK605.out 1).trans rfl, (blk_cell BK589.out 0).trans rfl, (blk_cell BK589.out 1).trans rfl, (cz HB.out hw606_0 :), (cz HB.out hw606_1 :), (cz HB.out hw606_2 :), (cz HB.out hw606_3 :), (cz HB.out hw606_4 :), (cz HB.out hw608_0 :), (cz HB.out hw608_1 :), (cz HB.out hw608_2 :), (cz HB.out hw608_3 :), (cz HB.out hw608_4 :)⟩ (fun hHeld => ?_); clear hK K; refine norm_ (a' := ?_) ?_ ?_; rotate_left
                                            · show Act.put _ (some 107) _ = _
                                              simp only [Act.put, List.setIfInBounds_toArray, List.set_cons_zero, List.set_cons_succ, i64_w, i32_w]
                                              rfl
                                            refine pure_ (i := 8) (N := some 108) (v := ?_) (a' := ?_) #[true, true, true, true, true, true, true, true, true, false, false, false, false, false, false, false, false, false, false, false] rfl rfl (any_of HT_.out (by kernel_rfl)) (fun _ _ _ h => h) (Or.inl ⟨by rfl, ?_⟩) ?_ ?_; rotate_left
                                            · intro w'
                                              go_simp
                                              with_reducible rfl
                                            rotate_left
                                            · exact pz
                                            refine pure_ (i := 9) (N := some 109) (v := ?_) (a' := ?_) #[true, true, true, true, true, true, true, true, true, true, false, false, false, false, false, false, false, false, false, false] rfl rfl (any_of HT_.out (by kernel_rfl)) (fun _ _ _ h => h) (Or.inl ⟨by rfl, ?_⟩) ?_ ?_; rotate_left
                                            · intro w'
                                              go_simp
                                              with_reducible rfl
                                            rotate_left
                                            · exact pz
                                            refine pure_ (i := 10) (N := some 110) (v := ?_) (a' := ?_) #[true, true, true, true, true, true, true, true, true, true, true, false, false, false, false, false, false, false, false, false] rfl rfl (any_of HT_.out (by kernel_rfl)) (fun _ _ _ h => h) (Or.inl ⟨by rfl, ?_⟩) ?_ ?_; rotate_left
                                            · intro w'
                                              go_simp
                                              with_reducible rfl
                                            rotate_left
                                            · exact pz
                                            refine pure_ (i := 12) (N := some 112) (v := ?_) (a' := ?_) #[true, true, true, true, true, true, true, true, true, true, true, false, true, false, false, false, false, false, false, false] rfl rfl (any_of HT_.out (by kernel_rfl)) (fun _ _ _ h => h) (Or.inl ⟨by rfl, ?_⟩) ?_ ?_; rotate_left
                                            · intro w'
                                              go_simp
                                              with_reducible rfl
                                            rotate_left
                                            · exact pz
                                            refine pure_ (i := 16) (N := some 116) (v := ?_) (a' := ?_) #[true, true, true, true, true, true, true, true, true, true, true, false, true, false, false, false, true, false, false, false] rfl rfl (any_of HT_.out (by kernel_rfl)) (fun _ _ _ h => h) (Or.inl ⟨by rfl, ?_⟩) ?_ ?_; rotate_left
                                            · intro w'
                                              go_simp
                                              with_reducible rfl
                                            rotate_left
                                            · exact pz
                                            refine take_ (i := 11) (N := some 111) (v := ?_) (a' := ?_) #[true, true, true, true, true, true, true, true, true, true, true, true, true, false, false, false, true, false, false, false] rfl rfl (take_ofW HT_.out HW_.out (by kernel_rfl)) (fun _ _ _ h => h) (Or.inl ⟨by rfl, ?_⟩) hHeld ?_ ?_; rotate_left
                                            · rintro w' ⟨s0, s1, s2, s3, s4, s5, s6, s7, s8, s9, s10, s11, s12, s13⟩
                                              go_simp
                                              with_reducible rfl
                                            rotate_left
                                            · exact pz
                                            refine pure_ (i := 13) (N := some 113) (v := ?_) (a' := ?_) #[true, true, true, true, true, true, true, true, true, true, true, true, true, true, false, false, true, false, false, false] rfl rfl (any_of HT_.out (by kernel_rfl)) (fun _ _ _ h => h) (Or.inl ⟨by rfl, ?_⟩) ?_ ?_; rotate_left
                                            · intro w'
                                              go_simp
                                              with_reducible rfl
                                            rotate_left
                                            · exact pz
                                            refine pure_ (i := 14) (N := some 114) (v := ?_) (a' := ?_) #[true, true, true, true, true, true, true, true, true, true, true, true, true, true, true, false, true, false, false, false] rfl rfl (any_of HT_.out (by kernel_rfl)) (fun _ _ _ h => h) (Or.inl ⟨by rfl, ?_⟩) ?_ ?_; rotate_left
                                            · intro w'
                                              go_simp
                                              with_reducible rfl
                                            rotate_left
                                            · exact pz
                                            refine take_ (i := 15) (N := some 115) (v := ?_) (a' := ?_) #[true, true, true, true, true, true, true, true, true, true, true, true, true, true, true, true, true, false, false, false] rfl rfl (take_ofW HT_.out HW_.out (by kernel_rfl)) (fun _ _ _ h => h) (Or.inl ⟨by rfl, ?_⟩) hHeld ?_ ?_; rotate_left
                                            · rintro w' ⟨s0, s1, s2, s3, s4, s5, s6, s7, s8, s9, s10, s11, s12, s13⟩
                                              go_simp
                                              with_reducible rfl
                                            rotate_left
                                            · exact pz
                                            refine take_ (i := 17) (N := some 117) (v := ?_) (a' := ?_) #[true, true, true, true, true, true, true, true, true, true, true, true, true, true, true, true, true, true, false, false] rfl rfl (take_ofW HT_.out HW_.out (by kernel_rfl)) (fun _ _ _ h => h) (Or.inl ⟨by rfl, ?_⟩) hHeld ?_ ?_; rotate_left
                                            · rintro w' ⟨s0, s1, s2, s3, s4, s5, s6, s7, s8, s9, s10, s11, s12, s13⟩
                                              go_simp
                                              with_reducible rfl
                                            rotate_left
                                            · exact pz
                                            refine pure_ (i := 18) (N := some 118) (v := ?_) (a' := ?_) #[true, true, true, true, true, true, true, true, true, true, true, true, true, true, true, true, true, true, true, false] rfl rfl (any_of HT_.out (by kernel_rfl)) (fun _ _ _ h => h) (Or.inl ⟨by rfl, ?_⟩) ?_ ?_; rotate_left
                                            · intro w'
                                              go_simp
                                              with_reducible rfl
                                            rotate_left
                                            · exact pz
                                            refine pure_ (i := 19) (N := some 119) (v := ?_) (a' := ?_) #[true, true, true, true, true, true, true, true, true, true, true, true, true, true, true, true, true, true, true, true] rfl rfl (any_of HT_.out (by kernel_rfl)) (fun _ _ _ h => h) (Or.inl ⟨by rfl, ?_⟩) ?_ ?_; rotate_left
                                            · intro w'
                                              go_simp
                                              with_reducible rfl
                                            rotate_left
                                            · exact pz
                                            refine done_ (done_of HT_.out (by kernel_rfl)) ?_
                                            try go_wp2
                                            go_ret; exact ⟨ez, b2 GE589.out GE605.out HB.out⟩
                                          · rw [if_neg c65] at H
                                            have c65b0 : (((rd_T103 ((rd_T90 l0_1 (rd t590 x6_3)).f1.f1) x8_4).f0) == a0_0) = false := beq_eq_false_iff_ne.mpr c65; have c65b1 : (((rd_T103 ((rd_T90 l0_1 (rd t590 x6_3)).f1.f1) x8_4).f0) != a0_0) = true := bne_iff_ne.mpr c65; have H' := Aside0.mk H; clear H
                                            try go_wp2
                                            have n0_ := Aside0.mk (Kd.R_drew HO_3.out); have n1_ := Aside0.mk (blk_drew BK589.out); have n2_ := Aside0.mk (blk_drew BK605.out); have n3_ := Aside0.mk (below_drew1 HB.out); clear HO_3; clear BK589; clear BK605; clear HB; have HO_3 := n0_; have BK589 := n1_; have BK605 := n2_; have HB := n3_; clear n0_ n1_ n2_ n3_; have p606 : 0 ≤ (x8_4 : Int) := of_decide_eq_true uz; have q606 : x8_4 < (((rd_T90 l0_1 (rd t590 x6_3)).f1.f1).length : Int) := of_decide_eq_true uz; obtain ⟨ad606, e606, hx606_0, hx606_1, hx606_2, hx606_3, hx606_4⟩ := at_T103 HR604_2.out x8_4 p606 q606; have hw606_4 := hx606_4; have hw606_3 := hx606_3; have hw606_2 := hx606_2; have hw606_1 := hx606_1; have hw606_0 := hx606_0
                                            cases e606
                                            replace hx606_0 := cz HB.out hx606_0; replace hx606_1 := cz HB.out hx606_1; replace hx606_2 := cz HB.out hx606_2; replace hx606_3 := cz HB.out hx606_3; replace hx606_4 := cz HB.out hx606_4; replace p606 := eq_true p606; replace q606 := eq_true q606; have p608 : 0 ≤ (x8_4 : Int) := of_decide_eq_true uz; have q608 : x8_4 < (((rd_T90 l0_1 (rd t590 x6_3)).f1.f1).length : Int) := of_decide_eq_true uz; obtain ⟨ad608, e608, hx608_0, hx608_1, hx608_2, hx608_3, hx608_4⟩ := at_T103 HR604_2.out x8_4 p608 q608; have hw608_4 := hx608_4; have hw608_3 := hx608_3; have hw608_2 := hx608_2; have hw608_1 := hx608_1; have hw608_0 := hx608_0; obtain rfl : ad606 = ad608 := (by injection e608); replace hx608_0 := cz HB.out hx608_0; replace hx608_1 := cz HB.out hx608_1; replace hx608_2 := cz HB.out hx608_2; replace hx608_3 := cz HB.out hx608_3; replace hx608_4 := cz HB.out hx608_4; replace p608 := eq_true p608; replace q608 := eq_true q608
                                            refine start_ (n := 20) (S := fun w' => w'.cell? ⟨gb605, 0, none⟩ = some (.bool ((rd_T90 l0_1 (rd t590 x6_3)).f1.f0)) ∧ w'.cell? ⟨gb605, 1, none⟩ = some (.slice (some ad606) ((rd_T90 l0_1 (rd t590 x6_3)).f1.f1).length c604_2) ∧ w'.cell? ⟨gb589, 0, none⟩ = some (.int .i64 a0_0) ∧ w'.cell? ⟨gb589, 1, none⟩ = some (.slice (some ad604) l0_1.length c0_1) ∧ w'.cell? (ad606.add ((x8_4).toNat * 5)) = some (.int .i64 ((rd_T103 ((rd_T90 l0_1 (rd t590 x6_3)).f1.f1) x8_4).f0)) ∧ w'.cell? ⟨(ad606.add ((x8_4).toNat * 5)).block, (ad606.add ((x8_4).toNat * 5)).off + 1, none⟩ = some (.int .i64 ((rd_T103 ((rd_T90 l0_1 (rd t590 x6_3)).f1.f1) x8_4).f1.f0)) ∧ w'.cell? ⟨(ad606.add ((x8_4).toNat * 5)).block, (ad606.add ((x8_4).toNat * 5)).off + 2, none⟩ = some (.int .i64 ((rd_T103 ((rd_T90 l0_1 (rd t590 x6_3)).f1.f1) x8_4).f1.f1)) ∧ w'.cell? ⟨(ad606.add ((x8_4).toNat * 5)).block, (ad606.add ((x8_4).toNat * 5)).off + 3, none⟩ = some (.int .i64 ((rd_T103 ((rd_T90 l0_1 (rd t590 x6_3)).f1.f1) x8_4).f1.f2)) ∧ w'.cell? ⟨(ad606.add ((x8_4).toNat * 5)).block, (ad606.add ((x8_4).toNat * 5)).off + 4, none⟩ = some (.int .i64 ((rd_T103 ((rd_T90 l0_1 (rd t590 x6_3)).f1.f1) x8_4).f1.f3)) ∧ w'.cell? (ad606.add ((x8_4).toNat * 5)) = some (.int .i64 ((rd_T103 ((rd_T90 l0_1 (rd t590 x6_3)).f1.f1) x8_4).f0)) ∧ w'.cell? ⟨(ad606.add ((x8_4).toNat * 5)).block, (ad606.add ((x8_4).toNat * 5)).off + 1, none⟩ = some (.int .i64 ((rd_T103 ((rd_T90 l0_1 (rd t590 x6_3)).f1.f1) x8_4).f1.f0)) ∧ w'.cell? ⟨(ad606.add ((x8_4).toNat * 5)).block, (ad606.add ((x8_4).toNat * 5)).off + 2, none⟩ = some (.int .i64 ((rd_T103 ((rd_T90 l0_1 (rd t590 x6_3)).f1.f1) x8_4).f1.f1)) ∧ w'.cell? ⟨(ad606.add ((x8_4).toNat * 5)).block, (ad606.add ((x8_4).toNat * 5)).off + 3, none⟩ = some (.int .i64 ((rd_T103 ((rd_T90 l0_1 (rd t590 x6_3)).f1.f1) x8_4).f1.f2)) ∧ w'.cell? ⟨(ad606.add ((x8_4).toNat * 5)).block, (ad606.add ((x8_4).toNat * 5)).off + 4, none⟩ = some (.int .i64 ((rd_T103 ((rd_T90 l0_1 (rd t590 x6_3)).f1.f1) x8_4).f1.f3))) (ds := []) #[false, false, false, false, false, false, false, false, false, false, false, false, false, false, false, false, false, false, false, false] (by kernel_rfl) rfl rfl ⟨(blk_cell BK605.out 0).trans rfl, (blk_cell BK605.out 1).trans rfl, (blk_cell BK589.out 0).trans rfl, (blk_cell BK589.out 1).trans rfl, (cz HB.out hw606_0 :), (cz HB.out hw606_1 :), (cz HB.out hw606_2 :), (cz HB.out hw606_3 :), (cz HB.out hw606_4 :), (cz HB.out hw608_0 :), (cz HB.out hw608_1 :), (cz HB.out hw608_2 :), (cz HB.out hw608_3 :), (cz HB.out hw608_4 :)⟩ (fun hHeld => ?_); refine with_tabW spec_BookOk.tab17 spec_BookOk.bits17 (fun HT_ HW_ => ?_)
                                            generalize wc.drew = w67 at HO_3 BK589 BK605 HB hx606_0 hx606_1 hx606_2 hx606_3 hx606_4 hx608_0 hx608_1 hx608_2 hx608_3 hx608_4 hHeld ⊢
                                            refine pure_ (i := 0) (N := some 100) (v := ?_) (a' := ?_) #[true, false, false, false, false, false, false, false, false, false, false, false, false, false, false, false, false, false, false, false] rfl rfl (any_of HT_.out (by kernel_rfl)) (fun _ _ _ h => h) (Or.inl ⟨by rfl, ?_⟩) ?_ ?_; rotate_left
                                            · intro w'
                                              go_simp
                                              with_reducible rfl
                                            rotate_left
                                            · exact pz
                                            refine pure_ (i := 1) (N := some 101) (v := ?_) (a' := ?_) #[true, true, false, false, false, false, false, false, false, false, false, false, false, false, false, false, false, false, false, false] rfl rfl (any_of HT_.out (by kernel_rfl)) (fun _ _ _ h => h) (Or.inl ⟨by rfl, ?_⟩) ?_ ?_; rotate_left
                                            · intro w'
                                              go_simp
                                              with_reducible rfl
                                            rotate_left
                                            · exact pz
                                            refine pure_ (i := 3) (N := some 103) (v := ?_) (a' := ?_) #[true, true, false, true, false, false, false, false, false, false, false, false, false, false, false, false, false, false, false, false] rfl rfl (any_of HT_.out (by kernel_rfl)) (fun _ _ _ h => h) (Or.inl ⟨by rfl, ?_⟩) ?_ ?_; rotate_left
                                            · intro w'
                                              go_simp
                                              with_reducible rfl
                                            rotate_left
                                            · exact pz
                                            refine take_ (i := 2) (N := some 102) (v := ?_) (a' := ?_) #[true, true, true, true, false, false, false, false, false, false, false, false, false, false, false, false, false, false, false, false] rfl rfl (take_ofW HT_.out HW_.out (by kernel_rfl)) (fun _ _ _ h => h) (Or.inl ⟨by rfl, ?_⟩) hHeld ?_ ?_; rotate_left
                                            · rintro w' ⟨s0, s1, s2, s3, s4, s5, s6, s7, s8, s9, s10, s11, s12, s13⟩
                                              go_simp
                                              with_reducible rfl
                                            rotate_left
                                            · exact pz
                                            refine pure_ (i := 4) (N := some 104) (v := ?_) (a' := ?_) #[true, true, true, true, true, false, false, false, false, false, false, false, false, false, false, false, false, false, false, false] rfl rfl (any_of HT_.out (by kernel_rfl)) (fun _ _ _ h => h) (Or.inl ⟨by rfl, ?_⟩) ?_ ?_; rotate_left
                                            · intro w'
                                              go_simp
                                              with_reducible rfl
                                            rotate_left
                                            · exact pz
                                            refine pure_ (i := 5) (N := some 105) (v := ?_) (a' := ?_) #[true, true, true, true, true, true, false, false, false, false, false, false, false, false, false, false, false, false, false, false] rfl rfl (any_of HT_.out (by kernel_rfl)) (fun _ _ _ h => h) (Or.inl ⟨by rfl, ?_⟩) ?_ ?_; rotate_left
                                            · intro w'
                                              go_simp
                                              with_reducible rfl
                                            rotate_left
                                            · exact pz
                                            refine take_ (i := 6) (N := some 106) (v := ?_) (a' := ?_) #[true, true, true, true, true, true, true, false, false, false, false, false, false, false, false, false, false, false, false, false] rfl rfl (take_ofW HT_.out HW_.out (by kernel_rfl)) (fun _ _ _ h => h) (Or.inl ⟨by rfl, ?_⟩) hHeld ?_ ?_; rotate_left
                                            · rintro w' ⟨s0, s1, s2, s3, s4, s5, s6, s7, s8, s9, s10, s11, s12, s13⟩
                                              go_simp
                                              with_reducible rfl
                                            rotate_left
                                            · exact pz
                                            refine one_ (i := 7) (N := some 107) #[true, true, true, true, true, true, true, true, false, false, false, false, false, false, false, false, false, false, false, false] rfl rfl (one_of HT_.out (by kernel_rfl)) (by decide) (fun K hK => ?_); refine goes_ Try.func87 (by kernel_rfl) rfl #[.slice (some ad603) t590.length co49, .int .i64 ((rd_T103 ((rd_T90 l0_1 (rd t590 x6_3)).f1.f1) x8_4).f0)] (by rfl) rfl rfl dz ?_
                                            with_reducible refine (spec_l7Has.calls kj53 _ _ t590 ((rd_T103 ((rd_T90 l0_1 (rd t590 x6_3)).f1.f1) x8_4).f0) true _ ?side1 ?side2 A63.out).mono ?_
                                            (case side1 => repeat (first | exact (Kd.R_reads' HO_3.out).2.2 | (with_reducible refine Kd.C_alloc ?_ _) | (with_reducible refine Kd.C_drewN ?_ _) | (with_reducible refine Kd.C_drew ?_)))
                                            (case side2 => exact (Kd.R_reads' HO_3.out).2.1)
                                            rintro e w' ⟨rfl, ⟨nd, rfl⟩⟩
                                            refine ⟨_, rfl, ?_⟩; refine hK.out _ _ ⟨(blk_cell BK605.out 0).trans rfl, (blk_cell BK605.out 1).trans rfl, (blk_cell BK589.out 0).trans rfl, (blk_cell BK589.out 1).trans rfl, (cz HB.out hw606_0 :), (cz HB.out hw606_1 :), (cz HB.out hw606_2 :), (cz HB.out hw606_3 :), (cz HB.out hw606_4 :), (cz HB.out hw608_0 :), (cz HB.out hw608_1 :), (cz HB.out hw608_2 :), (cz HB.out hw608_3 :), (cz HB.out hw608_4 :)⟩ (fun hHeld => ?_); clear hK K; refine norm_ (a' := ?_) ?_ ?_; rotate_left
                                            · show Act.put _ (some 107) _ = _
                                              simp only [Act.put, List.setIfInBounds_toArray, List.set_cons_zero, List.set_cons_succ, i64_w, i32_w]
                                              rfl
                                            refine pure_ (i := 8) (N := some 108) (v := ?_) (a' := ?_) #[true, true, true, true, true, true, true, true, true, false, false, false, false, false, false, false, false, false, false, false] rfl rfl (any_of HT_.out (by kernel_rfl)) (fun _ _ _ h => h) (Or.inl ⟨by rfl, ?_⟩) ?_ ?_; rotate_left
                                            · intro w'
                                              go_simp
                                              with_reducible rfl
                                            rotate_left
                                            · exact pz
                                            refine pure_ (i := 9) (N := some 109) (v := ?_) (a' := ?_) #[true, true, true, true, true, true, true, true, true, true, false, false, false, false, false, false, false, false, false, false] rfl rfl (any_of HT_.out (by kernel_rfl)) (fun _ _ _ h => h) (Or.inl ⟨by rfl, ?_⟩) ?_ ?_; rotate_left
                                            · intro w'
                                              go_simp
                                              with_reducible rfl
                                            rotate_left
                                            · exact pz
                                            refine pure_ (i := 10) (N := some 110) (v := ?_) (a' := ?_) #[true, true, true, true, true, true, true, true, true, true, true, false, false, false, false, false, false, false, false, false] rfl rfl (any_of HT_.out (by kernel_rfl)) (fun _ _ _ h => h) (Or.inl ⟨by rfl, ?_⟩) ?_ ?_; rotate_left
                                            · intro w'
                                              go_simp
                                              with_reducible rfl
                                            rotate_left
                                            · exact pz
                                            refine pure_ (i := 12) (N := some 112) (v := ?_) (a' := ?_) #[true, true, true, true, true, true, true, true, true, true, true, false, true, false, false, false, false, false, false, false] rfl rfl (any_of HT_.out (by kernel_rfl)) (fun _ _ _ h => h) (Or.inl ⟨by rfl, ?_⟩) ?_ ?_; rotate_left
                                            · intro w'
                                              go_simp
                                              with_reducible rfl
                                            rotate_left
                                            · exact pz
                                            refine pure_ (i := 16) (N := some 116) (v := ?_) (a' := ?_) #[true, true, true, true, true, true, true, true, true, true, true, false, true, false, false, false, true, false, false, false] rfl rfl (any_of HT_.out (by kernel_rfl)) (fun _ _ _ h => h) (Or.inl ⟨by rfl, ?_⟩) ?_ ?_; rotate_left
                                            · intro w'
                                              go_simp
                                              with_reducible rfl
                                            rotate_left
                                            · exact pz
                                            refine take_ (i := 11) (N := some 111) (v := ?_) (a' := ?_) #[true, true, true, true, true, true, true, true, true, true, true, true, true, false, false, false, true, false, false, false] rfl rfl (take_ofW HT_.out HW_.out (by kernel_rfl)) (fun _ _ _ h => h) (Or.inl ⟨by rfl, ?_⟩) hHeld ?_ ?_; rotate_left
                                            · rintro w' ⟨s0, s1, s2, s3, s4, s5, s6, s7, s8, s9, s10, s11, s12, s13⟩
                                              go_simp
                                              with_reducible rfl
                                            rotate_left
                                            · exact pz
                                            refine pure_ (i := 13) (N := some 113) (v := ?_) (a' := ?_) #[true, true, true, true, true, true, true, true, true, true, true, true, true, true, false, false, true, false, false, false] rfl rfl (any_of HT_.out (by kernel_rfl)) (fun _ _ _ h => h) (Or.inl ⟨by rfl, ?_⟩) ?_ ?_; rotate_left
                                            · intro w'
                                              go_simp
                                              with_reducible rfl
                                            rotate_left
                                            · exact pz
                                            refine pure_ (i := 14) (N := some 114) (v := ?_) (a' := ?_) #[true, true, true, true, true, true, true, true, true, true, true, true, true, true, true, false, true, false, false, false] rfl rfl (any_of HT_.out (by kernel_rfl)) (fun _ _ _ h => h) (Or.inl ⟨by rfl, ?_⟩) ?_ ?_; rotate_left
                                            · intro w'
                                              go_simp
                                              with_reducible rfl
                                            rotate_left
                                            · exact pz
                                            refine take_ (i := 15) (N := some 115) (v := ?_) (a' := ?_) #[true, true, true, true, true, true, true, true, true, true, true, true, true, true, true, true, true, false, false, false] rfl rfl (take_ofW HT_.out HW_.out (by kernel_rfl)) (fun _ _ _ h => h) (Or.inl ⟨by rfl, ?_⟩) hHeld ?_ ?_; rotate_left
                                            · rintro w' ⟨s0, s1, s2, s3, s4, s5, s6, s7, s8, s9, s10, s11, s12, s13⟩
                                              go_simp
                                              with_reducible rfl
                                            rotate_left
                                            · exact pz
                                            refine take_ (i := 17) (N := some 117) (v := ?_) (a' := ?_) #[true, true, true, true, true, true, true, true, true, true, true, true, true, true, true, true, true, true, false, false] rfl rfl (take_ofW HT_.out HW_.out (by kernel_rfl)) (fun _ _ _ h => h) (Or.inl ⟨by rfl, ?_⟩) hHeld ?_ ?_; rotate_left
                                            · rintro w' ⟨s0, s1, s2, s3, s4, s5, s6, s7, s8, s9, s10, s11, s12, s13⟩
                                              go_simp
                                              with_reducible rfl
                                            rotate_left
                                            · exact pz
                                            refine pure_ (i := 18) (N := some 118) (v := ?_) (a' := ?_) #[true, true, true, true, true, true, true, true, true, true, true, true, true, true, true, true, true, true, true, false] rfl rfl (any_of HT_.out (by kernel_rfl)) (fun _ _ _ h => h) (Or.inl ⟨by rfl, ?_⟩) ?_ ?_; rotate_left
                                            · intro w'
                                              go_simp
                                              with_reducible rfl
                                            rotate_left
                                            · exact pz
                                            refine pure_ (i := 19) (N := some 119) (v := ?_) (a' := ?_) #[true, true, true, true, true, true, true, true, true, true, true, true, true, true, true, true, true, true, true, true] rfl rfl (any_of HT_.out (by kernel_rfl)) (fun _ _ _ h => h) (Or.inl ⟨by rfl, ?_⟩) ?_ ?_; rotate_left
                                            · intro w'
                                              go_simp
                                              with_reducible rfl
                                            rotate_left
                                            · exact pz
                                            refine done_ (done_of HT_.out (by kernel_rfl)) ?_
                                            try go_wp2
                                            go_roundg kj53
                                            case measure => have := HJ2.out; have := HK2.out; have := HK3.out; have := HK4.out; have := HJ53.out; omega
                                            case rel => exact ⟨(wrap64 (x5_4 + 1)), (wrap64 (x8_4 + 1)), az, az, H', ⟨by have := HJ2.out; have := HK2.out; have := HK3.out; have := HK4.out; have := HJ53.out; omega⟩, ⟨rz HO_3.out⟩, ⟨kz BK589.out⟩, ⟨kz BK605.out⟩, ⟨b2 GE589.out GE605.out HB.out⟩⟩
                                        · replace c64 := Bool.eq_false_iff.mpr c64
                                          subst c64; replace H : (some false) = some r := (by rw [if_neg (show ¬ (false = true) by decide)] at H; exact H); obtain rfl := Option.some.inj H
                                          try go_wp2
                                          have n0_ := Aside0.mk (Kd.R_drew HO_3.out); have n1_ := Aside0.mk (blk_drew BK589.out); have n2_ := Aside0.mk (blk_drew BK605.out); have n3_ := Aside0.mk (below_drew1 HB.out); clear HO_3; clear BK589; clear BK605; clear HB; have HO_3 := n0_; have BK589 := n1_; have BK605 := n2_; have HB := n3_; clear n0_ n1_ n2_ n3_; have p606 : 0 ≤ (x8_4 : Int) := of_decide_eq_true uz; have q606 : x8_4 < (((rd_T90 l0_1 (rd t590 x6_3)).f1.f1).length : Int) := of_decide_eq_true uz; obtain ⟨ad606, e606, hx606_0, hx606_1, hx606_2, hx606_3, hx606_4⟩ := at_T103 HR604_2.out x8_4 p606 q606; have hw606_4 := hx606_4; have hw606_3 := hx606_3; have hw606_2 := hx606_2; have hw606_1 := hx606_1; have hw606_0 := hx606_0
                                          cases e606
                                          replace hx606_0 := cz HB.out hx606_0; replace hx606_1 := cz HB.out hx606_1; replace hx606_2 := cz HB.out hx606_2; replace hx606_3 := cz HB.out hx606_3; replace hx606_4 := cz HB.out hx606_4; replace p606 := eq_true p606; replace q606 := eq_true q606
                                          refine start_ (n := 20) (S := fun w' => w'.cell? ⟨gb605, 0, none⟩ = some (.bool ((rd_T90 l0_1 (rd t590 x6_3)).f1.f0)) ∧ w'.cell? ⟨gb605, 1, none⟩ = some (.slice (some ad606) ((rd_T90 l0_1 (rd t590 x6_3)).f1.f1).length c604_2) ∧ w'.cell? (ad606.add ((x8_4).toNat * 5)) = some (.int .i64 ((rd_T103 ((rd_T90 l0_1 (rd t590 x6_3)).f1.f1) x8_4).f0)) ∧ w'.cell? ⟨(ad606.add ((x8_4).toNat * 5)).block, (ad606.add ((x8_4).toNat * 5)).off + 1, none⟩ = some (.int .i64 ((rd_T103 ((rd_T90 l0_1 (rd t590 x6_3)).f1.f1) x8_4).f1.f0)) ∧ w'.cell? ⟨(ad606.add ((x8_4).toNat * 5)).block, (ad606.add ((x8_4).toNat * 5)).off + 2, none⟩ = some (.int .i64 ((rd_T103 ((rd_T90 l0_1 (rd t590 x6_3)).f1.f1) x8_4).f1.f1)) ∧ w'.cell? ⟨(ad606.add ((x8_4).toNat * 5)).block, (ad606.add ((x8_4).toNat * 5)).off + 3, none⟩ = some (.int .i64 ((rd_T103 ((rd_T90 l0_1 (rd t590 x6_3)).f1.f1) x8_4).f1.f2)) ∧ w'.cell? ⟨(ad606.add ((x8_4).toNat * 5)).block, (ad606.add ((x8_4).toNat * 5)).off + 4, none⟩ = some (.int .i64 ((rd_T103 ((rd_T90 l0_1 (rd t590 x6_3)).f1.f1) x8_4).f1.f3))) (ds := []) #[false, false, false, false, false, false, false, false, false, false, false, false, false, false, false, false, false, false, false, false] (by kernel_rfl) rfl rfl ⟨(blk_cell BK605.out 0).trans rfl, (blk_cell BK605.out 1).trans rfl, (cz HB.out hw606_0 :), (cz HB.out hw606_1 :), (cz HB.out hw606_2 :), (cz HB.out hw606_3 :), (cz HB.out hw606_4 :)⟩ (fun hHeld => ?_); refine with_tabW spec_BookOk.tab17 spec_BookOk.bits17 (fun HT_ HW_ => ?_)
                                          generalize wc.drew = w68 at HO_3 BK589 BK605 HB hx606_0 hx606_1 hx606_2 hx606_3 hx606_4 hHeld ⊢
                                          refine pure_ (i := 0) (N := some 100) (v := ?_) (a' := ?_) #[true, false, false, false, false, false, false, false, false, false, false, false, false, false, false, false, false, false, false, false] rfl rfl (any_of HT_.out (by kernel_rfl)) (fun _ _ _ h => h) (Or.inl ⟨by rfl, ?_⟩) ?_ ?_; rotate_left
                                          · intro w'
                                            go_simp
                                            with_reducible rfl
                                          rotate_left
                                          · exact pz
                                          refine pure_ (i := 1) (N := some 101) (v := ?_) (a' := ?_) #[true, true, false, false, false, false, false, false, false, false, false, false, false, false, false, false, false, false, false, false] rfl rfl (any_of HT_.out (by kernel_rfl)) (fun _ _ _ h => h) (Or.inl ⟨by rfl, ?_⟩) ?_ ?_; rotate_left
                                          · intro w'
                                            go_simp
                                            with_reducible rfl
                                          rotate_left
                                          · exact pz
                                          refine pure_ (i := 3) (N := some 103) (v := ?_) (a' := ?_) #[true, true, false, true, false, false, false, false, false, false, false, false, false, false, false, false, false, false, false, false] rfl rfl (any_of HT_.out (by kernel_rfl)) (fun _ _ _ h => h) (Or.inl ⟨by rfl, ?_⟩) ?_ ?_; rotate_left
                                          · intro w'
                                            go_simp
                                            with_reducible rfl
                                          rotate_left
                                          · exact pz
                                          refine take_ (i := 2) (N := some 102) (v := ?_) (a' := ?_) #[true, true, true, true, false, false, false, false, false, false, false, false, false, false, false, false, false, false, false, false] rfl rfl (take_ofW HT_.out HW_.out (by kernel_rfl)) (fun _ _ _ h => h) (Or.inl ⟨by rfl, ?_⟩) hHeld ?_ ?_; rotate_left
                                          · rintro w' ⟨s0, s1, s2, s3, s4, s5, s6⟩
                                            go_simp
                                            with_reducible rfl
                                          rotate_left
                                          · exact pz
                                          refine pure_ (i := 4) (N := some 104) (v := ?_) (a' := ?_) #[true, true, true, true, true, false, false, false, false, false, false, false, false, false, false, false, false, false, false, false] rfl rfl (any_of HT_.out (by kernel_rfl)) (fun _ _ _ h => h) (Or.inl ⟨by rfl, ?_⟩) ?_ ?_; rotate_left
                                          · intro w'
                                            go_simp
                                            with_reducible rfl
                                          rotate_left
                                          · exact pz
                                          refine pure_ (i := 5) (N := some 105) (v := ?_) (a' := ?_) #[true, true, true, true, true, true, false, false, false, false, false, false, false, false, false, false, false, false, false, false] rfl rfl (any_of HT_.out (by kernel_rfl)) (fun _ _ _ h => h) (Or.inl ⟨by rfl, ?_⟩) ?_ ?_; rotate_left
                                          · intro w'
                                            go_simp
                                            with_reducible rfl
                                          rotate_left
                                          · exact pz
                                          refine take_ (i := 6) (N := some 106) (v := ?_) (a' := ?_) #[true, true, true, true, true, true, true, false, false, false, false, false, false, false, false, false, false, false, false, false] rfl rfl (take_ofW HT_.out HW_.out (by kernel_rfl)) (fun _ _ _ h => h) (Or.inl ⟨by rfl, ?_⟩) hHeld ?_ ?_; rotate_left
                                          · rintro w' ⟨s0, s1, s2, s3, s4, s5, s6⟩
                                            go_simp
                                            with_reducible rfl
                                          rotate_left
                                          · exact pz
                                          refine one_ (i := 7) (N := some 107) #[true, true, true, true, true, true, true, true, false, false, false, false, false, false, false, false, false, false, false, false] rfl rfl (one_of HT_.out (by kernel_rfl)) (by decide) (fun K hK => ?_); refine goes_ Try.func87 (by kernel_rfl) rfl #[.slice (some ad603) t590.length co49, .int .i64 ((rd_T103 ((rd_T90 l0_1 (rd t590 x6_3)).f1.f1) x8_4).f0)] (by rfl) rfl rfl dz ?_
                                          with_reducible refine (spec_l7Has.calls kj53 _ _ t590 ((rd_T103 ((rd_T90 l0_1 (rd t590 x6_3)).f1.f1) x8_4).f0) false _ ?side1 ?side2 A63.out).mono ?_
                                          (case side1 => repeat (first | exact (Kd.R_reads' HO_3.out).2.2 | (with_reducible refine Kd.C_alloc ?_ _) | (with_reducible refine Kd.C_drewN ?_ _) | (with_reducible refine Kd.C_drew ?_)))
                                          (case side2 => exact (Kd.R_reads' HO_3.out).2.1)
                                          rintro e w' ⟨rfl, ⟨nd, rfl⟩⟩
                                          refine ⟨_, rfl, ?_⟩; refine hK.out _ _ ⟨(blk_cell BK605.out 0).trans rfl, (blk_cell BK605.out 1).trans rfl, (cz HB.out hw606_0 :), (cz HB.out hw606_1 :), (cz HB.out hw606_2 :), (cz HB.out hw606_3 :), (cz HB.out hw606_4 :)⟩ (fun hHeld => ?_); clear hK K; refine norm_ (a' := ?_) ?_ ?_; rotate_left
                                          · show Act.put _ (some 107) _ = _
                                            simp only [Act.put, List.setIfInBounds_toArray, List.set_cons_zero, List.set_cons_succ, i64_w, i32_w]
                                            rfl
                                          refine pure_ (i := 8) (N := some 108) (v := ?_) (a' := ?_) #[true, true, true, true, true, true, true, true, true, false, false, false, false, false, false, false, false, false, false, false] rfl rfl (any_of HT_.out (by kernel_rfl)) (fun _ _ _ h => h) (Or.inl ⟨by rfl, ?_⟩) ?_ ?_; rotate_left
                                          · intro w'
                                            go_simp
                                            with_reducible rfl
                                          rotate_left
                                          · exact pz
                                          refine pure_ (i := 9) (N := some 109) (v := ?_) (a' := ?_) #[true, true, true, true, true, true, true, true, true, true, false, false, false, false, false, false, false, false, false, false] rfl rfl (any_of HT_.out (by kernel_rfl)) (fun _ _ _ h => h) (Or.inl ⟨by rfl, ?_⟩) ?_ ?_; rotate_left
                                          · intro w'
                                            go_simp
                                            with_reducible rfl
                                          rotate_left
                                          · exact pz
                                          refine pure_ (i := 10) (N := some 110) (v := undef) (a' := ?_) #[true, true, true, true, true, true, true, true, true, true, true, false, false, false, false, false, false, false, false, false] rfl rfl (any_of HT_.out (by kernel_rfl)) (fun _ _ _ h => h) (Or.inr ⟨by rfl, rfl⟩) ?_ ?_; rotate_left
                                          · exact pz
                                          refine pure_ (i := 11) (N := some 111) (v := undef) (a' := ?_) #[true, true, true, true, true, true, true, true, true, true, true, true, false, false, false, false, false, false, false, false] rfl rfl (any_of HT_.out (by kernel_rfl)) (fun _ _ _ h => h) (Or.inr ⟨by rfl, rfl⟩) ?_ ?_; rotate_left
                                          · exact pz
                                          refine pure_ (i := 12) (N := some 112) (v := undef) (a' := ?_) #[true, true, true, true, true, true, true, true, true, true, true, true, true, false, false, false, false, false, false, false] rfl rfl (any_of HT_.out (by kernel_rfl)) (fun _ _ _ h => h) (Or.inr ⟨by rfl, rfl⟩) ?_ ?_; rotate_left
                                          · exact pz
                                          refine pure_ (i := 13) (N := some 113) (v := undef) (a' := ?_) #[true, true, true, true, true, true, true, true, true, true, true, true, true, true, false, false, false, false, false, false] rfl rfl (any_of HT_.out (by kernel_rfl)) (fun _ _ _ h => h) (Or.inr ⟨by rfl, rfl⟩) ?_ ?_; rotate_left
                                          · exact pz
                                          refine pure_ (i := 14) (N := some 114) (v := undef) (a' := ?_) #[true, true, true, true, true, true, true, true, true, true, true, true, true, true, true, false, false, false, false, false] rfl rfl (any_of HT_.out (by kernel_rfl)) (fun _ _ _ h => h) (Or.inr ⟨by rfl, rfl⟩) ?_ ?_; rotate_left
                                          · exact pz
                                          refine pure_ (i := 15) (N := some 115) (v := undef) (a' := ?_) #[true, true, true, true, true, true, true, true, true, true, true, true, true, true, true, true, false, false, false, false] rfl rfl (any_of HT_.out (by kernel_rfl)) (fun _ _ _ h => h) (Or.inr ⟨by rfl, rfl⟩) ?_ ?_; rotate_left
                                          · exact pz
                                          refine pure_ (i := 16) (N := some 116) (v := undef) (a' := ?_) #[true, true, true, true, true, true, true, true, true, true, true, true, true, true, true, true, true, false, false, false] rfl rfl (any_of HT_.out (by kernel_rfl)) (fun _ _ _ h => h) (Or.inr ⟨by rfl, rfl⟩) ?_ ?_; rotate_left
                                          · exact pz
                                          refine pure_ (i := 17) (N := some 117) (v := undef) (a' := ?_) #[true, true, true, true, true, true, true, true, true, true, true, true, true, true, true, true, true, true, false, false] rfl rfl (any_of HT_.out (by kernel_rfl)) (fun _ _ _ h => h) (Or.inr ⟨by rfl, rfl⟩) ?_ ?_; rotate_left
                                          · exact pz
                                          refine pure_ (i := 18) (N := some 118) (v := undef) (a' := ?_) #[true, true, true, true, true, true, true, true, true, true, true, true, true, true, true, true, true, true, true, false] rfl rfl (any_of HT_.out (by kernel_rfl)) (fun _ _ _ h => h) (Or.inr ⟨by rfl, rfl⟩) ?_ ?_; rotate_left
                                          · exact pz
                                          refine pure_ (i := 19) (N := some 119) (v := ?_) (a' := ?_) #[true, true, true, true, true, true, true, true, true, true, true, true, true, true, true, true, true, true, true, true] rfl rfl (any_of HT_.out (by kernel_rfl)) (fun _ _ _ h => h) (Or.inl ⟨by rfl, ?_⟩) ?_ ?_; rotate_left
                                          · intro w'
                                            go_simp
                                            with_reducible rfl
                                          rotate_left
                                          · exact pz
                                          refine done_ (done_of HT_.out (by kernel_rfl)) ?_
                                          try go_wp2
                                          go_ret; exact ⟨ez, b2 GE589.out GE605.out HB.out⟩
                                      · rw [if_neg c62] at H
                                        exact absurd H (by simp)
                                    · rw [if_neg c61] at H
                                      exact absurd H (by simp)
                                  · replace c60 := Bool.eq_false_iff.mpr c60
                                    subst c60; replace H : (spec_BookOk.l1 kj53 t590 x5_4 (wrap64 (x6_3 + 1)) a0_0 l0_1) = some r := (by rw [if_neg (show ¬ (false = true) by decide)] at H; exact H); have H' := Aside0.mk H; clear H; go_wp2; go_roundg kj53
                                    case measure => have := HJ2.out; have := HK2.out; have := HK3.out; have := HK4.out; have := HJ53.out; omega
                                    case rel => exact ⟨(x5_4), (wrap64 (x6_3 + 1)), az, az, H', ⟨by have := HJ2.out; have := HK2.out; have := HK3.out; have := HK4.out; have := HJ53.out; omega⟩, ⟨rz HO_3.out⟩, ⟨kz BK589.out⟩, ⟨b2 GE589.out GE605.out HB.out⟩⟩
                        · rw [if_neg c48] at H
                          exact absurd H (by simp)
                      · rw [if_neg c47] at H
                        exact absurd H (by simp)
                    · rw [if_neg c46] at H
                      exact absurd H (by simp)
                  · rw [if_neg c45] at H
                    have c45b0 : decide (x6_3 < (t590.length : Int)) = false := decide_eq_false c45; clear c45; obtain rfl := Option.some.inj H; obtain ⟨Ao69, co69, eo69⟩ := Kd.R_slice HO_3.out; subst eo69; go_wp2; go_ret; exact ⟨ez, b1 GE589.out HB.out⟩

attribute [local go_sem] max2_int min2_int max_two min_two max_three min_three max_four min_four 
set_option linter.unusedVariables false
set_option linter.unusedSimpArgs false

/-! ### spec_Meets: function 130 -/
def spec_Meets.f (a0_0 : Int) (a0_1 : Int) (a0_2 : Int) (a0_3 : Int) (a1_0 : Int) (a1_1 : Int) (a1_2 : Int) (a1_3 : Int) : Option (Bool) := (spec_BoxOk.f a0_0 a0_1 a0_2 a0_3).bind fun t820 => (if t820 = true then ((spec_BoxOk.f a1_0 a1_1 a1_2 a1_3).bind fun t821 => (if t821 = true then (if a0_0 ≤ a1_2 then (if a1_0 ≤ a0_2 then (if a0_1 ≤ a1_3 then (some (decide (a1_1 ≤ a0_3))) else (some false)) else (some false)) else (some false)) else (some false))) else (some false))
set_option maxHeartbeats 8000000 in
set_option maxRecDepth 100000 in
theorem spec_Meets.calls (a0_0 : Int) (a0_1 : Int) (a0_2 : Int) (a0_3 : Int) (a1_0 : Int) (a1_1 : Int) (a1_2 : Int) (a1_3 : Int) (r : Bool) (w : World) (h : spec_Meets.f a0_0 a0_1 a0_2 a0_3 a1_0 a1_1 a1_2 a1_3 = some r) :
    Calls Try.prog 130 #[.agg #[.int .i64 a0_0, .int .i64 a0_1, .int .i64 a0_2, .int .i64 a0_3], .agg #[.int .i64 a1_0, .int .i64 a1_1, .int .i64 a1_2, .int .i64 a1_3]] w fun e w' => e = .returned (.bool r) ∧ Below w.heap.size w w' := by
  have hu32 := Try.underlying32; have HB := Aside0.mk (Below.refl w.heap.size w); have H : ((spec_BoxOk.f a0_0 a0_1 a0_2 a0_3).bind fun t820 => (if t820 = true then ((spec_BoxOk.f a1_0 a1_1 a1_2 a1_3).bind fun t821 => (if t821 = true then (if a0_0 ≤ a1_2 then (if a1_0 ≤ a0_2 then (if a0_1 ≤ a1_3 then (some (decide (a1_1 ≤ a0_3))) else (some false)) else (some false)) else (some false)) else (some false))) else (some false))) = some r := h; clear h; replace H := Option.bind_eq_some_iff.mp H; obtain ⟨t820, A30, H⟩ := H; replace H : (if t820 = true then ((spec_BoxOk.f a1_0 a1_1 a1_2 a1_3).bind fun t821 => (if t821 = true then (if a0_0 ≤ a1_2 then (if a1_0 ≤ a0_2 then (if a0_1 ≤ a1_3 then (some (decide (a1_1 ≤ a0_3))) else (some false)) else (some false)) else (some false)) else (some false))) else (some false)) = some r := H; have A3 := Aside0.mk A30; clear A30
  by_cases c4 : t820 = true
  · subst c4
    replace H : ((spec_BoxOk.f a1_0 a1_1 a1_2 a1_3).bind fun t821 => (if t821 = true then (if a0_0 ≤ a1_2 then (if a1_0 ≤ a0_2 then (if a0_1 ≤ a1_3 then (some (decide (a1_1 ≤ a0_3))) else (some false)) else (some false)) else (some false)) else (some false))) = some r := (by rw [if_pos rfl] at H; exact H); replace H := Option.bind_eq_some_iff.mp H; obtain ⟨t821, A50, H⟩ := H; replace H : (if t821 = true then (if a0_0 ≤ a1_2 then (if a1_0 ≤ a0_2 then (if a0_1 ≤ a1_3 then (some (decide (a1_1 ≤ a0_3))) else (some false)) else (some false)) else (some false)) else (some false)) = some r := H; have A5 := Aside0.mk A50; clear A50
    by_cases c6 : t821 = true
    · subst c6
      replace H : (if a0_0 ≤ a1_2 then (if a1_0 ≤ a0_2 then (if a0_1 ≤ a1_3 then (some (decide (a1_1 ≤ a0_3))) else (some false)) else (some false)) else (some false)) = some r := (by rw [if_pos rfl] at H; exact H)
      by_cases c7 : a0_0 ≤ a1_2
      · rw [if_pos c7] at H
        have c7b0 : decide (a0_0 ≤ a1_2) = true := decide_eq_true c7; clear c7
        by_cases c8 : a1_0 ≤ a0_2
        · rw [if_pos c8] at H
          have c8b0 : decide (a1_0 ≤ a0_2) = true := decide_eq_true c8; clear c8
          by_cases c9 : a0_1 ≤ a1_3
          · rw [if_pos c9] at H
            have c9b0 : decide (a0_1 ≤ a1_3) = true := decide_eq_true c9; clear c9; obtain rfl := Option.some.inj H
            go_enter Try.func130, Try.ntmps130
            go_wp2_with (first | ((with_reducible refine gate_dst (N := 2) rfl ?_); refine box_event ?hg (N := 2) ?hd (cs := #[.int .i64 a0_0, .int .i64 a0_1, .int .i64 a0_2, .int .i64 a0_3]) (t := 32) ?hr ?_; (case hd => rfl); (case hg => rfl); (case hr => first | (go_simp; done) | (go_simp; rfl)); intro gb818 hg w10 hbox hb; have n0_ := Aside0.mk (below_step (bz HB.out) hb); have n1_ := Aside0.mk (hbox); have n2_ := Aside0.mk ((by rw [hg]; exact (below_size (bz HB.out)) : w.heap.size ≤ gb818)); have n3_ := Aside0.mk ((by rw [hg]; exact (below_size (bz HB.out)) : w.heap.size ≤ gb818)); clear HB; have HB := n0_; have BK818 := n1_; have GW818 := n2_; have GE818 := n3_; clear n0_ n1_ n2_ n3_; clear hb hbox hg) | ((with_reducible refine gate_dst (N := 3) rfl ?_); refine box_event ?hg (N := 3) ?hd (cs := #[.int .i64 a1_0, .int .i64 a1_1, .int .i64 a1_2, .int .i64 a1_3]) (t := 32) ?hr ?_; (case hd => rfl); (case hg => rfl); (case hr => first | (go_simp; done) | (go_simp; rfl)); intro gb819 hg w11 hbox hb; have n0_ := Aside0.mk (blk_below (g := gb818) (o := .cells #[.int .i64 a0_0, .int .i64 a0_1, .int .i64 a0_2, .int .i64 a0_3] 32 (0, 0)) (kz BK818.out) hb); have n1_ := Aside0.mk (below_step (b1 GE818.out HB.out) hb); have n2_ := Aside0.mk (hbox); have n3_ := Aside0.mk ((by rw [hg]; exact (below_size (b1 GE818.out HB.out)) : w.heap.size ≤ gb819)); have n4_ := Aside0.mk ((by rw [hg]; exact (below_size (b1 GE818.out HB.out)) : w.heap.size ≤ gb819)); have n5_ := Aside0.mk ((by rw [hg]; exact Nat.ne_of_lt (blk_lt (g := gb818) (o := .cells #[.int .i64 a0_0, .int .i64 a0_1, .int .i64 a0_2, .int .i64 a0_3] 32 (0, 0)) (kz BK818.out)) : gb818 ≠ gb819)); have n6_ := Aside0.mk ((by rw [hg]; exact Nat.ne_of_gt (blk_lt (g := gb818) (o := .cells #[.int .i64 a0_0, .int .i64 a0_1, .int .i64 a0_2, .int .i64 a0_3] 32 (0, 0)) (kz BK818.out)) : gb819 ≠ gb818)); clear BK818; clear HB; have BK818 := n0_; have HB := n1_; have BK819 := n2_; have GW819 := n3_; have GE819 := n4_; have NB818_819 := n5_; have NB819_818 := n6_; clear n0_ n1_ n2_ n3_ n4_ n5_ n6_; clear hb hbox hg; have hnb12 := NB818_819.out; have hnc12 := NB819_818.out; have hcz13_0 := fz BK818.out 0 (.int .i64 a0_0); have hcz13_1 := fz BK818.out 1 (.int .i64 a0_1); have hcz13_2 := fz BK818.out 2 (.int .i64 a0_2); have hcz13_3 := fz BK818.out 3 (.int .i64 a0_3); have hfz13_0 := blk_frozen BK818.out 0; have hfz13_1 := blk_frozen BK818.out 1; have hfz13_2 := blk_frozen BK818.out 2; have hfz13_3 := blk_frozen BK818.out 3) | ((with_reducible refine gate_callee (f := 111) rfl ?_); refine goesL_ (some 6) rfl rfl Try.func111 (by kernel_rfl) rfl #[.agg #[.int .i64 a0_0, .int .i64 a0_1, .int .i64 a0_2, .int .i64 a0_3]] rfl dz ?_; (with_reducible refine (spec_BoxOk.calls a0_0 a0_1 a0_2 a0_3 true _ A3.out).mono ?_); rintro e w14 ⟨rfl, hb⟩; refine ⟨_, rfl, ?_⟩; have n0_ := Aside0.mk (blk_below (g := gb818) (o := .cells #[.int .i64 a0_0, .int .i64 a0_1, .int .i64 a0_2, .int .i64 a0_3] 32 (0, 0)) (kz BK818.out) hb); have n1_ := Aside0.mk (blk_below (g := gb819) (o := .cells #[.int .i64 a1_0, .int .i64 a1_1, .int .i64 a1_2, .int .i64 a1_3] 32 (0, 0)) (kz BK819.out) hb); have n2_ := Aside0.mk (below_step (b2 GE818.out GE819.out HB.out) hb); clear BK818; clear BK819; clear HB; have BK818 := n0_; have BK819 := n1_; have HB := n2_; clear n0_ n1_ n2_; (try clear hb); (try clear hb2); (try clear hk); (try clear hi); have hcz15_0 := fz BK819.out 0 (.int .i64 a1_0); have hcz15_1 := fz BK819.out 1 (.int .i64 a1_1); have hcz15_2 := fz BK819.out 2 (.int .i64 a1_2); have hcz15_3 := fz BK819.out 3 (.int .i64 a1_3); have hfz15_0 := blk_frozen BK819.out 0; have hfz15_1 := blk_frozen BK819.out 1; have hfz15_2 := blk_frozen BK819.out 2; have hfz15_3 := blk_frozen BK819.out 3) | (go_at_call 111; (with_reducible refine (spec_BoxOk.calls a1_0 a1_1 a1_2 a1_3 true _ A5.out).mono ?_); rintro e w16 ⟨rfl, hb⟩; have n0_ := Aside0.mk (blk_below (g := gb818) (o := .cells #[.int .i64 a0_0, .int .i64 a0_1, .int .i64 a0_2, .int .i64 a0_3] 32 (0, 0)) (kz BK818.out) hb); have n1_ := Aside0.mk (blk_below (g := gb819) (o := .cells #[.int .i64 a1_0, .int .i64 a1_1, .int .i64 a1_2, .int .i64 a1_3] 32 (0, 0)) (kz BK819.out) hb); have n2_ := Aside0.mk (below_step (b2 GE818.out GE819.out HB.out) hb); clear BK818; clear BK819; clear HB; have BK818 := n0_; have BK819 := n1_; have HB := n2_; clear n0_ n1_ n2_; (try clear hb); (try clear hb2); (try clear hk); (try clear hi); have hcz17_0 := fz BK818.out 0 (.int .i64 a0_0); have hcz17_1 := fz BK818.out 1 (.int .i64 a0_1); have hcz17_2 := fz BK818.out 2 (.int .i64 a0_2); have hcz17_3 := fz BK818.out 3 (.int .i64 a0_3); have hfz17_0 := blk_frozen BK818.out 0; have hfz17_1 := blk_frozen BK818.out 1; have hfz17_2 := blk_frozen BK818.out 2; have hfz17_3 := blk_frozen BK818.out 3; have hcz18_0 := fz BK819.out 0 (.int .i64 a1_0); have hcz18_1 := fz BK819.out 1 (.int .i64 a1_1); have hcz18_2 := fz BK819.out 2 (.int .i64 a1_2); have hcz18_3 := fz BK819.out 3 (.int .i64 a1_3); have hfz18_0 := blk_frozen BK819.out 0; have hfz18_1 := blk_frozen BK819.out 1; have hfz18_2 := blk_frozen BK819.out 2; have hfz18_3 := blk_frozen BK819.out 3))
            go_ret; exact ⟨ez, b2 GE818.out GE819.out HB.out⟩
          · rw [if_neg c9] at H
            have c9b0 : decide (a0_1 ≤ a1_3) = false := decide_eq_false c9; clear c9; obtain rfl := Option.some.inj H
            go_enter Try.func130, Try.ntmps130
            go_wp2_with (first | ((with_reducible refine gate_dst (N := 2) rfl ?_); refine box_event ?hg (N := 2) ?hd (cs := #[.int .i64 a0_0, .int .i64 a0_1, .int .i64 a0_2, .int .i64 a0_3]) (t := 32) ?hr ?_; (case hd => rfl); (case hg => rfl); (case hr => first | (go_simp; done) | (go_simp; rfl)); intro gb818 hg w19 hbox hb; have n0_ := Aside0.mk (below_step (bz HB.out) hb); have n1_ := Aside0.mk (hbox); have n2_ := Aside0.mk ((by rw [hg]; exact (below_size (bz HB.out)) : w.heap.size ≤ gb818)); have n3_ := Aside0.mk ((by rw [hg]; exact (below_size (bz HB.out)) : w.heap.size ≤ gb818)); clear HB; have HB := n0_; have BK818 := n1_; have GW818 := n2_; have GE818 := n3_; clear n0_ n1_ n2_ n3_; clear hb hbox hg) | ((with_reducible refine gate_dst (N := 3) rfl ?_); refine box_event ?hg (N := 3) ?hd (cs := #[.int .i64 a1_0, .int .i64 a1_1, .int .i64 a1_2, .int .i64 a1_3]) (t := 32) ?hr ?_; (case hd => rfl); (case hg => rfl); (case hr => first | (go_simp; done) | (go_simp; rfl)); intro gb819 hg w20 hbox hb; have n0_ := Aside0.mk (blk_below (g := gb818) (o := .cells #[.int .i64 a0_0, .int .i64 a0_1, .int .i64 a0_2, .int .i64 a0_3] 32 (0, 0)) (kz BK818.out) hb); have n1_ := Aside0.mk (below_step (b1 GE818.out HB.out) hb); have n2_ := Aside0.mk (hbox); have n3_ := Aside0.mk ((by rw [hg]; exact (below_size (b1 GE818.out HB.out)) : w.heap.size ≤ gb819)); have n4_ := Aside0.mk ((by rw [hg]; exact (below_size (b1 GE818.out HB.out)) : w.heap.size ≤ gb819)); have n5_ := Aside0.mk ((by rw [hg]; exact Nat.ne_of_lt (blk_lt (g := gb818) (o := .cells #[.int .i64 a0_0, .int .i64 a0_1, .int .i64 a0_2, .int .i64 a0_3] 32 (0, 0)) (kz BK818.out)) : gb818 ≠ gb819)); have n6_ := Aside0.mk ((by rw [hg]; exact Nat.ne_of_gt (blk_lt (g := gb818) (o := .cells #[.int .i64 a0_0, .int .i64 a0_1, .int .i64 a0_2, .int .i64 a0_3] 32 (0, 0)) (kz BK818.out)) : gb819 ≠ gb818)); clear BK818; clear HB; have BK818 := n0_; have HB := n1_; have BK819 := n2_; have GW819 := n3_; have GE819 := n4_; have NB818_819 := n5_; have NB819_818 := n6_; clear n0_ n1_ n2_ n3_ n4_ n5_ n6_; clear hb hbox hg; have hnb21 := NB818_819.out; have hnc21 := NB819_818.out; have hcz22_0 := fz BK818.out 0 (.int .i64 a0_0); have hcz22_1 := fz BK818.out 1 (.int .i64 a0_1); have hcz22_2 := fz BK818.out 2 (.int .i64 a0_2); have hcz22_3 := fz BK818.out 3 (.int .i64 a0_3); have hfz22_0 := blk_frozen BK818.out 0; have hfz22_1 := blk_frozen BK818.out 1; have hfz22_2 := blk_frozen BK818.out 2; have hfz22_3 := blk_frozen BK818.out 3) | ((with_reducible refine gate_callee (f := 111) rfl ?_); refine goesL_ (some 6) rfl rfl Try.func111 (by kernel_rfl) rfl #[.agg #[.int .i64 a0_0, .int .i64 a0_1, .int .i64 a0_2, .int .i64 a0_3]] rfl dz ?_; (with_reducible refine (spec_BoxOk.calls a0_0 a0_1 a0_2 a0_3 true _ A3.out).mono ?_); rintro e w23 ⟨rfl, hb⟩; refine ⟨_, rfl, ?_⟩; have n0_ := Aside0.mk (blk_below (g := gb818) (o := .cells #[.int .i64 a0_0, .int .i64 a0_1, .int .i64 a0_2, .int .i64 a0_3] 32 (0, 0)) (kz BK818.out) hb); have n1_ := Aside0.mk (blk_below (g := gb819) (o := .cells #[.int .i64 a1_0, .int .i64 a1_1, .int .i64 a1_2, .int .i64 a1_3] 32 (0, 0)) (kz BK819.out) hb); have n2_ := Aside0.mk (below_step (b2 GE818.out GE819.out HB.out) hb); clear BK818; clear BK819; clear HB; have BK818 := n0_; have BK819 := n1_; have HB := n2_; clear n0_ n1_ n2_; (try clear hb); (try clear hb2); (try clear hk); (try clear hi); have hcz24_0 := fz BK819.out 0 (.int .i64 a1_0); have hcz24_1 := fz BK819.out 1 (.int .i64 a1_1); have hcz24_2 := fz BK819.out 2 (.int .i64 a1_2); have hcz24_3 := fz BK819.out 3 (.int .i64 a1_3); have hfz24_0 := blk_frozen BK819.out 0; have hfz24_1 := blk_frozen BK819.out 1; have hfz24_2 := blk_frozen BK819.out 2; have hfz24_3 := blk_frozen BK819.out 3) | (go_at_call 111; (with_reducible refine (spec_BoxOk.calls a1_0 a1_1 a1_2 a1_3 true _ A5.out).mono ?_); rintro e w25 ⟨rfl, hb⟩; have n0_ := Aside0.mk (blk_below (g := gb818) (o := .cells #[.int .i64 a0_0, .int .i64 a0_1, .int .i64 a0_2, .int .i64 a0_3] 32 (0, 0)) (kz BK818.out) hb); have n1_ := Aside0.mk (blk_below (g := gb819) (o := .cells #[.int .i64 a1_0, .int .i64 a1_1, .int .i64 a1_2, .int .i64 a1_3] 32 (0, 0)) (kz BK819.out) hb); have n2_ := Aside0.mk (below_step (b2 GE818.out GE819.out HB.out) hb); clear BK818; clear BK819; clear HB; have BK818 := n0_; have BK819 := n1_; have HB := n2_; clear n0_ n1_ n2_; (try clear hb); (try clear hb2); (try clear hk); (try clear hi); have hcz26_0 := fz BK818.out 0 (.int .i64 a0_0); have hcz26_1 := fz BK818.out 1 (.int .i64 a0_1); have hcz26_2 := fz BK818.out 2 (.int .i64 a0_2); have hcz26_3 := fz BK818.out 3 (.int .i64 a0_3); have hfz26_0 := blk_frozen BK818.out 0; have hfz26_1 := blk_frozen BK818.out 1; have hfz26_2 := blk_frozen BK818.out 2; have hfz26_3 := blk_frozen BK818.out 3; have hcz27_0 := fz BK819.out 0 (.int .i64 a1_0); have hcz27_1 := fz BK819.out 1 (.int .i64 a1_1); have hcz27_2 := fz BK819.out 2 (.int .i64 a1_2); have hcz27_3 := fz BK819.out 3 (.int .i64 a1_3); have hfz27_0 := blk_frozen BK819.out 0; have hfz27_1 := blk_frozen BK819.out 1; have hfz27_2 := blk_frozen BK819.out 2; have hfz27_3 := blk_frozen BK819.out 3))
            go_ret; exact ⟨ez, b2 GE818.out GE819.out HB.out⟩
        · rw [if_neg c8] at H
          have c8b0 : decide (a1_0 ≤ a0_2) = false := decide_eq_false c8; clear c8; obtain rfl := Option.some.inj H
          go_enter Try.func130, Try.ntmps130
          go_wp2_with (first | ((with_reducible refine gate_dst (N := 2) rfl ?_); refine box_event ?hg (N := 2) ?hd (cs := #[.int .i64 a0_0, .int .i64 a0_1, .int .i64 a0_2, .int .i64 a0_3]) (t := 32) ?hr ?_; (case hd => rfl); (case hg => rfl); (case hr => first | (go_simp; done) | (go_simp; rfl)); intro gb818 hg w28 hbox hb; have n0_ := Aside0.mk (below_step (bz HB.out) hb); have n1_ := Aside0.mk (hbox); have n2_ := Aside0.mk ((by rw [hg]; exact (below_size (bz HB.out)) : w.heap.size ≤ gb818)); have n3_ := Aside0.mk ((by rw [hg]; exact (below_size (bz HB.out)) : w.heap.size ≤ gb818)); clear HB; have HB := n0_; have BK818 := n1_; have GW818 := n2_; have GE818 := n3_; clear n0_ n1_ n2_ n3_; clear hb hbox hg) | ((with_reducible refine gate_dst (N := 3) rfl ?_); refine box_event ?hg (N := 3) ?hd (cs := #[.int .i64 a1_0, .int .i64 a1_1, .int .i64 a1_2, .int .i64 a1_3]) (t := 32) ?hr ?_; (case hd => rfl); (case hg => rfl); (case hr => first | (go_simp; done) | (go_simp; rfl)); intro gb819 hg w29 hbox hb; have n0_ := Aside0.mk (blk_below (g := gb818) (o := .cells #[.int .i64 a0_0, .int .i64 a0_1, .int .i64 a0_2, .int .i64 a0_3] 32 (0, 0)) (kz BK818.out) hb); have n1_ := Aside0.mk (below_step (b1 GE818.out HB.out) hb); have n2_ := Aside0.mk (hbox); have n3_ := Aside0.mk ((by rw [hg]; exact (below_size (b1 GE818.out HB.out)) : w.heap.size ≤ gb819)); have n4_ := Aside0.mk ((by rw [hg]; exact (below_size (b1 GE818.out HB.out)) : w.heap.size ≤ gb819)); have n5_ := Aside0.mk ((by rw [hg]; exact Nat.ne_of_lt (blk_lt (g := gb818) (o := .cells #[.int .i64 a0_0, .int .i64 a0_1, .int .i64 a0_2, .int .i64 a0_3] 32 (0, 0)) (kz BK818.out)) : gb818 ≠ gb819)); have n6_ := Aside0.mk ((by rw [hg]; exact Nat.ne_of_gt (blk_lt (g := gb818) (o := .cells #[.int .i64 a0_0, .int .i64 a0_1, .int .i64 a0_2, .int .i64 a0_3] 32 (0, 0)) (kz BK818.out)) : gb819 ≠ gb818)); clear BK818; clear HB; have BK818 := n0_; have HB := n1_; have BK819 := n2_; have GW819 := n3_; have GE819 := n4_; have NB818_819 := n5_; have NB819_818 := n6_; clear n0_ n1_ n2_ n3_ n4_ n5_ n6_; clear hb hbox hg; have hnb30 := NB818_819.out; have hnc30 := NB819_818.out; have hcz31_0 := fz BK818.out 0 (.int .i64 a0_0); have hcz31_1 := fz BK818.out 1 (.int .i64 a0_1); have hcz31_2 := fz BK818.out 2 (.int .i64 a0_2); have hcz31_3 := fz BK818.out 3 (.int .i64 a0_3); have hfz31_0 := blk_frozen BK818.out 0; have hfz31_1 := blk_frozen BK818.out 1; have hfz31_2 := blk_frozen BK818.out 2; have hfz31_3 := blk_frozen BK818.out 3) | ((with_reducible refine gate_callee (f := 111) rfl ?_); refine goesL_ (some 6) rfl rfl Try.func111 (by kernel_rfl) rfl #[.agg #[.int .i64 a0_0, .int .i64 a0_1, .int .i64 a0_2, .int .i64 a0_3]] rfl dz ?_; (with_reducible refine (spec_BoxOk.calls a0_0 a0_1 a0_2 a0_3 true _ A3.out).mono ?_); rintro e w32 ⟨rfl, hb⟩; refine ⟨_, rfl, ?_⟩; have n0_ := Aside0.mk (blk_below (g := gb818) (o := .cells #[.int .i64 a0_0, .int .i64 a0_1, .int .i64 a0_2, .int .i64 a0_3] 32 (0, 0)) (kz BK818.out) hb); have n1_ := Aside0.mk (blk_below (g := gb819) (o := .cells #[.int .i64 a1_0, .int .i64 a1_1, .int .i64 a1_2, .int .i64 a1_3] 32 (0, 0)) (kz BK819.out) hb); have n2_ := Aside0.mk (below_step (b2 GE818.out GE819.out HB.out) hb); clear BK818; clear BK819; clear HB; have BK818 := n0_; have BK819 := n1_; have HB := n2_; clear n0_ n1_ n2_; (try clear hb); (try clear hb2); (try clear hk); (try clear hi); have hcz33_0 := fz BK819.out 0 (.int .i64 a1_0); have hcz33_1 := fz BK819.out 1 (.int .i64 a1_1); have hcz33_2 := fz BK819.out 2 (.int .i64 a1_2); have hcz33_3 := fz BK819.out 3 (.int .i64 a1_3); have hfz33_0 := blk_frozen BK819.out 0; have hfz33_1 := blk_frozen BK819.out 1; have hfz33_2 := blk_frozen BK819.out 2; have hfz33_3 := blk_frozen BK819.out 3) | (go_at_call 111; (with_reducible refine (spec_BoxOk.calls a1_0 a1_1 a1_2 a1_3 true _ A5.out).mono ?_); rintro e w34 ⟨rfl, hb⟩; have n0_ := Aside0.mk (blk_below (g := gb818) (o := .cells #[.int .i64 a0_0, .int .i64 a0_1, .int .i64 a0_2, .int .i64 a0_3] 32 (0, 0)) (kz BK818.out) hb); have n1_ := Aside0.mk (blk_below (g := gb819) (o := .cells #[.int .i64 a1_0, .int .i64 a1_1, .int .i64 a1_2, .int .i64 a1_3] 32 (0, 0)) (kz BK819.out) hb); have n2_ := Aside0.mk (below_step (b2 GE818.out GE819.out HB.out) hb); clear BK818; clear BK819; clear HB; have BK818 := n0_; have BK819 := n1_; have HB := n2_; clear n0_ n1_ n2_; (try clear hb); (try clear hb2); (try clear hk); (try clear hi); have hcz35_0 := fz BK818.out 0 (.int .i64 a0_0); have hcz35_1 := fz BK818.out 1 (.int .i64 a0_1); have hcz35_2 := fz BK818.out 2 (.int .i64 a0_2); have hcz35_3 := fz BK818.out 3 (.int .i64 a0_3); have hfz35_0 := blk_frozen BK818.out 0; have hfz35_1 := blk_frozen BK818.out 1; have hfz35_2 := blk_frozen BK818.out 2; have hfz35_3 := blk_frozen BK818.out 3; have hcz36_0 := fz BK819.out 0 (.int .i64 a1_0); have hcz36_1 := fz BK819.out 1 (.int .i64 a1_1); have hcz36_2 := fz BK819.out 2 (.int .i64 a1_2); have hcz36_3 := fz BK819.out 3 (.int .i64 a1_3); have hfz36_0 := blk_frozen BK819.out 0; have hfz36_1 := blk_frozen BK819.out 1; have hfz36_2 := blk_frozen BK819.out 2; have hfz36_3 := blk_frozen BK819.out 3))
          go_ret; exact ⟨ez, b2 GE818.out GE819.out HB.out⟩
      · rw [if_neg c7] at H
        have c7b0 : decide (a0_0 ≤ a1_2) = false := decide_eq_false c7; clear c7; obtain rfl := Option.some.inj H
        go_enter Try.func130, Try.ntmps130
        go_wp2_with (first | ((with_reducible refine gate_dst (N := 2) rfl ?_); refine box_event ?hg (N := 2) ?hd (cs := #[.int .i64 a0_0, .int .i64 a0_1, .int .i64 a0_2, .int .i64 a0_3]) (t := 32) ?hr ?_; (case hd => rfl); (case hg => rfl); (case hr => first | (go_simp; done) | (go_simp; rfl)); intro gb818 hg w37 hbox hb; have n0_ := Aside0.mk (below_step (bz HB.out) hb); have n1_ := Aside0.mk (hbox); have n2_ := Aside0.mk ((by rw [hg]; exact (below_size (bz HB.out)) : w.heap.size ≤ gb818)); have n3_ := Aside0.mk ((by rw [hg]; exact (below_size (bz HB.out)) : w.heap.size ≤ gb818)); clear HB; have HB := n0_; have BK818 := n1_; have GW818 := n2_; have GE818 := n3_; clear n0_ n1_ n2_ n3_; clear hb hbox hg) | ((with_reducible refine gate_dst (N := 3) rfl ?_); refine box_event ?hg (N := 3) ?hd (cs := #[.int .i64 a1_0, .int .i64 a1_1, .int .i64 a1_2, .int .i64 a1_3]) (t := 32) ?hr ?_; (case hd => rfl); (case hg => rfl); (case hr => first | (go_simp; done) | (go_simp; rfl)); intro gb819 hg w38 hbox hb; have n0_ := Aside0.mk (blk_below (g := gb818) (o := .cells #[.int .i64 a0_0, .int .i64 a0_1, .int .i64 a0_2, .int .i64 a0_3] 32 (0, 0)) (kz BK818.out) hb); have n1_ := Aside0.mk (below_step (b1 GE818.out HB.out) hb); have n2_ := Aside0.mk (hbox); have n3_ := Aside0.mk ((by rw [hg]; exact (below_size (b1 GE818.out HB.out)) : w.heap.size ≤ gb819)); have n4_ := Aside0.mk ((by rw [hg]; exact (below_size (b1 GE818.out HB.out)) : w.heap.size ≤ gb819)); have n5_ := Aside0.mk ((by rw [hg]; exact Nat.ne_of_lt (blk_lt (g := gb818) (o := .cells #[.int .i64 a0_0, .int .i64 a0_1, .int .i64 a0_2, .int .i64 a0_3] 32 (0, 0)) (kz BK818.out)) : gb818 ≠ gb819)); have n6_ := Aside0.mk ((by rw [hg]; exact Nat.ne_of_gt (blk_lt (g := gb818) (o := .cells #[.int .i64 a0_0, .int .i64 a0_1, .int .i64 a0_2, .int .i64 a0_3] 32 (0, 0)) (kz BK818.out)) : gb819 ≠ gb818)); clear BK818; clear HB; have BK818 := n0_; have HB := n1_; have BK819 := n2_; have GW819 := n3_; have GE819 := n4_; have NB818_819 := n5_; have NB819_818 := n6_; clear n0_ n1_ n2_ n3_ n4_ n5_ n6_; clear hb hbox hg; have hnb39 := NB818_819.out; have hnc39 := NB819_818.out; have hcz40_0 := fz BK818.out 0 (.int .i64 a0_0); have hcz40_1 := fz BK818.out 1 (.int .i64 a0_1); have hcz40_2 := fz BK818.out 2 (.int .i64 a0_2); have hcz40_3 := fz BK818.out 3 (.int .i64 a0_3); have hfz40_0 := blk_frozen BK818.out 0; have hfz40_1 := blk_frozen BK818.out 1; have hfz40_2 := blk_frozen BK818.out 2; have hfz40_3 := blk_frozen BK818.out 3) | ((with_reducible refine gate_callee (f := 111) rfl ?_); refine goesL_ (some 6) rfl rfl Try.func111 (by kernel_rfl) rfl #[.agg #[.int .i64 a0_0, .int .i64 a0_1, .int .i64 a0_2, .int .i64 a0_3]] rfl dz ?_; (with_reducible refine (spec_BoxOk.calls a0_0 a0_1 a0_2 a0_3 true _ A3.out).mono ?_); rintro e w41 ⟨rfl, hb⟩; refine ⟨_, rfl, ?_⟩; have n0_ := Aside0.mk (blk_below (g := gb818) (o := .cells #[.int .i64 a0_0, .int .i64 a0_1, .int .i64 a0_2, .int .i64 a0_3] 32 (0, 0)) (kz BK818.out) hb); have n1_ := Aside0.mk (blk_below (g := gb819) (o := .cells #[.int .i64 a1_0, .int .i64 a1_1, .int .i64 a1_2, .int .i64 a1_3] 32 (0, 0)) (kz BK819.out) hb); have n2_ := Aside0.mk (below_step (b2 GE818.out GE819.out HB.out) hb); clear BK818; clear BK819; clear HB; have BK818 := n0_; have BK819 := n1_; have HB := n2_; clear n0_ n1_ n2_; (try clear hb); (try clear hb2); (try clear hk); (try clear hi); have hcz42_0 := fz BK819.out 0 (.int .i64 a1_0); have hcz42_1 := fz BK819.out 1 (.int .i64 a1_1); have hcz42_2 := fz BK819.out 2 (.int .i64 a1_2); have hcz42_3 := fz BK819.out 3 (.int .i64 a1_3); have hfz42_0 := blk_frozen BK819.out 0; have hfz42_1 := blk_frozen BK819.out 1; have hfz42_2 := blk_frozen BK819.out 2; have hfz42_3 := blk_frozen BK819.out 3) | (go_at_call 111; (with_reducible refine (spec_BoxOk.calls a1_0 a1_1 a1_2 a1_3 true _ A5.out).mono ?_); rintro e w43 ⟨rfl, hb⟩; have n0_ := Aside0.mk (blk_below (g := gb818) (o := .cells #[.int .i64 a0_0, .int .i64 a0_1, .int .i64 a0_2, .int .i64 a0_3] 32 (0, 0)) (kz BK818.out) hb); have n1_ := Aside0.mk (blk_below (g := gb819) (o := .cells #[.int .i64 a1_0, .int .i64 a1_1, .int .i64 a1_2, .int .i64 a1_3] 32 (0, 0)) (kz BK819.out) hb); have n2_ := Aside0.mk (below_step (b2 GE818.out GE819.out HB.out) hb); clear BK818; clear BK819; clear HB; have BK818 := n0_; have BK819 := n1_; have HB := n2_; clear n0_ n1_ n2_; (try clear hb); (try clear hb2); (try clear hk); (try clear hi); have hcz44_0 := fz BK818.out 0 (.int .i64 a0_0); have hcz44_1 := fz BK818.out 1 (.int .i64 a0_1); have hcz44_2 := fz BK818.out 2 (.int .i64 a0_2); have hcz44_3 := fz BK818.out 3 (.int .i64 a0_3); have hfz44_0 := blk_frozen BK818.out 0; have hfz44_1 := blk_frozen BK818.out 1; have hfz44_2 := blk_frozen BK818.out 2; have hfz44_3 := blk_frozen BK818.out 3; have hcz45_0 := fz BK819.out 0 (.int .i64 a1_0); have hcz45_1 := fz BK819.out 1 (.int .i64 a1_1); have hcz45_2 := fz BK819.out 2 (.int .i64 a1_2); have hcz45_3 := fz BK819.out 3 (.int .i64 a1_3); have hfz45_0 := blk_frozen BK819.out 0; have hfz45_1 := blk_frozen BK819.out 1; have hfz45_2 := blk_frozen BK819.out 2; have hfz45_3 := blk_frozen BK819.out 3))
        go_ret; exact ⟨ez, b2 GE818.out GE819.out HB.out⟩
    · replace c6 := Bool.eq_false_iff.mpr c6
      subst c6; replace H : (some false) = some r := (by rw [if_neg (show ¬ (false = true) by decide)] at H; exact H); obtain rfl := Option.some.inj H
      go_enter Try.func130, Try.ntmps130
      go_wp2_with (first | ((with_reducible refine gate_dst (N := 2) rfl ?_); refine box_event ?hg (N := 2) ?hd (cs := #[.int .i64 a0_0, .int .i64 a0_1, .int .i64 a0_2, .int .i64 a0_3]) (t := 32) ?hr ?_; (case hd => rfl); (case hg => rfl); (case hr => first | (go_simp; done) | (go_simp; rfl)); intro gb818 hg w46 hbox hb; have n0_ := Aside0.mk (below_step (bz HB.out) hb); have n1_ := Aside0.mk (hbox); have n2_ := Aside0.mk ((by rw [hg]; exact (below_size (bz HB.out)) : w.heap.size ≤ gb818)); have n3_ := Aside0.mk ((by rw [hg]; exact (below_size (bz HB.out)) : w.heap.size ≤ gb818)); clear HB; have HB := n0_; have BK818 := n1_; have GW818 := n2_; have GE818 := n3_; clear n0_ n1_ n2_ n3_; clear hb hbox hg) | ((with_reducible refine gate_dst (N := 3) rfl ?_); refine box_event ?hg (N := 3) ?hd (cs := #[.int .i64 a1_0, .int .i64 a1_1, .int .i64 a1_2, .int .i64 a1_3]) (t := 32) ?hr ?_; (case hd => rfl); (case hg => rfl); (case hr => first | (go_simp; done) | (go_simp; rfl)); intro gb819 hg w47 hbox hb; have n0_ := Aside0.mk (blk_below (g := gb818) (o := .cells #[.int .i64 a0_0, .int .i64 a0_1, .int .i64 a0_2, .int .i64 a0_3] 32 (0, 0)) (kz BK818.out) hb); have n1_ := Aside0.mk (below_step (b1 GE818.out HB.out) hb); have n2_ := Aside0.mk (hbox); have n3_ := Aside0.mk ((by rw [hg]; exact (below_size (b1 GE818.out HB.out)) : w.heap.size ≤ gb819)); have n4_ := Aside0.mk ((by rw [hg]; exact (below_size (b1 GE818.out HB.out)) : w.heap.size ≤ gb819)); have n5_ := Aside0.mk ((by rw [hg]; exact Nat.ne_of_lt (blk_lt (g := gb818) (o := .cells #[.int .i64 a0_0, .int .i64 a0_1, .int .i64 a0_2, .int .i64 a0_3] 32 (0, 0)) (kz BK818.out)) : gb818 ≠ gb819)); have n6_ := Aside0.mk ((by rw [hg]; exact Nat.ne_of_gt (blk_lt (g := gb818) (o := .cells #[.int .i64 a0_0, .int .i64 a0_1, .int .i64 a0_2, .int .i64 a0_3] 32 (0, 0)) (kz BK818.out)) : gb819 ≠ gb818)); clear BK818; clear HB; have BK818 := n0_; have HB := n1_; have BK819 := n2_; have GW819 := n3_; have GE819 := n4_; have NB818_819 := n5_; have NB819_818 := n6_; clear n0_ n1_ n2_ n3_ n4_ n5_ n6_; clear hb hbox hg; have hnb48 := NB818_819.out; have hnc48 := NB819_818.out; have hcz49_0 := fz BK818.out 0 (.int .i64 a0_0); have hcz49_1 := fz BK818.out 1 (.int .i64 a0_1); have hcz49_2 := fz BK818.out 2 (.int .i64 a0_2); have hcz49_3 := fz BK818.out 3 (.int .i64 a0_3); have hfz49_0 := blk_frozen BK818.out 0; have hfz49_1 := blk_frozen BK818.out 1; have hfz49_2 := blk_frozen BK818.out 2; have hfz49_3 := blk_frozen BK818.out 3) | ((with_reducible refine gate_callee (f := 111) rfl ?_); refine goesL_ (some 6) rfl rfl Try.func111 (by kernel_rfl) rfl #[.agg #[.int .i64 a0_0, .int .i64 a0_1, .int .i64 a0_2, .int .i64 a0_3]] rfl dz ?_; (with_reducible refine (spec_BoxOk.calls a0_0 a0_1 a0_2 a0_3 true _ A3.out).mono ?_); rintro e w50 ⟨rfl, hb⟩; refine ⟨_, rfl, ?_⟩; have n0_ := Aside0.mk (blk_below (g := gb818) (o := .cells #[.int .i64 a0_0, .int .i64 a0_1, .int .i64 a0_2, .int .i64 a0_3] 32 (0, 0)) (kz BK818.out) hb); have n1_ := Aside0.mk (blk_below (g := gb819) (o := .cells #[.int .i64 a1_0, .int .i64 a1_1, .int .i64 a1_2, .int .i64 a1_3] 32 (0, 0)) (kz BK819.out) hb); have n2_ := Aside0.mk (below_step (b2 GE818.out GE819.out HB.out) hb); clear BK818; clear BK819; clear HB; have BK818 := n0_; have BK819 := n1_; have HB := n2_; clear n0_ n1_ n2_; (try clear hb); (try clear hb2); (try clear hk); (try clear hi); have hcz51_0 := fz BK819.out 0 (.int .i64 a1_0); have hcz51_1 := fz BK819.out 1 (.int .i64 a1_1); have hcz51_2 := fz BK819.out 2 (.int .i64 a1_2); have hcz51_3 := fz BK819.out 3 (.int .i64 a1_3); have hfz51_0 := blk_frozen BK819.out 0; have hfz51_1 := blk_frozen BK819.out 1; have hfz51_2 := blk_frozen BK819.out 2; have hfz51_3 := blk_frozen BK819.out 3) | (go_at_call 111; (with_reducible refine (spec_BoxOk.calls a1_0 a1_1 a1_2 a1_3 false _ A5.out).mono ?_); rintro e w52 ⟨rfl, hb⟩; have n0_ := Aside0.mk (blk_below (g := gb818) (o := .cells #[.int .i64 a0_0, .int .i64 a0_1, .int .i64 a0_2, .int .i64 a0_3] 32 (0, 0)) (kz BK818.out) hb); have n1_ := Aside0.mk (blk_below (g := gb819) (o := .cells #[.int .i64 a1_0, .int .i64 a1_1, .int .i64 a1_2, .int .i64 a1_3] 32 (0, 0)) (kz BK819.out) hb); have n2_ := Aside0.mk (below_step (b2 GE818.out GE819.out HB.out) hb); clear BK818; clear BK819; clear HB; have BK818 := n0_; have BK819 := n1_; have HB := n2_; clear n0_ n1_ n2_; (try clear hb); (try clear hb2); (try clear hk); (try clear hi)))
      go_ret; exact ⟨ez, b2 GE818.out GE819.out HB.out⟩
  · replace c4 := Bool.eq_false_iff.mpr c4
    subst c4; replace H : (some false) = some r := (by rw [if_neg (show ¬ (false = true) by decide)] at H; exact H); obtain rfl := Option.some.inj H
    go_enter Try.func130, Try.ntmps130
    go_wp2_with (first | ((with_reducible refine gate_dst (N := 2) rfl ?_); refine box_event ?hg (N := 2) ?hd (cs := #[.int .i64 a0_0, .int .i64 a0_1, .int .i64 a0_2, .int .i64 a0_3]) (t := 32) ?hr ?_; (case hd => rfl); (case hg => rfl); (case hr => first | (go_simp; done) | (go_simp; rfl)); intro gb818 hg w53 hbox hb; have n0_ := Aside0.mk (below_step (bz HB.out) hb); have n1_ := Aside0.mk (hbox); have n2_ := Aside0.mk ((by rw [hg]; exact (below_size (bz HB.out)) : w.heap.size ≤ gb818)); have n3_ := Aside0.mk ((by rw [hg]; exact (below_size (bz HB.out)) : w.heap.size ≤ gb818)); clear HB; have HB := n0_; have BK818 := n1_; have GW818 := n2_; have GE818 := n3_; clear n0_ n1_ n2_ n3_; clear hb hbox hg) | ((with_reducible refine gate_dst (N := 3) rfl ?_); refine box_event ?hg (N := 3) ?hd (cs := #[.int .i64 a1_0, .int .i64 a1_1, .int .i64 a1_2, .int .i64 a1_3]) (t := 32) ?hr ?_; (case hd => rfl); (case hg => rfl); (case hr => first | (go_simp; done) | (go_simp; rfl)); intro gb819 hg w54 hbox hb; have n0_ := Aside0.mk (blk_below (g := gb818) (o := .cells #[.int .i64 a0_0, .int .i64 a0_1, .int .i64 a0_2, .int .i64 a0_3] 32 (0, 0)) (kz BK818.out) hb); have n1_ := Aside0.mk (below_step (b1 GE818.out HB.out) hb); have n2_ := Aside0.mk (hbox); have n3_ := Aside0.mk ((by rw [hg]; exact (below_size (b1 GE818.out HB.out)) : w.heap.size ≤ gb819)); have n4_ := Aside0.mk ((by rw [hg]; exact (below_size (b1 GE818.out HB.out)) : w.heap.size ≤ gb819)); have n5_ := Aside0.mk ((by rw [hg]; exact Nat.ne_of_lt (blk_lt (g := gb818) (o := .cells #[.int .i64 a0_0, .int .i64 a0_1, .int .i64 a0_2, .int .i64 a0_3] 32 (0, 0)) (kz BK818.out)) : gb818 ≠ gb819)); have n6_ := Aside0.mk ((by rw [hg]; exact Nat.ne_of_gt (blk_lt (g := gb818) (o := .cells #[.int .i64 a0_0, .int .i64 a0_1, .int .i64 a0_2, .int .i64 a0_3] 32 (0, 0)) (kz BK818.out)) : gb819 ≠ gb818)); clear BK818; clear HB; have BK818 := n0_; have HB := n1_; have BK819 := n2_; have GW819 := n3_; have GE819 := n4_; have NB818_819 := n5_; have NB819_818 := n6_; clear n0_ n1_ n2_ n3_ n4_ n5_ n6_; clear hb hbox hg; have hnb55 := NB818_819.out; have hnc55 := NB819_818.out; have hcz56_0 := fz BK818.out 0 (.int .i64 a0_0); have hcz56_1 := fz BK818.out 1 (.int .i64 a0_1); have hcz56_2 := fz BK818.out 2 (.int .i64 a0_2); have hcz56_3 := fz BK818.out 3 (.int .i64 a0_3); have hfz56_0 := blk_frozen BK818.out 0; have hfz56_1 := blk_frozen BK818.out 1; have hfz56_2 := blk_frozen BK818.out 2; have hfz56_3 := blk_frozen BK818.out 3) | ((with_reducible refine gate_callee (f := 111) rfl ?_); refine goesL_ (some 6) rfl rfl Try.func111 (by kernel_rfl) rfl #[.agg #[.int .i64 a0_0, .int .i64 a0_1, .int .i64 a0_2, .int .i64 a0_3]] rfl dz ?_; (with_reducible refine (spec_BoxOk.calls a0_0 a0_1 a0_2 a0_3 false _ A3.out).mono ?_); rintro e w57 ⟨rfl, hb⟩; refine ⟨_, rfl, ?_⟩; have n0_ := Aside0.mk (blk_below (g := gb818) (o := .cells #[.int .i64 a0_0, .int .i64 a0_1, .int .i64 a0_2, .int .i64 a0_3] 32 (0, 0)) (kz BK818.out) hb); have n1_ := Aside0.mk (blk_below (g := gb819) (o := .cells #[.int .i64 a1_0, .int .i64 a1_1, .int .i64 a1_2, .int .i64 a1_3] 32 (0, 0)) (kz BK819.out) hb); have n2_ := Aside0.mk (below_step (b2 GE818.out GE819.out HB.out) hb); clear BK818; clear BK819; clear HB; have BK818 := n0_; have BK819 := n1_; have HB := n2_; clear n0_ n1_ n2_; (try clear hb); (try clear hb2); (try clear hk); (try clear hi)))
    go_ret; exact ⟨ez, b2 GE818.out GE819.out HB.out⟩

end Go.Proofs.Ytngjaajcdbodeaa.All
