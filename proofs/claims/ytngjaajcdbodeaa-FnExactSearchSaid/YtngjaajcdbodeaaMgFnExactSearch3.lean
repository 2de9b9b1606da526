/- The texts on which the row FnExactSearch rests, part 3: contracts of the functions that it reaches and plain laws of what they compute. No condition. -/
import Derived.Maps.OwnOps
import Derived.Maps.Views
import Derived.Test.YtngjaajcdbodeaaMgFnExactSearch1
import Derived.Test.YtngjaajcdbodeaaMgFnExactSearch2
namespace Go.Proofs.Ytngjaajcdbodeaa.All
open Go.RowKit Go.Proofs.YtngjaajcdbodeaaW.PrintWords Go.Proofs.YtngjaajcdbodeaaW.PrintLast Go.Proofs.YtngjaajcdbodeaaW.PrintMore Go.Proofs.Ytngjaajcdbodeaa.Sq
attribute [local go_sem] max2_int min2_int max_two min_two max_three min_three max_four min_four 
set_option linter.unusedVariables false
set_option linter.unusedSimpArgs false

/-! ### spec_l8Search: function 99 -/
mutual
def spec_l8Search.j0 : Nat → Int → Int → List (S34) → Bool → Int → List (S90) → Int → Int → Int → Int → Option ((List (S34)) × Int)
  | 0, _, _, _, _, _, _, _, _, _, _ => none
  | k + 1, x1, x3, x10, x36, x823000, x823001, x824000, x824001, x824002, x824003 => if x36 = true then (some (x10, 0)) else (if 0 ≤ x1 then (if x1 < (x823001.length : Int) then (spec_l8Search.l0 k x3 x10 1 0 x823000 x823001 x824000 x824001 x824002 x824003 ((rd_T90 x823001 x1).f1.f0) ((rd_T90 x823001 x1).f1.f1)) else (none)) else (none))
def spec_l8Search.l0 : Nat → Int → List (S34) → Int → Int → Int → List (S90) → Int → Int → Int → Int → Bool → List (S103) → Option ((List (S34)) × Int)
  | 0, _, _, _, _, _, _, _, _, _, _, _, _ => none
  | k + 1, x3, x10, x12, x13, x823000, x823001, x824000, x824001, x824002, x824003, x831000, x831001 => if x13 < (x831001.length : Int) then (if 0 ≤ x13 then ((spec_Meets.f ((rd_T103 x831001 x13).f1.f0) ((rd_T103 x831001 x13).f1.f1) ((rd_T103 x831001 x13).f1.f2) ((rd_T103 x831001 x13).f1.f3) x824000 x824001 x824002 x824003).bind fun t832 => (if t832 = true then (if x831000 = true then (if x10.length < 3518437208883 then (spec_l8Search.l0 k x3 (x10 ++ [(⟨(rd_T103 x831001 x13).f0, (⟨(rd_T103 x831001 x13).f1.f0, (rd_T103 x831001 x13).f1.f1, (rd_T103 x831001 x13).f1.f2, (rd_T103 x831001 x13).f1.f3⟩ : S32)⟩ : S34)]) x12 (wrap64 (x13 + 1)) x823000 x823001 x824000 x824001 x824002 x824003 x831000 x831001) else (none)) else ((spec_l8Search.f k x823000 x823001 ((rd_T103 x831001 x13).f0) x824000 x824001 x824002 x824003 (wrap64 (x3 + 1))).bind fun bt839 => (if x10.length + bt839.1.length < 3518437208883 then (spec_l8Search.l0 k x3 (x10 ++ bt839.1) (wrap64 (x12 + bt839.2)) (wrap64 (x13 + 1)) x823000 x823001 x824000 x824001 x824002 x824003 x831000 x831001) else (none)))) else (spec_l8Search.l0 k x3 x10 x12 (wrap64 (x13 + 1)) x823000 x823001 x824000 x824001 x824002 x824003 x831000 x831001))) else (none)) else (some (x10, x12))
def spec_l8Search.f : Nat → Int → List (S90) → Int → Int → Int → Int → Int → Int → Option ((List (S34)) × Int)
  | 0, _, _, _, _, _, _, _, _ => none
  | k + 1, a0_0, l0_1, a1, a2_0, a2_1, a2_2, a2_3, a3 => (some (([] : List (S34)) : List (S34))).bind fun y824 => (if a3 > 12 then (spec_l8Search.j0 k a1 a3 y824 true a0_0 l0_1 a2_0 a2_1 a2_2 a2_3) else ((spec_l1In.f a1 0 (wrap64 ((l0_1.length : Int) - 1))).bind fun t827 => (if t827 = true then (if 0 ≤ a1 then (if a1 < (l0_1.length : Int) then (spec_l8Search.j0 k a1 a3 y824 (!((rd_T90 l0_1 a1).f0)) a0_0 l0_1 a2_0 a2_1 a2_2 a2_3) else (none)) else (none)) else (spec_l8Search.j0 k a1 a3 y824 true a0_0 l0_1 a2_0 a2_1 a2_2 a2_3))))
end
theorem spec_l8Search.mono_l : ∀ k, (∀ y0 y1 y2 y3 y4 y5 y6 y7, LeO (spec_l8Search.f k y0 y1 y2 y3 y4 y5 y6 y7) (spec_l8Search.f (k + 1) y0 y1 y2 y3 y4 y5 y6 y7)) ∧ (∀ y0 y1 y2 y3 y4 y5 y6 y7 y8 y9, LeO (spec_l8Search.j0 k y0 y1 y2 y3 y4 y5 y6 y7 y8 y9) (spec_l8Search.j0 (k + 1) y0 y1 y2 y3 y4 y5 y6 y7 y8 y9)) ∧ (∀ y0 y1 y2 y3 y4 y5 y6 y7 y8 y9 y10 y11, LeO (spec_l8Search.l0 k y0 y1 y2 y3 y4 y5 y6 y7 y8 y9 y10 y11) (spec_l8Search.l0 (k + 1) y0 y1 y2 y3 y4 y5 y6 y7 y8 y9 y10 y11))
  | 0 => ⟨fun _ _ _ _ _ _ _ _ r h => by simp [spec_l8Search.f] at h, fun _ _ _ _ _ _ _ _ _ _ r h => by simp [spec_l8Search.j0] at h, fun _ _ _ _ _ _ _ _ _ _ _ _ r h => by simp [spec_l8Search.l0] at h⟩
  | k + 1 => by
    obtain ⟨ih0, ih1, ih2⟩ := spec_l8Search.mono_l k; refine ⟨?_, ?_, ?_⟩
    · intro y0 y1 y2 y3 y4 y5 y6 y7
      unfold spec_l8Search.f
      repeat' first | (with_reducible first | exact ih0 _ _ _ _ _ _ _ _ | exact ih1 _ _ _ _ _ _ _ _ _ _ | exact ih2 _ _ _ _ _ _ _ _ _ _ _ _ | exact LeO.refl _ | exact LeO.none _ | refine LeO.ite ?_ ?_ | refine LeO.bind ?_ (fun _ => ?_)) | exact ih0 _ _ _ _ _ _ _ _ | exact ih1 _ _ _ _ _ _ _ _ _ _ | exact ih2 _ _ _ _ _ _ _ _ _ _ _ _ | exact LeO.none _ | refine LeO.ite ?_ ?_ | refine LeO.bind ?_ (fun _ => ?_)
    · intro y0 y1 y2 y3 y4 y5 y6 y7 y8 y9
      unfold spec_l8Search.j0
      repeat' first | (with_reducible first | exact ih0 _ _ _ _ _ _ _ _ | exact ih1 _ _ _ _ _ _ _ _ _ _ | exact ih2 _ _ _ _ _ _ _ _ _ _ _ _ | exact LeO.refl _ | exact LeO.none _ | refine LeO.ite ?_ ?_ | refine LeO.bind ?_ (fun _ => ?_)) | exact ih0 _ _ _ _ _ _ _ _ | exact ih1 _ _ _ _ _ _ _ _ _ _ | exact ih2 _ _ _ _ _ _ _ _ _ _ _ _ | exact LeO.none _ | refine LeO.ite ?_ ?_ | refine LeO.bind ?_ (fun _ => ?_)
    · intro y0 y1 y2 y3 y4 y5 y6 y7 y8 y9 y10 y11
      unfold spec_l8Search.l0
      repeat' first | (with_reducible first | exact ih0 _ _ _ _ _ _ _ _ | exact ih1 _ _ _ _ _ _ _ _ _ _ | exact ih2 _ _ _ _ _ _ _ _ _ _ _ _ | exact LeO.refl _ | exact LeO.none _ | refine LeO.ite ?_ ?_ | refine LeO.bind ?_ (fun _ => ?_)) | exact ih0 _ _ _ _ _ _ _ _ | exact ih1 _ _ _ _ _ _ _ _ _ _ | exact ih2 _ _ _ _ _ _ _ _ _ _ _ _ | exact LeO.none _ | refine LeO.ite ?_ ?_ | refine LeO.bind ?_ (fun _ => ?_)
theorem spec_l8Search.mono : ∀ a0 a1 a2 a3 a4 a5 a6 a7 k, LeO (spec_l8Search.f k a0 a1 a2 a3 a4 a5 a6 a7) (spec_l8Search.f (k + 1) a0 a1 a2 a3 a4 a5 a6 a7) := by
  intro a0 a1 a2 a3 a4 a5 a6 a7 k
  obtain ⟨ih0, ih1, ih2⟩ := spec_l8Search.mono_l k; exact ih0 a0 a1 a2 a3 a4 a5 a6 a7
def spec_l8Search.T9 : Bool × List (List Nat × List Nat) := (true, [([], []), ([0], [0]), ([], []), ([1, 2], [1, 2]), ([3], [3]), ([4], [4]), ([], []), ([5, 6], [5, 6]), ([7], [7])])
def spec_l8Search.B9 : List Nat := [0, 1, 0, 7, 15, 31, 0, 127, 255]
theorem spec_l8Search.tab9 : rtab .any (opsOf Try.f99 9) = spec_l8Search.T9 := by kernel_rfl
theorem spec_l8Search.bits9 : waitsOk spec_l8Search.T9.2 spec_l8Search.B9 = true := by kernel_rfl
def spec_l8Search.T11 : Bool × List (List Nat × List Nat) := (true, [([], []), ([], []), ([1], [1]), ([], []), ([2, 3], [2, 3]), ([4], [4]), ([5], [5]), ([], []), ([7], [7]), ([], []), ([8, 9], [8, 9]), ([10], [10]), ([11], [11]), ([6, 12], [6, 12]), ([13], [13]), ([0, 14], [0, 14]), ([15, 15, 0, 1, 2, 3, 4, 5, 6, 7, 8, 9, 10, 11, 12, 13, 14, 15], [0, 15])])
def spec_l8Search.B11 : List Nat := [0, 0, 2, 0, 14, 30, 62, 0, 128, 0, 896, 1920, 3968, 8190, 16382, 32767, 65535]
theorem spec_l8Search.tab11 : rtab .any (opsOf Try.f99 11) = spec_l8Search.T11 := by kernel_rfl
theorem spec_l8Search.bits11 : waitsOk spec_l8Search.T11.2 spec_l8Search.B11 = true := by kernel_rfl
def spec_l8Search.T12 : Bool × List (List Nat × List Nat) := (true, [([], []), ([], []), ([1], [1]), ([], []), ([2, 3], [2, 3]), ([4], [4]), ([5], [5]), ([], []), ([], []), ([8], [8]), ([0, 6, 7, 9], [0, 6, 7, 9]), ([10], [10]), ([11], [11]), ([11], [11]), ([12, 10, 0, 1, 2, 3, 4, 5, 6, 7, 8, 9, 10, 11, 12], [12]), ([13, 14, 0, 1, 2, 3, 4, 5, 6, 7, 8, 9, 10, 11, 12, 13, 14], [13])])
def spec_l8Search.B12 : List Nat := [0, 0, 2, 0, 14, 30, 62, 0, 0, 256, 1023, 2047, 4095, 4095, 8191, 32767]
theorem spec_l8Search.tab12 : rtab .any (opsOf Try.f99 12) = spec_l8Search.T12 := by kernel_rfl
theorem spec_l8Search.bits12 : waitsOk spec_l8Search.T12.2 spec_l8Search.B12 = true := by kernel_rfl
set_option maxHeartbeats 8000000 in
set_option maxRecDepth 100000 in
theorem spec_l8Search.calls (k : Nat) : ∀ (a0_0 : Int) (A0_1 : Option Addr) (c0_1 : Nat) (l0_1 : List (S90)) (a1 : Int) (a2_0 : Int) (a2_1 : Int) (a2_2 : Int) (a2_3 : Int) (a3 : Int) (r1 : List (S34)) (r2 : Int) (w : World) (hr0_1 : Kd.C k90 w A0_1 l0_1.length l0_1) (hc0_1 : l0_1.length ≤ c0_1) (h : spec_l8Search.f k a0_0 l0_1 a1 a2_0 a2_1 a2_2 a2_3 a3 = some (r1, r2)),
    Calls Try.prog 99 #[.agg #[.int .i64 a0_0, .slice A0_1 l0_1.length c0_1], .int .i64 a1, .agg #[.int .i64 a2_0, .int .i64 a2_1, .int .i64 a2_2, .int .i64 a2_3], .int .i64 a3] w fun e w' => ∃ v0_ : Value, e = .returned (.tuple #[v0_, .int .i64 r2]) ∧ Kd.R k34 34 w' w.heap.size (fun _ => True) v0_ r1 ∧ Below w.heap.size w w' := by
  induction k using Nat.strongRecOn with
  | _ k ih =>
  intro a0_0 A0_1 c0_1 l0_1 a1 a2_0 a2_1 a2_2 a2_3 a3 r1 r2 w hr0_1 hc0_1 h
  cases k with
  | zero => exact absurd h (by simp [spec_l8Search.f])
  | succ k =>
  simp only [spec_l8Search.f] at h
  have hu49 := Try.underlying49; have hu32 := Try.underlying32; have hu54 := Try.underlying54; have hu34 := Try.underlying34; have HR0_1 := Aside0.mk hr0_1; have HC0_1 := Aside0.mk hc0_1; clear hr0_1 hc0_1; have HB := Aside0.mk (Below.refl w.heap.size w); have H : ((some (([] : List (S34)) : List (S34))).bind fun y824 => (if a3 > 12 then (spec_l8Search.j0 k a1 a3 y824 true a0_0 l0_1 a2_0 a2_1 a2_2 a2_3) else ((spec_l1In.f a1 0 (wrap64 ((l0_1.length : Int) - 1))).bind fun t827 => (if t827 = true then (if 0 ≤ a1 then (if a1 < (l0_1.length : Int) then (spec_l8Search.j0 k a1 a3 y824 (!((rd_T90 l0_1 a1).f0)) a0_0 l0_1 a2_0 a2_1 a2_2 a2_3) else (none)) else (none)) else (spec_l8Search.j0 k a1 a3 y824 true a0_0 l0_1 a2_0 a2_1 a2_2 a2_3))))) = some (r1, r2) := h; clear h; obtain ⟨y824, hy824⟩ : ∃ y_ : List (S34), y_ = (([] : List (S34))) := ⟨_, rfl⟩
  replace H : (if a3 > 12 then (spec_l8Search.j0 k a1 a3 y824 true a0_0 l0_1 a2_0 a2_1 a2_2 a2_3) else ((spec_l1In.f a1 0 (wrap64 ((l0_1.length : Int) - 1))).bind fun t827 => (if t827 = true then (if 0 ≤ a1 then (if a1 < (l0_1.length : Int) then (spec_l8Search.j0 k a1 a3 y824 (!((rd_T90 l0_1 a1).f0)) a0_0 l0_1 a2_0 a2_1 a2_2 a2_3) else (none)) else (none)) else (spec_l8Search.j0 k a1 a3 y824 true a0_0 l0_1 a2_0 a2_1 a2_2 a2_3)))) = some (r1, r2) := by first | (rw [hy824]; with_reducible exact H) | (have H2_ := (Option.bind_some _ _).symm.trans H; rw [hy824]; with_reducible exact H2_) | (have H2_ := (Option.bind_some _ _).symm.trans H; with_reducible exact H2_) | with_reducible exact H | (rw [hy824]; exact H) | exact H
  have Ny824 := Aside0.mk hy824; clear hy824; have HC5 := Aside0.mk H; clear H
  go_enter Try.func99, Try.ntmps99
  go_upto_region 2 with (first | ((with_reducible refine gate_dst (N := 4) rfl ?_); (try (refine gate_guard (by rfl) ?_; dsimp only)); refine box_event ?hg (N := 4) ?hd (cs := #[.int .i64 a0_0, .slice A0_1 l0_1.length c0_1]) (t := 49) ?hr ?_; (case hd => rfl); (case hg => rfl); (case hr => first | (go_simp; done) | (go_simp; rfl)); intro gb822 hg w6 hbox hb; have n0_ := Aside0.mk (below_step (bz HB.out) hb); have n1_ := Aside0.mk (hbox); have n2_ := Aside0.mk ((by rw [hg]; exact (below_size (bz HB.out)) : w.heap.size ≤ gb822)); have n3_ := Aside0.mk ((by rw [hg]; exact (below_size (bz HB.out)) : w.heap.size ≤ gb822)); clear HB; have HB := n0_; have BK822 := n1_; have GW822 := n2_; have GE822 := n3_; clear n0_ n1_ n2_ n3_; clear hb hbox hg) | ((with_reducible refine gate_dst (N := 6) rfl ?_); (try (refine gate_guard (by rfl) ?_; dsimp only)); refine box_event ?hg (N := 6) ?hd (cs := #[.int .i64 a2_0, .int .i64 a2_1, .int .i64 a2_2, .int .i64 a2_3]) (t := 32) ?hr ?_; (case hd => rfl); (case hg => rfl); (case hr => first | (go_simp; done) | (go_simp; rfl)); intro gb823 hg w7 hbox hb; have n0_ := Aside0.mk (blk_below (g := gb822) (o := .cells #[.int .i64 a0_0, .slice A0_1 l0_1.length c0_1] 49 (0, 0)) (kz BK822.out) hb); have n1_ := Aside0.mk (below_step (b1 GE822.out HB.out) hb); have n2_ := Aside0.mk (hbox); have n3_ := Aside0.mk ((by rw [hg]; exact (below_size (b1 GE822.out HB.out)) : w.heap.size ≤ gb823)); have n4_ := Aside0.mk ((by rw [hg]; exact (below_size (b1 GE822.out HB.out)) : w.heap.size ≤ gb823)); have n5_ := Aside0.mk ((by rw [hg]; exact Nat.ne_of_lt (blk_lt (g := gb822) (o := .cells #[.int .i64 a0_0, .slice A0_1 l0_1.length c0_1] 49 (0, 0)) (kz BK822.out)) : gb822 ≠ gb823)); have n6_ := Aside0.mk ((by rw [hg]; exact Nat.ne_of_gt (blk_lt (g := gb822) (o := .cells #[.int .i64 a0_0, .slice A0_1 l0_1.length c0_1] 49 (0, 0)) (kz BK822.out)) : gb823 ≠ gb822)); clear BK822; clear HB; have BK822 := n0_; have HB := n1_; have BK823 := n2_; have GW823 := n3_; have GE823 := n4_; have NB822_823 := n5_; have NB823_822 := n6_; clear n0_ n1_ n2_ n3_ n4_ n5_ n6_; clear hb hbox hg) | ((with_reducible refine gate_dst (N := 16) rfl ?_); (try (refine gate_guard (by rfl) ?_; dsimp only)); refine Kd.R_lit k34 _ 34 ?hg (N := 16) ?hd (xs := ([] : List (S34))) (inner := []) (ok := fun _ => True) (okp := fun _ => True) ?hr ?hp (fun _ hk => hk) trivial (Below.refl _ _) (Nat.le_refl _) (by simp) ?_; (case hd => rfl); (case hg => rfl); (case hr => first | (go_simp; done) | (go_simp; rfl)); (case hp => exact (Reps.none _ _)); intro v825 w8 ho9 hb hg_ hnew_; clear hg_ hnew_; (first | rw [← Ny824.out] at ho9 | (simp only [Int.reduceToNat] at ho9; rw [← Ny824.out] at ho9)); have n0_ := Aside0.mk (Kd.R_lower ho9 (below_size (b2 GE822.out GE823.out HB.out))); have n1_ := Aside0.mk (blk_below (g := gb822) (o := .cells #[.int .i64 a0_0, .slice A0_1 l0_1.length c0_1] 49 (0, 0)) (kz BK822.out) hb); have n2_ := Aside0.mk (blk_below (g := gb823) (o := .cells #[.int .i64 a2_0, .int .i64 a2_1, .int .i64 a2_2, .int .i64 a2_3] 32 (0, 0)) (kz BK823.out) hb); have n3_ := Aside0.mk (below_step (b2 GE822.out GE823.out HB.out) hb); clear BK822; clear BK823; clear HB; have HO826 := n0_; have BK822 := n1_; have BK823 := n2_; have HB := n3_; clear n0_ n1_ n2_ n3_; clear hb ho9))
  (try simp only [Act.put, List.setIfInBounds_toArray, List.set_cons_zero, List.set_cons_succ])
  go_cut [36] (fun v36 wc => ∃ (kq : Nat) (x36_4 : Bool), v36 = .bool x36_4 ∧ Aside0 (spec_l8Search.j0 kq a1 a3 y824 x36_4 a0_0 l0_1 a2_0 a2_1 a2_2 a2_3 = some (r1, r2)) ∧ Aside0 (kq ≤ k) ∧ Aside0 (Kd.R k34 34 wc w.heap.size (fun _ => True) v825 y824) ∧ Aside0 (wc.heap[gb822]? = some (.cells #[.int .i64 a0_0, (.slice A0_1 l0_1.length c0_1)] 49 (0, 0))) ∧ Aside0 (wc.heap[gb823]? = some (.cells #[.int .i64 a2_0, .int .i64 a2_1, .int .i64 a2_2, .int .i64 a2_3] 32 (0, 0))) ∧ Aside0 (Below w.heap.size w wc))
  case first =>
    have H := HC5.out; clear HC5
    by_cases c10 : a3 > 12
    · rw [if_pos c10] at H
      have c10b0 : decide (12 < a3) = true := decide_eq_true c10; clear c10
      (first | rw [c10b0] | (simp only [i64_w, i32_w]; rw [c10b0]) | skip)
      have H' := Aside0.mk H; clear H; go_wp2; go_meet
      case rel => exact ⟨_, (true), az, H', ⟨lz⟩, ⟨rz HO826.out⟩, ⟨kz BK822.out⟩, ⟨kz BK823.out⟩, ⟨b2 GE822.out GE823.out HB.out⟩⟩
    · rw [if_neg c10] at H
      have c10b0 : decide (12 < a3) = false := decide_eq_false c10; clear c10
      (first | rw [c10b0] | (simp only [i64_w, i32_w]; rw [c10b0]) | skip)
      replace H := Option.bind_eq_some_iff.mp H; obtain ⟨t827, A110, H⟩ := H; replace H : (if t827 = true then (if 0 ≤ a1 then (if a1 < (l0_1.length : Int) then (spec_l8Search.j0 k a1 a3 y824 (!((rd_T90 l0_1 a1).f0)) a0_0 l0_1 a2_0 a2_1 a2_2 a2_3) else (none)) else (none)) else (spec_l8Search.j0 k a1 a3 y824 true a0_0 l0_1 a2_0 a2_1 a2_2 a2_3)) = some (r1, r2) := H; have A11 := Aside0.mk A110; clear A110
      by_cases c12 : t827 = true
      · subst c12
        replace H : (if 0 ≤ a1 then (if a1 < (l0_1.length : Int) then (spec_l8Search.j0 k a1 a3 y824 (!((rd_T90 l0_1 a1).f0)) a0_0 l0_1 a2_0 a2_1 a2_2 a2_3) else (none)) else (none)) = some (r1, r2) := (by rw [if_pos rfl] at H; exact H)
        by_cases c13 : 0 ≤ a1
        · rw [if_pos c13] at H
          have c13b0 : decide (0 ≤ a1) = true := decide_eq_true c13; clear c13
          by_cases c14 : a1 < (l0_1.length : Int)
          · rw [if_pos c14] at H
            have c14b0 : decide (a1 < (l0_1.length : Int)) = true := decide_eq_true c14; clear c14; have H' := Aside0.mk H; clear H; have hnb15 := NB822_823.out; have hnc15 := NB823_822.out; have hcz16_0 := fz BK822.out 0 (.int .i64 a0_0); have hcz16_1 := fz BK822.out 1 (.slice A0_1 l0_1.length c0_1); have hfz16_0 := blk_frozen BK822.out 0; have hfz16_1 := blk_frozen BK822.out 1
            go_wp2_with (first | (go_at_call 72; (with_reducible refine (spec_l1In.calls a1 0 (wrap64 ((l0_1.length : Int) - 1)) true _ A11.out).mono ?_); rintro e w' ⟨rfl, ⟨nd, rfl⟩⟩; have p828 : 0 ≤ (a1 : Int) := of_decide_eq_true uz; have q828 : a1 < (l0_1.length : Int) := of_decide_eq_true uz; obtain ⟨ad828, A828_2, c828_2, e828, hx828_0, hx828_1, hx828_2, hl828_2, hi828_2⟩ := at_T90 HR0_1.out a1 p828 q828; cases e828; replace hx828_0 := cz HB.out hx828_0; replace hx828_1 := cz HB.out hx828_1; replace hx828_2 := cz HB.out hx828_2; have HR828_2 := Aside0.mk hi828_2; have HC828_2 := Aside0.mk hl828_2; clear hi828_2 hl828_2; replace p828 := eq_true p828; replace q828 := eq_true q828))
            go_meet
            case rel => exact ⟨_, (!((rd_T90 l0_1 a1).f0)), az, H', ⟨lz⟩, ⟨rz HO826.out⟩, ⟨kz BK822.out⟩, ⟨kz BK823.out⟩, ⟨b2 GE822.out GE823.out HB.out⟩⟩
          · rw [if_neg c14] at H
            exact absurd H (by simp)
        · rw [if_neg c13] at H
          exact absurd H (by simp)
      · replace c12 := Bool.eq_false_iff.mpr c12
        subst c12; replace H : (spec_l8Search.j0 k a1 a3 y824 true a0_0 l0_1 a2_0 a2_1 a2_2 a2_3) = some (r1, r2) := (by rw [if_neg (show ¬ (false = true) by decide)] at H; exact H); have H' := Aside0.mk H; clear H; have hnb17 := NB822_823.out; have hnc17 := NB823_822.out; have hcz18_0 := fz BK822.out 0 (.int .i64 a0_0); have hcz18_1 := fz BK822.out 1 (.slice A0_1 l0_1.length c0_1); have hfz18_0 := blk_frozen BK822.out 0; have hfz18_1 := blk_frozen BK822.out 1
        go_wp2_with (first | (go_at_call 72; (with_reducible refine (spec_l1In.calls a1 0 (wrap64 ((l0_1.length : Int) - 1)) false _ A11.out).mono ?_); rintro e w' ⟨rfl, ⟨nd, rfl⟩⟩))
        go_meet
        case rel => exact ⟨_, (true), az, H', ⟨lz⟩, ⟨rz HO826.out⟩, ⟨kz BK822.out⟩, ⟨kz BK823.out⟩, ⟨b2 GE822.out GE823.out HB.out⟩⟩
  case rest =>
    clear HC5; (try clear c1); (try clear p2); (try clear p6); (try clear c8); (try clear p8); (try clear q8); (try clear hx8); (try clear c9); (try clear c10); (try clear c10b0); (try clear c12); (try clear c13); (try clear c13b0); (try clear c14); (try clear c14b0); (try clear c15); (try clear c17); (try clear hcz16_0); (try clear hcz16_1); (try clear hcz18_0); (try clear hcz18_1); (try clear hfz16_0); (try clear hfz16_1); (try clear hfz18_0); (try clear hfz18_1); (try clear hx828_0); (try clear hx828_1); (try clear hx828_2); (try clear p828); (try clear q828); obtain ⟨kq, x36_4, rfl, HA, HJ4, HO_10, BK822, BK823, HB⟩ := hcut
    cases kq with
    | zero => exact absurd HA.out (by simp [spec_l8Search.j0])
    | succ kj4 =>
      have H := HA.out; clear HA
      simp only [spec_l8Search.j0] at H
      by_cases c19 : x36_4 = true
      · subst c19
        replace H : (some (y824, 0)) = some (r1, r2) := (by rw [if_pos rfl] at H; exact H)
        simp only [Option.some.injEq, Prod.mk.injEq] at H
        obtain ⟨rfl, rfl⟩ := H; go_wp2
        go_ret2
        exact ⟨_, by first | rfl | (simp [errW_none, errW_some] <;> rfl) | (simp [*, errW_none, errW_some] <;> rfl), by (with_reducible repeat (first | apply Kd.R_alloc | apply Kd.R_drewN | apply Kd.R_drew)); exact HO_10.out, b2 GE822.out GE823.out HB.out⟩
      · replace c19 := Bool.eq_false_iff.mpr c19
        subst c19; replace H : (if 0 ≤ a1 then (if a1 < (l0_1.length : Int) then (spec_l8Search.l0 kj4 a3 y824 1 0 a0_0 l0_1 a2_0 a2_1 a2_2 a2_3 ((rd_T90 l0_1 a1).f1.f0) ((rd_T90 l0_1 a1).f1.f1)) else (none)) else (none)) = some (r1, r2) := (by rw [if_neg (show ¬ (false = true) by decide)] at H; exact H)
        by_cases c20 : 0 ≤ a1
        · rw [if_pos c20] at H
          have c20b0 : decide (0 ≤ a1) = true := decide_eq_true c20; clear c20
          by_cases c21 : a1 < (l0_1.length : Int)
          · rw [if_pos c21] at H
            have c21b0 : decide (a1 < (l0_1.length : Int)) = true := decide_eq_true c21; clear c21; have H' := Aside0.mk H; clear H; have hnb22 := NB822_823.out; have hnc22 := NB823_822.out; have hcz23_0 := fz BK822.out 0 (.int .i64 a0_0); have hcz23_1 := fz BK822.out 1 (.slice A0_1 l0_1.length c0_1); have hfz23_0 := blk_frozen BK822.out 0; have hfz23_1 := blk_frozen BK822.out 1; have p829 : 0 ≤ (a1 : Int) := of_decide_eq_true uz; have q829 : a1 < (l0_1.length : Int) := of_decide_eq_true uz; obtain ⟨ad829, A829_2, c829_2, e829, hx829_0, hx829_1, hx829_2, hl829_2, hi829_2⟩ := at_T90 HR0_1.out a1 p829 q829
            cases e829
            replace hx829_0 := cz HB.out hx829_0; replace hx829_1 := cz HB.out hx829_1; replace hx829_2 := cz HB.out hx829_2; have HR829_2 := Aside0.mk hi829_2; have HC829_2 := Aside0.mk hl829_2; clear hi829_2 hl829_2; replace p829 := eq_true p829; replace q829 := eq_true q829
            go_wp2_with (first | ((with_reducible refine gate_dst (N := 11) rfl ?_); (try (refine gate_guard (by rfl) ?_; dsimp only)); refine box_event ?hg (N := 11) ?hd (cs := #[.bool false, .slice none 0 0]) (t := 54) ?hr ?_; (case hd => rfl); (case hg => rfl); (case hr => first | (go_simp; done) | (go_simp; rfl)); intro gb830 hg w24 hbox hb; have n0_ := Aside0.mk (Kd.R_below (rz HO_10.out) hb); have n1_ := Aside0.mk (blk_below (g := gb822) (o := .cells #[.int .i64 a0_0, .slice (some ad829) l0_1.length c0_1] 49 (0, 0)) (kz BK822.out) hb); have n2_ := Aside0.mk (blk_below (g := gb823) (o := .cells #[.int .i64 a2_0, .int .i64 a2_1, .int .i64 a2_2, .int .i64 a2_3] 32 (0, 0)) (kz BK823.out) hb); have n3_ := Aside0.mk (below_step (b2 GE822.out GE823.out HB.out) hb); have n4_ := Aside0.mk (hbox); have n5_ := Aside0.mk ((by rw [hg]; exact (below_size (b2 GE822.out GE823.out HB.out)) : w.heap.size ≤ gb830)); have n6_ := Aside0.mk ((by rw [hg]; exact (below_size (b2 GE822.out GE823.out HB.out)) : w.heap.size ≤ gb830)); have n7_ := Aside0.mk ((by rw [hg]; exact Nat.ne_of_lt (blk_lt (g := gb822) (o := .cells #[.int .i64 a0_0, .slice (some ad829) l0_1.length c0_1] 49 (0, 0)) (kz BK822.out)) : gb822 ≠ gb830)); have n8_ := Aside0.mk ((by rw [hg]; exact Nat.ne_of_gt (blk_lt (g := gb822) (o := .cells #[.int .i64 a0_0, .slice (some ad829) l0_1.length c0_1] 49 (0, 0)) (kz BK822.out)) : gb830 ≠ gb822)); have n9_ := Aside0.mk ((by rw [hg]; exact Nat.ne_of_lt (blk_lt (g := gb823) (o := .cells #[.int .i64 a2_0, .int .i64 a2_1, .int .i64 a2_2, .int .i64 a2_3] 32 (0, 0)) (kz BK823.out)) : gb823 ≠ gb830)); have n10_ := Aside0.mk ((by rw [hg]; exact Nat.ne_of_gt (blk_lt (g := gb823) (o := .cells #[.int .i64 a2_0, .int .i64 a2_1, .int .i64 a2_2, .int .i64 a2_3] 32 (0, 0)) (kz BK823.out)) : gb830 ≠ gb823)); clear HO_10; clear BK822; clear BK823; clear HB; have HO_10 := n0_; have BK822 := n1_; have BK823 := n2_; have HB := n3_; have BK830 := n4_; have GW830 := n5_; have GE830 := n6_; have NB822_830 := n7_; have NB830_822 := n8_; have NB823_830 := n9_; have NB830_823 := n10_; clear n0_ n1_ n2_ n3_ n4_ n5_ n6_ n7_ n8_ n9_ n10_; clear hb hbox hg; have hnb25 := NB830_822.out; have hnc25 := NB822_830.out; have hnb26 := NB830_823.out; have hnc26 := NB823_830.out; have hcz27_0 := fz BK830.out 0 (.bool false); have hcz27_1 := fz BK830.out 1 (.slice none 0 0); have hfz27_0 := blk_frozen BK830.out 0; have hfz27_1 := blk_frozen BK830.out 1))
            try generalize (Value.agg #[Value.bool ((rd_T90 l0_1 a1).f1.f0), Value.slice A829_2 ((rd_T90 l0_1 a1).f1.f1).length c829_2]) = vnode1_
            go_loopg [10, 12, 13] kj4 (fun kq v10 v12 v13 w' => ∃ (x10_2 : List (S34)) (x12_2 : Int) (x13_2 : Int), v12 = .int .i64 x12_2 ∧ v13 = .int .i64 x13_2 ∧ Aside0 (spec_l8Search.l0 kq a3 x10_2 x12_2 x13_2 a0_0 l0_1 a2_0 a2_1 a2_2 a2_3 ((rd_T90 l0_1 a1).f1.f0) ((rd_T90 l0_1 a1).f1.f1) = some (r1, r2)) ∧ Aside0 (kq ≤ kj4) ∧ Aside0 (Kd.R k34 34 w' w.heap.size (fun _ => True) v10 x10_2) ∧ Aside0 (w'.heap[gb822]? = some (.cells #[.int .i64 a0_0, (.slice (some ad829) l0_1.length c0_1)] 49 (0, 0))) ∧ Aside0 (w'.heap[gb823]? = some (.cells #[.int .i64 a2_0, .int .i64 a2_1, .int .i64 a2_2, .int .i64 a2_3] 32 (0, 0))) ∧ Aside0 (w'.heap[gb830]? = some (.cells #[.bool ((rd_T90 l0_1 a1).f1.f0), (.slice A829_2 ((rd_T90 l0_1 a1).f1.f1).length c829_2)] 54 (0, 0))) ∧ Aside0 (Below w.heap.size w w'))
            case atStart => exact ⟨(y824), (1), (0), az, az, H', ⟨Nat.le_refl _⟩, ⟨by (with_reducible repeat (first | apply Kd.R_alloc | apply Kd.R_drewN | apply Kd.R_drew)); exact Kd.R_mono (Kd.R_far (p := ⟨gb830, 1, none⟩) (Kd.R_far (p := ⟨gb830, 0, none⟩) (Kd.R_types HO_10.out BK830.out (by decide)) (fun _ hk => hk.2) (.bool ((rd_T90 l0_1 a1).f1.f0))) (fun _ hk => hk.2) (.slice A829_2 ((rd_T90 l0_1 a1).f1.f1).length c829_2)) (fun _ hk => trivial)⟩, ⟨by (with_reducible repeat (first | refine blk_drewN ?_ _ | refine blk_drew ?_ | refine blk_alloc ?_ _)); refine blk_far ?_ NB822_830.out _; (with_reducible repeat (first | refine blk_drewN ?_ _ | refine blk_drew ?_ | refine blk_alloc ?_ _)); refine blk_far ?_ NB822_830.out _; (with_reducible repeat (first | refine blk_drewN ?_ _ | refine blk_drew ?_ | refine blk_alloc ?_ _)); exact BK822.out⟩, ⟨by (with_reducible repeat (first | refine blk_drewN ?_ _ | refine blk_drew ?_ | refine blk_alloc ?_ _)); refine blk_far ?_ NB823_830.out _; (with_reducible repeat (first | refine blk_drewN ?_ _ | refine blk_drew ?_ | refine blk_alloc ?_ _)); refine blk_far ?_ NB823_830.out _; (with_reducible repeat (first | refine blk_drewN ?_ _ | refine blk_drew ?_ | refine blk_alloc ?_ _)); exact BK823.out⟩, ⟨by (with_reducible repeat (first | refine blk_drewN ?_ _ | refine blk_drew ?_ | refine blk_alloc ?_ _)); refine blk_put (cs := #[.bool ((rd_T90 l0_1 a1).f1.f0), .slice none 0 0]) ?_ 1 _ rfl; (with_reducible repeat (first | refine blk_drewN ?_ _ | refine blk_drew ?_ | refine blk_alloc ?_ _)); refine blk_put (cs := #[.bool false, .slice none 0 0]) ?_ 0 _ rfl; (with_reducible repeat (first | refine blk_drewN ?_ _ | refine blk_drew ?_ | refine blk_alloc ?_ _)); exact BK830.out⟩, ⟨by repeat (first | (with_reducible first | exact HB.out | apply below_alloc | apply pw_below_drewN | apply below_drew1 | refine below_set ?_ GE822.out | refine below_set ?_ GE823.out | refine below_set ?_ GE830.out) | exact HB.out)⟩⟩
            case round =>
              clear H'; (try clear c1); (try clear c2); (try clear p2); (try clear p6); (try clear c8); (try clear p8); (try clear q8); (try clear hx8); (try clear c9); (try clear c10); (try clear c10b0); (try clear c12); (try clear c13); (try clear c13b0); (try clear c14); (try clear c14b0); (try clear c15); (try clear c17); (try clear c19); (try clear c20); (try clear c20b0); (try clear c21); (try clear c21b0); (try clear c22); (try clear c25); (try clear c26); (try clear hcz16_0); (try clear hcz16_1); (try clear hcz18_0); (try clear hcz18_1); (try clear hcz23_0); (try clear hcz23_1); (try clear hcz27_0); (try clear hcz27_1); (try clear hfz16_0); (try clear hfz16_1); (try clear hfz18_0); (try clear hfz18_1); (try clear hfz23_0); (try clear hfz23_1); (try clear hfz27_0); (try clear hfz27_1); (try clear hx828_0); (try clear hx828_1); (try clear hx828_2); (try clear hx829_0); (try clear hx829_1); (try clear hx829_2); (try clear p2); (try clear p6); (try clear p8); (try clear p828); (try clear p829); (try clear q8); (try clear q828); (try clear q829); obtain ⟨x10_2, x12_2, x13_2, rfl, rfl, HA, HK2, HO_10, BK822, BK823, BK830, HB⟩ := hrel
              cases gk with
              | zero => exact absurd HA.out (by simp [spec_l8Search.l0])
              | succ k2 =>
                have H := HA.out; clear HA
                simp only [spec_l8Search.l0] at H
                by_cases c28 : x13_2 < (((rd_T90 l0_1 a1).f1.f1).length : Int)
                · rw [if_pos c28] at H
                  have c28b0 : decide (x13_2 < (((rd_T90 l0_1 a1).f1.f1).length : Int)) = true := decide_eq_true c28; clear c28
                  by_cases c29 : 0 ≤ x13_2
                  · rw [if_pos c29] at H
                    have c29b0 : decide (0 ≤ x13_2) = true := decide_eq_true c29; clear c29; replace H := Option.bind_eq_some_iff.mp H; obtain ⟨t832, A300, H⟩ := H; replace H : (if t832 = true then (if ((rd_T90 l0_1 a1).f1.f0) = true then (if x10_2.length < 3518437208883 then (spec_l8Search.l0 k2 a3 (x10_2 ++ [(⟨(rd_T103 ((rd_T90 l0_1 a1).f1.f1) x13_2).f0, (⟨(rd_T103 ((rd_T90 l0_1 a1).f1.f1) x13_2).f1.f0, (rd_T103 ((rd_T90 l0_1 a1).f1.f1) x13_2).f1.f1, (rd_T103 ((rd_T90 l0_1 a1).f1.f1) x13_2).f1.f2, (rd_T103 ((rd_T90 l0_1 a1).f1.f1) x13_2).f1.f3⟩ : S32)⟩ : S34)]) x12_2 (wrap64 (x13_2 + 1)) a0_0 l0_1 a2_0 a2_1 a2_2 a2_3 ((rd_T90 l0_1 a1).f1.f0) ((rd_T90 l0_1 a1).f1.f1)) else (none)) else ((spec_l8Search.f k2 a0_0 l0_1 ((rd_T103 ((rd_T90 l0_1 a1).f1.f1) x13_2).f0) a2_0 a2_1 a2_2 a2_3 (wrap64 (a3 + 1))).bind fun bt839 => (if x10_2.length + bt839.1.length < 3518437208883 then (spec_l8Search.l0 k2 a3 (x10_2 ++ bt839.1) (wrap64 (x12_2 + bt839.2)) (wrap64 (x13_2 + 1)) a0_0 l0_1 a2_0 a2_1 a2_2 a2_3 ((rd_T90 l0_1 a1).f1.f0) ((rd_T90 l0_1 a1).f1.f1)) else (none)))) else (spec_l8Search.l0 k2 a3 x10_2 x12_2 (wrap64 (x13_2 + 1)) a0_0 l0_1 a2_0 a2_1 a2_2 a2_3 ((rd_T90 l0_1 a1).f1.f0) ((rd_T90 l0_1 a1).f1.f1))) = some (r1, r2) := H; have A30 := Aside0.mk A300; clear A300
                    by_cases c31 : t832 = true
                    · subst c31
                      replace H : (if ((rd_T90 l0_1 a1).f1.f0) = true then (if x10_2.length < 3518437208883 then (spec_l8Search.l0 k2 a3 (x10_2 ++ [(⟨(rd_T103 ((rd_T90 l0_1 a1).f1.f1) x13_2).f0, (⟨(rd_T103 ((rd_T90 l0_1 a1).f1.f1) x13_2).f1.f0, (rd_T103 ((rd_T90 l0_1 a1).f1.f1) x13_2).f1.f1, (rd_T103 ((rd_T90 l0_1 a1).f1.f1) x13_2).f1.f2, (rd_T103 ((rd_T90 l0_1 a1).f1.f1) x13_2).f1.f3⟩ : S32)⟩ : S34)]) x12_2 (wrap64 (x13_2 + 1)) a0_0 l0_1 a2_0 a2_1 a2_2 a2_3 ((rd_T90 l0_1 a1).f1.f0) ((rd_T90 l0_1 a1).f1.f1)) else (none)) else ((spec_l8Search.f k2 a0_0 l0_1 ((rd_T103 ((rd_T90 l0_1 a1).f1.f1) x13_2).f0) a2_0 a2_1 a2_2 a2_3 (wrap64 (a3 + 1))).bind fun bt839 => (if x10_2.length + bt839.1.length < 3518437208883 then (spec_l8Search.l0 k2 a3 (x10_2 ++ bt839.1) (wrap64 (x12_2 + bt839.2)) (wrap64 (x13_2 + 1)) a0_0 l0_1 a2_0 a2_1 a2_2 a2_3 ((rd_T90 l0_1 a1).f1.f0) ((rd_T90 l0_1 a1).f1.f1)) else (none)))) = some (r1, r2) := (by rw [if_pos rfl] at H; exact H)
                      by_cases c32 : ((rd_T90 l0_1 a1).f1.f0) = true
                      · rw [if_pos c32] at H
                        have c32b0 : ((rd_T90 l0_1 a1).f1.f0) = true := c32; clear c32
                        by_cases c33 : x10_2.length < 3518437208883
                        · rw [if_pos c33] at H
                          have LMc33 := Aside0.mk c33; clear c33; obtain ⟨y835, hy835⟩ : ∃ y_ : List (S34), y_ = (x10_2 ++ [(⟨(rd_T103 ((rd_T90 l0_1 a1).f1.f1) x13_2).f0, (⟨(rd_T103 ((rd_T90 l0_1 a1).f1.f1) x13_2).f1.f0, (rd_T103 ((rd_T90 l0_1 a1).f1.f1) x13_2).f1.f1, (rd_T103 ((rd_T90 l0_1 a1).f1.f1) x13_2).f1.f2, (rd_T103 ((rd_T90 l0_1 a1).f1.f1) x13_2).f1.f3⟩ : S32)⟩ : S34)]) := ⟨_, rfl⟩
                          replace H : (spec_l8Search.l0 k2 a3 y835 x12_2 (wrap64 (x13_2 + 1)) a0_0 l0_1 a2_0 a2_1 a2_2 a2_3 ((rd_T90 l0_1 a1).f1.f0) ((rd_T90 l0_1 a1).f1.f1)) = some (r1, r2) := by first | (rw [hy835]; with_reducible exact H) | (have H2_ := (Option.bind_some _ _).symm.trans H; rw [hy835]; with_reducible exact H2_) | (have H2_ := (Option.bind_some _ _).symm.trans H; with_reducible exact H2_) | with_reducible exact H | (rw [hy835]; exact H) | exact H
                          have Ny835 := Aside0.mk hy835; clear hy835; have H' := Aside0.mk H; clear H; have hnb34 := NB830_822.out; have hnc34 := NB822_830.out; have hnb35 := NB830_823.out; have hnc35 := NB823_830.out; have hcz36_0 : wr.cell? ⟨gb830, 0, none⟩ = some (.bool ((rd_T90 l0_1 a1).f1.f0)) := (blk_cell BK830.out 0).trans rfl; have hcz36_1 : wr.cell? ⟨gb830, 1, none⟩ = some (.slice A829_2 ((rd_T90 l0_1 a1).f1.f1).length c829_2) := (blk_cell BK830.out 1).trans rfl; have hfz36_0 := blk_frozen BK830.out 0; have hfz36_1 := blk_frozen BK830.out 1
                          try go_wp2
                          have n0_ := Aside0.mk (Kd.R_drew HO_10.out); have n1_ := Aside0.mk (blk_drew BK822.out); have n2_ := Aside0.mk (blk_drew BK823.out); have n3_ := Aside0.mk (blk_drew BK830.out); have n4_ := Aside0.mk (below_drew1 HB.out); clear HO_10; clear BK822; clear BK823; clear BK830; clear HB; have HO_10 := n0_; have BK822 := n1_; have BK823 := n2_; have BK830 := n3_; have HB := n4_; clear n0_ n1_ n2_ n3_ n4_; have p831 : 0 ≤ (x13_2 : Int) := of_decide_eq_true uz; have q831 : x13_2 < (((rd_T90 l0_1 a1).f1.f1).length : Int) := of_decide_eq_true uz; obtain ⟨ad831, e831, hx831_0, hx831_1, hx831_2, hx831_3, hx831_4⟩ := at_T103 HR829_2.out x13_2 p831 q831; have hw831_4 := hx831_4; have hw831_3 := hx831_3; have hw831_2 := hx831_2; have hw831_1 := hx831_1; have hw831_0 := hx831_0
                          cases e831
                          replace hx831_0 := cz HB.out hx831_0; replace hx831_1 := cz HB.out hx831_1; replace hx831_2 := cz HB.out hx831_2; replace hx831_3 := cz HB.out hx831_3; replace hx831_4 := cz HB.out hx831_4; replace p831 := eq_true p831; replace q831 := eq_true q831
                          refine start_ (n := 9) (S := fun w' => w'.cell? ⟨gb830, 0, none⟩ = some (.bool ((rd_T90 l0_1 a1).f1.f0)) ∧ w'.cell? ⟨gb830, 1, none⟩ = some (.slice (some ad831) ((rd_T90 l0_1 a1).f1.f1).length c829_2) ∧ w'.cell? ⟨gb823, 0, none⟩ = some (.int .i64 a2_0) ∧ w'.cell? ⟨gb823, 1, none⟩ = some (.int .i64 a2_1) ∧ w'.cell? ⟨gb823, 2, none⟩ = some (.int .i64 a2_2) ∧ w'.cell? ⟨gb823, 3, none⟩ = some (.int .i64 a2_3) ∧ w'.cell? (ad831.add ((x13_2).toNat * 5)) = some (.int .i64 ((rd_T103 ((rd_T90 l0_1 a1).f1.f1) x13_2).f0)) ∧ w'.cell? ⟨(ad831.add ((x13_2).toNat * 5)).block, (ad831.add ((x13_2).toNat * 5)).off + 1, none⟩ = some (.int .i64 ((rd_T103 ((rd_T90 l0_1 a1).f1.f1) x13_2).f1.f0)) ∧ w'.cell? ⟨(ad831.add ((x13_2).toNat * 5)).block, (ad831.add ((x13_2).toNat * 5)).off + 2, none⟩ = some (.int .i64 ((rd_T103 ((rd_T90 l0_1 a1).f1.f1) x13_2).f1.f1)) ∧ w'.cell? ⟨(ad831.add ((x13_2).toNat * 5)).block, (ad831.add ((x13_2).toNat * 5)).off + 3, none⟩ = some (.int .i64 ((rd_T103 ((rd_T90 l0_1 a1).f1.f1) x13_2).f1.f2)) ∧ w'.cell? ⟨(ad831.add ((x13_2).toNat * 5)).block, (ad831.add ((x13_2).toNat * 5)).off + 4, none⟩ = some (.int .i64 ((rd_T103 ((rd_T90 l0_1 a1).f1.f1) x13_2).f1.f3))) (ds := []) #[false, false, false, false, false, false, false, false, false] (by kernel_rfl) rfl rfl ⟨(blk_cell BK830.out 0).trans rfl, (blk_cell BK830.out 1).trans rfl, (blk_cell BK823.out 0).trans rfl, (blk_cell BK823.out 1).trans rfl, (blk_cell BK823.out 2).trans rfl, (blk_cell BK823.out 3).trans rfl, (cz HB.out hw831_0 :), (cz HB.out hw831_1 :), (cz HB.out hw831_2 :), (cz HB.out hw831_3 :), (cz HB.out hw831_4 :)⟩ (fun hHeld => ?_); refine with_tabW spec_l8Search.tab9 spec_l8Search.bits9 (fun HT_ HW_ => ?_)
                          generalize wr.drew = w37 at HO_10 BK822 BK823 BK830 HB hx831_0 hx831_1 hx831_2 hx831_3 hx831_4 hHeld ⊢
                          refine pure_ (i := 0) (N := some 51) (v := ?_) (a' := ?_) #[true, false, false, false, false, false, false, false, false] rfl rfl (any_of HT_.out (by kernel_rfl)) (fun _ _ _ h => h) (Or.inl ⟨by rfl, ?_⟩) ?_ ?_; rotate_left
                          · intro w'
                            go_simp
                            with_reducible rfl
                          rotate_left
                          · exact pz
                          refine pure_ (i := 2) (N := some 53) (v := ?_) (a' := ?_) #[true, false, true, false, false, false, false, false, false] rfl rfl (any_of HT_.out (by kernel_rfl)) (fun _ _ _ h => h) (Or.inl ⟨by rfl, ?_⟩) ?_ ?_; rotate_left
                          · intro w'
                            go_simp
                            with_reducible rfl
                          rotate_left
                          · exact pz
                          refine take_ (i := 1) (N := some 52) (v := ?_) (a' := ?_) #[true, true, true, false, false, false, false, false, false] rfl rfl (take_ofW HT_.out HW_.out (by kernel_rfl)) (fun _ _ _ h => h) (Or.inl ⟨by rfl, ?_⟩) hHeld ?_ ?_; rotate_left
                          · rintro w' ⟨s0, s1, s2, s3, s4, s5, s6, s7, s8, s9, s10⟩
                            go_simp
                            with_reducible rfl
                          rotate_left
                          · exact pz
                          refine pure_ (i := 3) (N := some 54) (v := ?_) (a' := ?_) #[true, true, true, true, false, false, false, false, false] rfl rfl (any_of HT_.out (by kernel_rfl)) (fun _ _ _ h => h) (Or.inl ⟨by rfl, ?_⟩) ?_ ?_; rotate_left
                          · intro w'
                            go_simp
                            with_reducible rfl
                          rotate_left
                          · exact pz
                          refine pure_ (i := 4) (N := some 55) (v := ?_) (a' := ?_) #[true, true, true, true, true, false, false, false, false] rfl rfl (any_of HT_.out (by kernel_rfl)) (fun _ _ _ h => h) (Or.inl ⟨by rfl, ?_⟩) ?_ ?_; rotate_left
                          · intro w'
                            go_simp
                            with_reducible rfl
                          rotate_left
                          · exact pz
                          refine take_ (i := 5) (N := some 56) (v := ?_) (a' := ?_) #[true, true, true, true, true, true, false, false, false] rfl rfl (take_ofW HT_.out HW_.out (by kernel_rfl)) (fun _ _ _ h => h) (Or.inl ⟨by rfl, ?_⟩) hHeld ?_ ?_; rotate_left
                          · rintro w' ⟨s0, s1, s2, s3, s4, s5, s6, s7, s8, s9, s10⟩
                            go_simp
                            with_reducible rfl
                          rotate_left
                          · exact pz
                          refine take_ (i := 6) (N := some 57) (v := ?_) (a' := ?_) #[true, true, true, true, true, true, true, false, false] rfl rfl (take_ofW HT_.out HW_.out (by kernel_rfl)) (fun _ _ _ h => h) (Or.inl ⟨by rfl, ?_⟩) hHeld ?_ ?_; rotate_left
                          · rintro w' ⟨s0, s1, s2, s3, s4, s5, s6, s7, s8, s9, s10⟩
                            go_simp
                            with_reducible rfl
                          rotate_left
                          · exact pz
                          refine one_ (i := 7) (N := some 58) #[true, true, true, true, true, true, true, true, false] rfl rfl (one_of HT_.out (by kernel_rfl)) (by decide) (fun K hK => ?_); refine goes_ Try.func130 (by kernel_rfl) rfl #[.agg #[.int .i64 ((rd_T103 ((rd_T90 l0_1 a1).f1.f1) x13_2).f1.f0), .int .i64 ((rd_T103 ((rd_T90 l0_1 a1).f1.f1) x13_2).f1.f1), .int .i64 ((rd_T103 ((rd_T90 l0_1 a1).f1.f1) x13_2).f1.f2), .int .i64 ((rd_T103 ((rd_T90 l0_1 a1).f1.f1) x13_2).f1.f3)], .agg #[.int .i64 a2_0, .int .i64 a2_1, .int .i64 a2_2, .int .i64 a2_3]] (by rfl) rfl rfl dz ?_
                          with_reducible refine (spec_Meets.calls ((rd_T103 ((rd_T90 l0_1 a1).f1.f1) x13_2).f1.f0) ((rd_T103 ((rd_T90 l0_1 a1).f1.f1) x13_2).f1.f1) ((rd_T103 ((rd_T90 l0_1 a1).f1.f1) x13_2).f1.f2) ((rd_T103 ((rd_T90 l0_1 a1).f1.f1) x13_2).f1.f3) a2_0 a2_1 a2_2 a2_3 true _ A30.out).mono ?_
                          rintro e w38 ⟨rfl, hb⟩
                          refine ⟨_, rfl, ?_⟩; have n0_ := Aside0.mk (Kd.R_below (rz HO_10.out) hb); have n1_ := Aside0.mk (blk_below (g := gb822) (o := .cells #[.int .i64 a0_0, .slice (some ad829) l0_1.length c0_1] 49 (0, 0)) (kz BK822.out) hb); have n2_ := Aside0.mk (blk_below (g := gb823) (o := .cells #[.int .i64 a2_0, .int .i64 a2_1, .int .i64 a2_2, .int .i64 a2_3] 32 (0, 0)) (kz BK823.out) hb); have n3_ := Aside0.mk (blk_below (g := gb830) (o := .cells #[.bool ((rd_T90 l0_1 a1).f1.f0), .slice (some ad831) ((rd_T90 l0_1 a1).f1.f1).length c829_2] 54 (0, 0)) (kz BK830.out) hb); have n4_ := Aside0.mk (below_step (by repeat (first | (with_reducible first | exact HB.out | apply below_alloc | apply pw_below_drewN | apply below_drew1 | refine below_set ?_ GE822.out | refine below_set ?_ GE823.out | refine below_set ?_ GE830.out) | exact HB.out)) hb); clear HO_10; clear BK822; clear BK823; clear BK830; clear HB; have HO_10 := n0_; have BK822 := n1_; have BK823 := n2_; have BK830 := n3_; have HB := n4_; clear n0_ n1_ n2_ n3_ n4_
                          (try clear hb)
                          (try clear hb2)
                          (try clear hk)
                          (try clear hi)
                          refine hK.out _ _ ⟨(blk_cell BK830.out 0).trans rfl, (blk_cell BK830.out 1).trans rfl, (blk_cell BK823.out 0).trans rfl, (blk_cell BK823.out 1).trans rfl, (blk_cell BK823.out 2).trans rfl, (blk_cell BK823.out 3).trans rfl, (cz HB.out hw831_0 :), (cz HB.out hw831_1 :), (cz HB.out hw831_2 :), (cz HB.out hw831_3 :), (cz HB.out hw831_4 :)⟩ (fun hHeld => ?_); clear hK K; refine norm_ (a' := ?_) ?_ ?_; rotate_left
                          · show Act.put _ (some 58) _ = _
                            simp only [Act.put, List.setIfInBounds_toArray, List.set_cons_zero, List.set_cons_succ, i64_w, i32_w]
                            rfl
                          refine pure_ (i := 8) (N := some 59) (v := ?_) (a' := ?_) #[true, true, true, true, true, true, true, true, true] rfl rfl (any_of HT_.out (by kernel_rfl)) (fun _ _ _ h => h) (Or.inl ⟨by rfl, ?_⟩) ?_ ?_; rotate_left
                          · intro w'
                            go_simp
                            with_reducible rfl
                          rotate_left
                          · exact pz
                          refine done_ (done_of HT_.out (by kernel_rfl)) ?_; have hcz39_0 : w38.cell? ⟨gb830, 0, none⟩ = some (.bool ((rd_T90 l0_1 a1).f1.f0)) := (blk_cell BK830.out 0).trans rfl; have hcz39_1 : w38.cell? ⟨gb830, 1, none⟩ = some (.slice (some ad831) ((rd_T90 l0_1 a1).f1.f1).length c829_2) := (blk_cell BK830.out 1).trans rfl; have hfz39_0 := blk_frozen BK830.out 0; have hfz39_1 := blk_frozen BK830.out 1
                          try go_wp2
                          have n0_ := Aside0.mk (Kd.R_drew HO_10.out); have n1_ := Aside0.mk (blk_drew BK822.out); have n2_ := Aside0.mk (blk_drew BK823.out); have n3_ := Aside0.mk (blk_drew BK830.out); have n4_ := Aside0.mk (below_drew1 HB.out); clear HO_10; clear BK822; clear BK823; clear BK830; clear HB; have HO_10 := n0_; have BK822 := n1_; have BK823 := n2_; have BK830 := n3_; have HB := n4_; clear n0_ n1_ n2_ n3_ n4_; have p833 : 0 ≤ (x13_2 : Int) := of_decide_eq_true uz; have q833 : x13_2 < (((rd_T90 l0_1 a1).f1.f1).length : Int) := of_decide_eq_true uz; obtain ⟨ad833, e833, hx833_0, hx833_1, hx833_2, hx833_3, hx833_4⟩ := at_T103 HR829_2.out x13_2 p833 q833; have hw833_4 := hx833_4; have hw833_3 := hx833_3; have hw833_2 := hx833_2; have hw833_1 := hx833_1; have hw833_0 := hx833_0; obtain rfl : ad831 = ad833 := (by injection e833); replace hx833_0 := cz HB.out hx833_0; replace hx833_1 := cz HB.out hx833_1; replace hx833_2 := cz HB.out hx833_2; replace hx833_3 := cz HB.out hx833_3; replace hx833_4 := cz HB.out hx833_4; replace p833 := eq_true p833; replace q833 := eq_true q833; have p834 : 0 ≤ (x13_2 : Int) := of_decide_eq_true uz; have q834 : x13_2 < (((rd_T90 l0_1 a1).f1.f1).length : Int) := of_decide_eq_true uz; obtain ⟨ad834, e834, hx834_0, hx834_1, hx834_2, hx834_3, hx834_4⟩ := at_T103 HR829_2.out x13_2 p834 q834; have hw834_4 := hx834_4; have hw834_3 := hx834_3; have hw834_2 := hx834_2; have hw834_1 := hx834_1; have hw834_0 := hx834_0; obtain rfl : ad831 = ad834 := (by injection e834); replace hx834_0 := cz HB.out hx834_0; replace hx834_1 := cz HB.out hx834_1; replace hx834_2 := cz HB.out hx834_2; replace hx834_3 := cz HB.out hx834_3; replace hx834_4 := cz HB.out hx834_4; replace p834 := eq_true p834; replace q834 := eq_true q834
                          refine start_ (n := 17) (S := fun w' => w'.cell? ⟨gb830, 0, none⟩ = some (.bool ((rd_T90 l0_1 a1).f1.f0)) ∧ w'.cell? ⟨gb830, 1, none⟩ = some (.slice (some ad831) ((rd_T90 l0_1 a1).f1.f1).length c829_2) ∧ w'.cell? (ad831.add ((x13_2).toNat * 5)) = some (.int .i64 ((rd_T103 ((rd_T90 l0_1 a1).f1.f1) x13_2).f0)) ∧ w'.cell? ⟨(ad831.add ((x13_2).toNat * 5)).block, (ad831.add ((x13_2).toNat * 5)).off + 1, none⟩ = some (.int .i64 ((rd_T103 ((rd_T90 l0_1 a1).f1.f1) x13_2).f1.f0)) ∧ w'.cell? ⟨(ad831.add ((x13_2).toNat * 5)).block, (ad831.add ((x13_2).toNat * 5)).off + 2, none⟩ = some (.int .i64 ((rd_T103 ((rd_T90 l0_1 a1).f1.f1) x13_2).f1.f1)) ∧ w'.cell? ⟨(ad831.add ((x13_2).toNat * 5)).block, (ad831.add ((x13_2).toNat * 5)).off + 3, none⟩ = some (.int .i64 ((rd_T103 ((rd_T90 l0_1 a1).f1.f1) x13_2).f1.f2)) ∧ w'.cell? ⟨(ad831.add ((x13_2).toNat * 5)).block, (ad831.add ((x13_2).toNat * 5)).off + 4, none⟩ = some (.int .i64 ((rd_T103 ((rd_T90 l0_1 a1).f1.f1) x13_2).f1.f3)) ∧ w'.cell? (ad831.add ((x13_2).toNat * 5)) = some (.int .i64 ((rd_T103 ((rd_T90 l0_1 a1).f1.f1) x13_2).f0)) ∧ w'.cell? ⟨(ad831.add ((x13_2).toNat * 5)).block, (ad831.add ((x13_2).toNat * 5)).off + 1, none⟩ = some (.int .i64 ((rd_T103 ((rd_T90 l0_1 a1).f1.f1) x13_2).f1.f0)) ∧ w'.cell? ⟨(ad831.add ((x13_2).toNat * 5)).block, (ad831.add ((x13_2).toNat * 5)).off + 2, none⟩ = some (.int .i64 ((rd_T103 ((rd_T90 l0_1 a1).f1.f1) x13_2).f1.f1)) ∧ w'.cell? ⟨(ad831.add ((x13_2).toNat * 5)).block, (ad831.add ((x13_2).toNat * 5)).off + 3, none⟩ = some (.int .i64 ((rd_T103 ((rd_T90 l0_1 a1).f1.f1) x13_2).f1.f2)) ∧ w'.cell? ⟨(ad831.add ((x13_2).toNat * 5)).block, (ad831.add ((x13_2).toNat * 5)).off + 4, none⟩ = some (.int .i64 ((rd_T103 ((rd_T90 l0_1 a1).f1.f1) x13_2).f1.f3))) (ds := []) #[false, false, false, false, false, false, false, false, false, false, false, false, false, false, false, false, false] (by kernel_rfl) rfl rfl ⟨(blk_cell BK830.out 0).trans rfl, (blk_cell BK830.out 1).trans rfl, (cz HB.out hw833_0 :), (cz HB.out hw833_1 :), (cz HB.out hw833_2 :), (cz HB.out hw833_3 :), (cz HB.out hw833_4 :), (cz HB.out hw834_0 :), (cz HB.out hw834_1 :), (cz HB.out hw834_2 :), (cz HB.out hw834_3 :), (cz HB.out hw834_4 :)⟩ (fun hHeld => ?_); refine with_tabW spec_l8Search.tab11 spec_l8Search.bits11 (fun HT_ HW_ => ?_)
                          generalize w38.drew = w40 at HO_10 BK822 BK823 BK830 HB hx833_0 hx833_1 hx833_2 hx833_3 hx833_4 hx834_0 hx834_1 hx834_2 hx834_3 hx834_4 hHeld ⊢
                          refine pure_ (i := 0) (N := some 62) (v := ?_) (a' := ?_) #[true, false, false, false, false, false, false, false, false, false, false, false, false, false, false, false, false] rfl rfl (any_of HT_.out (by kernel_rfl)) (fun _ _ _ h => h) (Or.inl ⟨by rfl, ?_⟩) ?_ ?_; rotate_left
                          · intro w'
                            go_simp
                            with_reducible rfl
                          rotate_left
                          · exact pz
                          refine pure_ (i := 1) (N := some 63) (v := ?_) (a' := ?_) #[true, true, false, false, false, false, false, false, false, false, false, false, false, false, false, false, false] rfl rfl (any_of HT_.out (by kernel_rfl)) (fun _ _ _ h => h) (Or.inl ⟨by rfl, ?_⟩) ?_ ?_; rotate_left
                          · intro w'
                            go_simp
                            with_reducible rfl
                          rotate_left
                          · exact pz
                          refine pure_ (i := 3) (N := some 65) (v := ?_) (a' := ?_) #[true, true, false, true, false, false, false, false, false, false, false, false, false, false, false, false, false] rfl rfl (any_of HT_.out (by kernel_rfl)) (fun _ _ _ h => h) (Or.inl ⟨by rfl, ?_⟩) ?_ ?_; rotate_left
                          · intro w'
                            go_simp
                            with_reducible rfl
                          rotate_left
                          · exact pz
                          refine pure_ (i := 7) (N := some 69) (v := ?_) (a' := ?_) #[true, true, false, true, false, false, false, true, false, false, false, false, false, false, false, false, false] rfl rfl (any_of HT_.out (by kernel_rfl)) (fun _ _ _ h => h) (Or.inl ⟨by rfl, ?_⟩) ?_ ?_; rotate_left
                          · intro w'
                            go_simp
                            with_reducible rfl
                          rotate_left
                          · exact pz
                          refine pure_ (i := 9) (N := some 71) (v := ?_) (a' := ?_) #[true, true, false, true, false, false, false, true, false, true, false, false, false, false, false, false, false] rfl rfl (any_of HT_.out (by kernel_rfl)) (fun _ _ _ h => h) (Or.inl ⟨by rfl, ?_⟩) ?_ ?_; rotate_left
                          · intro w'
                            go_simp
                            with_reducible rfl
                          rotate_left
                          · exact pz
                          refine take_ (i := 2) (N := some 64) (v := ?_) (a' := ?_) #[true, true, true, true, false, false, false, true, false, true, false, false, false, false, false, false, false] rfl rfl (take_ofW HT_.out HW_.out (by kernel_rfl)) (fun _ _ _ h => h) (Or.inl ⟨by rfl, ?_⟩) hHeld ?_ ?_; rotate_left
                          · rintro w' ⟨s0, s1, s2, s3, s4, s5, s6, s7, s8, s9, s10, s11⟩
                            go_simp
                            with_reducible rfl
                          rotate_left
                          · exact pz
                          refine pure_ (i := 4) (N := some 66) (v := ?_) (a' := ?_) #[true, true, true, true, true, false, false, true, false, true, false, false, false, false, false, false, false] rfl rfl (any_of HT_.out (by kernel_rfl)) (fun _ _ _ h => h) (Or.inl ⟨by rfl, ?_⟩) ?_ ?_; rotate_left
                          · intro w'
                            go_simp
                            with_reducible rfl
                          rotate_left
                          · exact pz
                          refine pure_ (i := 5) (N := some 67) (v := ?_) (a' := ?_) #[true, true, true, true, true, true, false, true, false, true, false, false, false, false, false, false, false] rfl rfl (any_of HT_.out (by kernel_rfl)) (fun _ _ _ h => h) (Or.inl ⟨by rfl, ?_⟩) ?_ ?_; rotate_left
                          · intro w'
                            go_simp
                            with_reducible rfl
                          rotate_left
                          · exact pz
                          refine take_ (i := 6) (N := some 68) (v := ?_) (a' := ?_) #[true, true, true, true, true, true, true, true, false, true, false, false, false, false, false, false, false] rfl rfl (take_ofW HT_.out HW_.out (by kernel_rfl)) (fun _ _ _ h => h) (Or.inl ⟨by rfl, ?_⟩) hHeld ?_ ?_; rotate_left
                          · rintro w' ⟨s0, s1, s2, s3, s4, s5, s6, s7, s8, s9, s10, s11⟩
                            go_simp
                            with_reducible rfl
                          rotate_left
                          · exact pz
                          refine take_ (i := 8) (N := some 70) (v := ?_) (a' := ?_) #[true, true, true, true, true, true, true, true, true, true, false, false, false, false, false, false, false] rfl rfl (take_ofW HT_.out HW_.out (by kernel_rfl)) (fun _ _ _ h => h) (Or.inl ⟨by rfl, ?_⟩) hHeld ?_ ?_; rotate_left
                          · rintro w' ⟨s0, s1, s2, s3, s4, s5, s6, s7, s8, s9, s10, s11⟩
                            go_simp
                            with_reducible rfl
                          rotate_left
                          · exact pz
                          refine pure_ (i := 10) (N := some 72) (v := ?_) (a' := ?_) #[true, true, true, true, true, true, true, true, true, true, true, false, false, false, false, false, false] rfl rfl (any_of HT_.out (by kernel_rfl)) (fun _ _ _ h => h) (Or.inl ⟨by rfl, ?_⟩) ?_ ?_; rotate_left
                          · intro w'
                            go_simp
                            with_reducible rfl
                          rotate_left
                          · exact pz
                          refine pure_ (i := 11) (N := some 73) (v := ?_) (a' := ?_) #[true, true, true, true, true, true, true, true, true, true, true, true, false, false, false, false, false] rfl rfl (any_of HT_.out (by kernel_rfl)) (fun _ _ _ h => h) (Or.inl ⟨by rfl, ?_⟩) ?_ ?_; rotate_left
                          · intro w'
                            go_simp
                            with_reducible rfl
                          rotate_left
                          · exact pz
                          refine take_ (i := 12) (N := some 74) (v := ?_) (a' := ?_) #[true, true, true, true, true, true, true, true, true, true, true, true, true, false, false, false, false] rfl rfl (take_ofW HT_.out HW_.out (by kernel_rfl)) (fun _ _ _ h => h) (Or.inl ⟨by rfl, ?_⟩) hHeld ?_ ?_; rotate_left
                          · rintro w' ⟨s0, s1, s2, s3, s4, s5, s6, s7, s8, s9, s10, s11⟩
                            go_simp
                            with_reducible rfl
                          rotate_left
                          · exact pz
                          refine pure_ (i := 13) (N := some 75) (v := ?_) (a' := ?_) #[true, true, true, true, true, true, true, true, true, true, true, true, true, true, false, false, false] rfl rfl (any_of HT_.out (by kernel_rfl)) (fun _ _ _ h => h) (Or.inl ⟨by rfl, ?_⟩) ?_ ?_; rotate_left
                          · intro w'
                            go_simp
                            with_reducible rfl
                          rotate_left
                          · exact pz
                          refine one_ (i := 14) (N := some 76) #[true, true, true, true, true, true, true, true, true, true, true, true, true, true, true, false, false] rfl rfl (one_of HT_.out (by kernel_rfl)) (by decide) (fun K hK => ?_); refine value_ (w1 := ?_) (v := ?_) (by rfl) rfl ?_ ?_
                          rotate_left 2
                          · go_simp
                            constructor
                            · rfl
                            · rfl
                          refine hK.out _ _ ⟨(blk_cell (blk_alloc BK830.out _) 0).trans rfl, (blk_cell (blk_alloc BK830.out _) 1).trans rfl, (World.cell?_alloc_lt _ _ _ (World.block_lt_of_cell? _ _ ((cz HB.out hw833_0 :)))).trans ((cz HB.out hw833_0 :)), (World.cell?_alloc_lt _ _ _ (World.block_lt_of_cell? _ _ ((cz HB.out hw833_1 :)))).trans ((cz HB.out hw833_1 :)), (World.cell?_alloc_lt _ _ _ (World.block_lt_of_cell? _ _ ((cz HB.out hw833_2 :)))).trans ((cz HB.out hw833_2 :)), (World.cell?_alloc_lt _ _ _ (World.block_lt_of_cell? _ _ ((cz HB.out hw833_3 :)))).trans ((cz HB.out hw833_3 :)), (World.cell?_alloc_lt _ _ _ (World.block_lt_of_cell? _ _ ((cz HB.out hw833_4 :)))).trans ((cz HB.out hw833_4 :)), (World.cell?_alloc_lt _ _ _ (World.block_lt_of_cell? _ _ ((cz HB.out hw834_0 :)))).trans ((cz HB.out hw834_0 :)), (World.cell?_alloc_lt _ _ _ (World.block_lt_of_cell? _ _ ((cz HB.out hw834_1 :)))).trans ((cz HB.out hw834_1 :)), (World.cell?_alloc_lt _ _ _ (World.block_lt_of_cell? _ _ ((cz HB.out hw834_2 :)))).trans ((cz HB.out hw834_2 :)), (World.cell?_alloc_lt _ _ _ (World.block_lt_of_cell? _ _ ((cz HB.out hw834_3 :)))).trans ((cz HB.out hw834_3 :)), (World.cell?_alloc_lt _ _ _ (World.block_lt_of_cell? _ _ ((cz HB.out hw834_4 :)))).trans ((cz HB.out hw834_4 :))⟩ (fun hHeld => ?_); clear hK K; refine norm_ (a' := ?_) ?_ ?_; rotate_left
                          · show Act.put _ (some 76) _ = _
                            simp only [Act.put, List.setIfInBounds_toArray, List.set_cons_zero, List.set_cons_succ, i64_w, i32_w]
                            rfl
                          refine one_ (i := 15) (N := some 77) #[true, true, true, true, true, true, true, true, true, true, true, true, true, true, true, true, false] rfl rfl (one_of HT_.out (by kernel_rfl)) (by decide) (fun K hK => ?_); refine Kd.R_append_step k34 (w0 := w) w.heap.size (by rfl) (.tmp 62) (.tmp 76) 28 34 (.agg #[(.int .i64 0), (.int .i64 0), (.int .i64 0), (.int .i64 0), (.int .i64 0)]) 40 rfl Try.underlying28 info34 rfl (by decide) (by omega) u10 x10_2 (⟨(rd_T103 ((rd_T90 l0_1 a1).f1.f1) x13_2).f0, (⟨(rd_T103 ((rd_T90 l0_1 a1).f1.f1) x13_2).f1.f0, (rd_T103 ((rd_T90 l0_1 a1).f1.f1) x13_2).f1.f1, (rd_T103 ((rd_T90 l0_1 a1).f1.f1) x13_2).f1.f2, (rd_T103 ((rd_T90 l0_1 a1).f1.f1) x13_2).f1.f3⟩ : S32)⟩ : S34) [.int .i64 ((rd_T103 ((rd_T90 l0_1 a1).f1.f1) x13_2).f0), .int .i64 ((rd_T103 ((rd_T90 l0_1 a1).f1.f1) x13_2).f1.f0), .int .i64 ((rd_T103 ((rd_T90 l0_1 a1).f1.f1) x13_2).f1.f1), .int .i64 ((rd_T103 ((rd_T90 l0_1 a1).f1.f1) x13_2).f1.f2), .int .i64 ((rd_T103 ((rd_T90 l0_1 a1).f1.f1) x13_2).f1.f3)] (fun _ => True) (fun _ => False) rfl rfl ?aP (fun _ hk => hk.elim) ?aF ?aO ?aB ?aS ?aL ?_
                          (case aP => exact k34_mkM _ _ _ (⟨(rd_T103 ((rd_T90 l0_1 a1).f1.f1) x13_2).f0, (⟨(rd_T103 ((rd_T90 l0_1 a1).f1.f1) x13_2).f1.f0, (rd_T103 ((rd_T90 l0_1 a1).f1.f1) x13_2).f1.f1, (rd_T103 ((rd_T90 l0_1 a1).f1.f1) x13_2).f1.f2, (rd_T103 ((rd_T90 l0_1 a1).f1.f1) x13_2).f1.f3⟩ : S32)⟩ : S34))
                          (case aB => exact (by repeat (first | (with_reducible first | exact HB.out | apply below_alloc | apply pw_below_drewN | apply below_drew1 | refine below_set ?_ GE822.out | refine below_set ?_ GE823.out | refine below_set ?_ GE830.out) | exact HB.out)))
                          (case aF => exact (fun _ _ => trivial))
                          (case aO => exact (rz HO_10.out))
                          (case aS => exact (below_size (by repeat (first | (with_reducible first | exact HB.out | apply below_alloc | apply pw_below_drewN | apply below_drew1 | refine below_set ?_ GE822.out | refine below_set ?_ GE823.out | refine below_set ?_ GE830.out) | exact HB.out))))
                          (case aL => have := LMc33.out; omega)
                          intro v836 w41 ho hb hg hat
                          rw [← Ny835.out] at ho; have n0_ := Aside0.mk (blk_grown (g := gb822) (o := .cells #[.int .i64 a0_0, .slice (some ad829) l0_1.length c0_1] 49 (0, 0)) (kz BK822.out) hg (Kd.R_ne HO_10.out BK822.out (by decide))); have n1_ := Aside0.mk (blk_grown (g := gb823) (o := .cells #[.int .i64 a2_0, .int .i64 a2_1, .int .i64 a2_2, .int .i64 a2_3] 32 (0, 0)) (kz BK823.out) hg (Kd.R_ne HO_10.out BK823.out (by decide))); have n2_ := Aside0.mk (blk_grown (g := gb830) (o := .cells #[.bool ((rd_T90 l0_1 a1).f1.f0), .slice (some ad831) ((rd_T90 l0_1 a1).f1.f1).length c829_2] 54 (0, 0)) (kz BK830.out) hg (Kd.R_ne HO_10.out BK830.out (by decide))); have n3_ := Aside0.mk (hb); have n4_ := Aside0.mk (ho); clear BK822; clear BK823; clear BK830; clear HB; clear HO_10; have BK822 := n0_; have BK823 := n1_; have BK830 := n2_; have HB := n3_; have HO837 := n4_; clear n0_ n1_ n2_ n3_ n4_; clear ho hb hg hat; refine hK.out _ _ ⟨(blk_cell BK830.out 0).trans rfl, (blk_cell BK830.out 1).trans rfl, (cz HB.out hw833_0 :), (cz HB.out hw833_1 :), (cz HB.out hw833_2 :), (cz HB.out hw833_3 :), (cz HB.out hw833_4 :), (cz HB.out hw834_0 :), (cz HB.out hw834_1 :), (cz HB.out hw834_2 :), (cz HB.out hw834_3 :), (cz HB.out hw834_4 :)⟩ (fun hHeld => ?_); clear hK K; refine norm_ (a' := ?_) ?_ ?_; rotate_left
                          · show Act.put _ (some 77) _ = _
                            simp only [Act.put, List.setIfInBounds_toArray, List.set_cons_zero, List.set_cons_succ, i64_w, i32_w]
                            rfl
                          refine pure_ (i := 16) (N := some 10) (v := ?_) (a' := ?_) #[true, true, true, true, true, true, true, true, true, true, true, true, true, true, true, true, true] rfl rfl (any_of HT_.out (by kernel_rfl)) (fun _ _ _ h => h) (Or.inl ⟨by rfl, ?_⟩) ?_ ?_; rotate_left
                          · intro w'
                            go_simp
                            with_reducible rfl
                          rotate_left
                          · exact pz
                          refine done_ (done_of HT_.out (by kernel_rfl)) ?_
                          try go_wp2
                          go_roundg k2
                          case measure => have := HJ4.out; have := HK2.out; omega
                          case rel => exact ⟨(y835), (x12_2), (wrap64 (x13_2 + 1)), az, az, H', ⟨by have := HJ4.out; have := HK2.out; omega⟩, ⟨rz HO837.out⟩, ⟨kz BK822.out⟩, ⟨kz BK823.out⟩, ⟨kz BK830.out⟩, ⟨by repeat (first | (with_reducible first | exact HB.out | apply below_alloc | apply pw_below_drewN | apply below_drew1 | refine below_set ?_ GE822.out | refine below_set ?_ GE823.out | refine below_set ?_ GE830.out) | exact HB.out)⟩⟩
                        · rw [if_neg c33] at H
                          exact absurd H (by simp)
                      · rw [if_neg c32] at H
                        have c32b0 : ((rd_T90 l0_1 a1).f1.f0) = false := by simpa using c32
                        clear c32; replace H := Option.bind_eq_some_iff.mp H; obtain ⟨⟨t839, t842⟩, A420, H⟩ := H; replace H : (if x10_2.length + t839.length < 3518437208883 then (spec_l8Search.l0 k2 a3 (x10_2 ++ t839) (wrap64 (x12_2 + t842)) (wrap64 (x13_2 + 1)) a0_0 l0_1 a2_0 a2_1 a2_2 a2_3 ((rd_T90 l0_1 a1).f1.f0) ((rd_T90 l0_1 a1).f1.f1)) else (none)) = some (r1, r2) := H; have A42 := Aside0.mk A420; clear A420
                        by_cases c43 : x10_2.length + t839.length < 3518437208883
                        · rw [if_pos c43] at H
                          have LMc43 := Aside0.mk c43; clear c43; obtain ⟨y843, hy843⟩ : ∃ y_ : List (S34), y_ = (x10_2 ++ t839) := ⟨_, rfl⟩
                          replace H : (spec_l8Search.l0 k2 a3 y843 (wrap64 (x12_2 + t842)) (wrap64 (x13_2 + 1)) a0_0 l0_1 a2_0 a2_1 a2_2 a2_3 ((rd_T90 l0_1 a1).f1.f0) ((rd_T90 l0_1 a1).f1.f1)) = some (r1, r2) := by first | (rw [hy843]; with_reducible exact H) | (have H2_ := (Option.bind_some _ _).symm.trans H; rw [hy843]; with_reducible exact H2_) | (have H2_ := (Option.bind_some _ _).symm.trans H; with_reducible exact H2_) | with_reducible exact H | (rw [hy843]; exact H) | exact H
                          have Ny843 := Aside0.mk hy843; clear hy843; have H' := Aside0.mk H; clear H; have hnb44 := NB830_822.out; have hnc44 := NB822_830.out; have hnb45 := NB830_823.out; have hnc45 := NB823_830.out; have hcz46_0 : wr.cell? ⟨gb830, 0, none⟩ = some (.bool ((rd_T90 l0_1 a1).f1.f0)) := (blk_cell BK830.out 0).trans rfl; have hcz46_1 : wr.cell? ⟨gb830, 1, none⟩ = some (.slice A829_2 ((rd_T90 l0_1 a1).f1.f1).length c829_2) := (blk_cell BK830.out 1).trans rfl; have hfz46_0 := blk_frozen BK830.out 0; have hfz46_1 := blk_frozen BK830.out 1
                          try go_wp2
                          have n0_ := Aside0.mk (Kd.R_drew HO_10.out); have n1_ := Aside0.mk (blk_drew BK822.out); have n2_ := Aside0.mk (blk_drew BK823.out); have n3_ := Aside0.mk (blk_drew BK830.out); have n4_ := Aside0.mk (below_drew1 HB.out); clear HO_10; clear BK822; clear BK823; clear BK830; clear HB; have HO_10 := n0_; have BK822 := n1_; have BK823 := n2_; have BK830 := n3_; have HB := n4_; clear n0_ n1_ n2_ n3_ n4_; have p831 : 0 ≤ (x13_2 : Int) := of_decide_eq_true uz; have q831 : x13_2 < (((rd_T90 l0_1 a1).f1.f1).length : Int) := of_decide_eq_true uz; obtain ⟨ad831, e831, hx831_0, hx831_1, hx831_2, hx831_3, hx831_4⟩ := at_T103 HR829_2.out x13_2 p831 q831; have hw831_4 := hx831_4; have hw831_3 := hx831_3; have hw831_2 := hx831_2; have hw831_1 := hx831_1; have hw831_0 := hx831_0
                          cases e831
                          replace hx831_0 := cz HB.out hx831_0; replace hx831_1 := cz HB.out hx831_1; replace hx831_2 := cz HB.out hx831_2; replace hx831_3 := cz HB.out hx831_3; replace hx831_4 := cz HB.out hx831_4; replace p831 := eq_true p831; replace q831 := eq_true q831
                          refine start_ (n := 9) (S := fun w' => w'.cell? ⟨gb830, 0, none⟩ = some (.bool ((rd_T90 l0_1 a1).f1.f0)) ∧ w'.cell? ⟨gb830, 1, none⟩ = some (.slice (some ad831) ((rd_T90 l0_1 a1).f1.f1).length c829_2) ∧ w'.cell? ⟨gb823, 0, none⟩ = some (.int .i64 a2_0) ∧ w'.cell? ⟨gb823, 1, none⟩ = some (.int .i64 a2_1) ∧ w'.cell? ⟨gb823, 2, none⟩ = some (.int .i64 a2_2) ∧ w'.cell? ⟨gb823, 3, none⟩ = some (.int .i64 a2_3) ∧ w'.cell? (ad831.add ((x13_2).toNat * 5)) = some (.int .i64 ((rd_T103 ((rd_T90 l0_1 a1).f1.f1) x13_2).f0)) ∧ w'.cell? ⟨(ad831.add ((x13_2).toNat * 5)).block, (ad831.add ((x13_2).toNat * 5)).off + 1, none⟩ = some (.int .i64 ((rd_T103 ((rd_T90 l0_1 a1).f1.f1) x13_2).f1.f0)) ∧ w'.cell? ⟨(ad831.add ((x13_2).toNat * 5)).block, (ad831.add ((x13_2).toNat * 5)).off + 2, none⟩ = some (.int .i64 ((rd_T103 ((rd_T90 l0_1 a1).f1.f1) x13_2).f1.f1)) ∧ w'.cell? ⟨(ad831.add ((x13_2).toNat * 5)).block, (ad831.add ((x13_2).toNat * 5)).off + 3, none⟩ = some (.int .i64 ((rd_T103 ((rd_T90 l0_1 a1).f1.f1) x13_2).f1.f2)) ∧ w'.cell? ⟨(ad831.add ((x13_2).toNat * 5)).block, (ad831.add ((x13_2).toNat * 5)).off + 4, none⟩ = some (.int .i64 ((rd_T103 ((rd_T90 l0_1 a1).f1.f1) x13_2).f1.f3))) (ds := []) #[false, false, false, false, false, false, false, false, false] (by kernel_rfl) rfl rfl ⟨(blk_cell BK830.out 0).trans rfl, (blk_cell BK830.out 1).trans rfl, (blk_cell BK823.out 0).trans rfl, (blk_cell BK823.out 1).trans rfl, (blk_cell BK823.out 2).trans rfl, (blk_cell BK823.out 3).trans rfl, (cz HB.out hw831_0 :), (cz HB.out hw831_1 :), (cz HB.out hw831_2 :), (cz HB.out hw831_3 :), (cz HB.out hw831_4 :)⟩ (fun hHeld => ?_); refine with_tabW spec_l8Search.tab9 spec_l8Search.bits9 (fun HT_ HW_ => ?_)
                          generalize wr.drew = w47 at HO_10 BK822 BK823 BK830 HB hx831_0 hx831_1 hx831_2 hx831_3 hx831_4 hHeld ⊢
                          refine pure_ (i := 0) (N := some 51) (v := ?_) (a' := ?_) #[true, false, false, false, false, false, false, false, false] rfl rfl (any_of HT_.out (by kernel_rfl)) (fun _ _ _ h => h) (Or.inl ⟨by rfl, ?_⟩) ?_ ?_; rotate_left
                          · intro w'
                            go_simp
                            with_reducible rfl
                          rotate_left
                          · exact pz
                          refine pure_ (i := 2) (N := some 53) (v := ?_) (a' := ?_) #[true, false, true, false, false, false, false, false, false] rfl rfl (any_of HT_.out (by kernel_rfl)) (fun _ _ _ h => h) (Or.inl ⟨by rfl, ?_⟩) ?_ ?_; rotate_left
                          · intro w'
                            go_simp
                            with_reducible rfl
                          rotate_left
                          · exact pz
                          refine take_ (i := 1) (N := some 52) (v := ?_) (a' := ?_) #[true, true, true, false, false, false, false, false, false] rfl rfl (take_ofW HT_.out HW_.out (by kernel_rfl)) (fun _ _ _ h => h) (Or.inl ⟨by rfl, ?_⟩) hHeld ?_ ?_; rotate_left
                          · rintro w' ⟨s0, s1, s2, s3, s4, s5, s6, s7, s8, s9, s10⟩
                            go_simp
                            with_reducible rfl
                          rotate_left
                          · exact pz
                          refine pure_ (i := 3) (N := some 54) (v := ?_) (a' := ?_) #[true, true, true, true, false, false, false, false, false] rfl rfl (any_of HT_.out (by kernel_rfl)) (fun _ _ _ h => h) (Or.inl ⟨by rfl, ?_⟩) ?_ ?_; rotate_left
                          · intro w'
                            go_simp
                            with_reducible rfl
                          rotate_left
                          · exact pz
                          refine pure_ (i := 4) (N := some 55) (v := ?_) (a' := ?_) #[true, true, true, true, true, false, false, false, false] rfl rfl (any_of HT_.out (by kernel_rfl)) (fun _ _ _ h => h) (Or.inl ⟨by rfl, ?_⟩) ?_ ?_; rotate_left
                          · intro w'
                            go_simp
                            with_reducible rfl
                          rotate_left
                          · exact pz
                          refine take_ (i := 5) (N := some 56) (v := ?_) (a' := ?_) #[true, true, true, true, true, true, false, false, false] rfl rfl (take_ofW HT_.out HW_.out (by kernel_rfl)) (fun _ _ _ h => h) (Or.inl ⟨by rfl, ?_⟩) hHeld ?_ ?_; rotate_left
                          · rintro w' ⟨s0, s1, s2, s3, s4, s5, s6, s7, s8, s9, s10⟩
                            go_simp
                            with_reducible rfl
                          rotate_left
                          · exact pz
                          refine take_ (i := 6) (N := some 57) (v := ?_) (a' := ?_) #[true, true, true, true, true, true, true, false, false] rfl rfl (take_ofW HT_.out HW_.out (by kernel_rfl)) (fun _ _ _ h => h) (Or.inl ⟨by rfl, ?_⟩) hHeld ?_ ?_; rotate_left
                          · rintro w' ⟨s0, s1, s2, s3, s4, s5, s6, s7, s8, s9, s10⟩
                            go_simp
                            with_reducible rfl
                          rotate_left
                          · exact pz
                          refine one_ (i := 7) (N := some 58) #[true, true, true, true, true, true, true, true, false] rfl rfl (one_of HT_.out (by kernel_rfl)) (by decide) (fun K hK => ?_); refine goes_ Try.func130 (by kernel_rfl) rfl #[.agg #[.int .i64 ((rd_T103 ((rd_T90 l0_1 a1).f1.f1) x13_2).f1.f0), .int .i64 ((rd_T103 ((rd_T90 l0_1 a1).f1.f1) x13_2).f1.f1), .int .i64 ((rd_T103 ((rd_T90 l0_1 a1).f1.f1) x13_2).f1.f2), .int .i64 ((rd_T103 ((rd_T90 l0_1 a1).f1.f1) x13_2).f1.f3)], .agg #[.int .i64 a2_0, .int .i64 a2_1, .int .i64 a2_2, .int .i64 a2_3]] (by rfl) rfl rfl dz ?_
                          with_reducible refine (spec_Meets.calls ((rd_T103 ((rd_T90 l0_1 a1).f1.f1) x13_2).f1.f0) ((rd_T103 ((rd_T90 l0_1 a1).f1.f1) x13_2).f1.f1) ((rd_T103 ((rd_T90 l0_1 a1).f1.f1) x13_2).f1.f2) ((rd_T103 ((rd_T90 l0_1 a1).f1.f1) x13_2).f1.f3) a2_0 a2_1 a2_2 a2_3 true _ A30.out).mono ?_
                          rintro e w48 ⟨rfl, hb⟩
                          refine ⟨_, rfl, ?_⟩; have n0_ := Aside0.mk (Kd.R_below (rz HO_10.out) hb); have n1_ := Aside0.mk (blk_below (g := gb822) (o := .cells #[.int .i64 a0_0, .slice (some ad829) l0_1.length c0_1] 49 (0, 0)) (kz BK822.out) hb); have n2_ := Aside0.mk (blk_below (g := gb823) (o := .cells #[.int .i64 a2_0, .int .i64 a2_1, .int .i64 a2_2, .int .i64 a2_3] 32 (0, 0)) (kz BK823.out) hb); have n3_ := Aside0.mk (blk_below (g := gb830) (o := .cells #[.bool ((rd_T90 l0_1 a1).f1.f0), .slice (some ad831) ((rd_T90 l0_1 a1).f1.f1).length c829_2] 54 (0, 0)) (kz BK830.out) hb); have n4_ := Aside0.mk (below_step (by repeat (first | (with_reducible first | exact HB.out | apply below_alloc | apply pw_below_drewN | apply below_drew1 | refine below_set ?_ GE822.out | refine below_set ?_ GE823.out | refine below_set ?_ GE830.out) | exact HB.out)) hb); clear HO_10; clear BK822; clear BK823; clear BK830; clear HB; have HO_10 := n0_; have BK822 := n1_; have BK823 := n2_; have BK830 := n3_; have HB := n4_; clear n0_ n1_ n2_ n3_ n4_
                          (try clear hb)
                          (try clear hb2)
                          (try clear hk)
                          (try clear hi)
                          refine hK.out _ _ ⟨(blk_cell BK830.out 0).trans rfl, (blk_cell BK830.out 1).trans rfl, (blk_cell BK823.out 0).trans rfl, (blk_cell BK823.out 1).trans rfl, (blk_cell BK823.out 2).trans rfl, (blk_cell BK823.out 3).trans rfl, (cz HB.out hw831_0 :), (cz HB.out hw831_1 :), (cz HB.out hw831_2 :), (cz HB.out hw831_3 :), (cz HB.out hw831_4 :)⟩ (fun hHeld => ?_); clear hK K; refine norm_ (a' := ?_) ?_ ?_; rotate_left
                          · show Act.put _ (some 58) _ = _
                            simp only [Act.put, List.setIfInBounds_toArray, List.set_cons_zero, List.set_cons_succ, i64_w, i32_w]
                            rfl
                          refine pure_ (i := 8) (N := some 59) (v := ?_) (a' := ?_) #[true, true, true, true, true, true, true, true, true] rfl rfl (any_of HT_.out (by kernel_rfl)) (fun _ _ _ h => h) (Or.inl ⟨by rfl, ?_⟩) ?_ ?_; rotate_left
                          · intro w'
                            go_simp
                            with_reducible rfl
                          rotate_left
                          · exact pz
                          refine done_ (done_of HT_.out (by kernel_rfl)) ?_; have hcz49_0 : w48.cell? ⟨gb830, 0, none⟩ = some (.bool ((rd_T90 l0_1 a1).f1.f0)) := (blk_cell BK830.out 0).trans rfl; have hcz49_1 : w48.cell? ⟨gb830, 1, none⟩ = some (.slice (some ad831) ((rd_T90 l0_1 a1).f1.f1).length c829_2) := (blk_cell BK830.out 1).trans rfl; have hfz49_0 := blk_frozen BK830.out 0; have hfz49_1 := blk_frozen BK830.out 1
                          try go_wp2
                          have n0_ := Aside0.mk (Kd.R_drew HO_10.out); have n1_ := Aside0.mk (blk_drew BK822.out); have n2_ := Aside0.mk (blk_drew BK823.out); have n3_ := Aside0.mk (blk_drew BK830.out); have n4_ := Aside0.mk (below_drew1 HB.out); clear HO_10; clear BK822; clear BK823; clear BK830; clear HB; have HO_10 := n0_; have BK822 := n1_; have BK823 := n2_; have BK830 := n3_; have HB := n4_; clear n0_ n1_ n2_ n3_ n4_; have p838 : 0 ≤ (x13_2 : Int) := of_decide_eq_true uz; have q838 : x13_2 < (((rd_T90 l0_1 a1).f1.f1).length : Int) := of_decide_eq_true uz; obtain ⟨ad838, e838, hx838_0, hx838_1, hx838_2, hx838_3, hx838_4⟩ := at_T103 HR829_2.out x13_2 p838 q838; have hw838_4 := hx838_4; have hw838_3 := hx838_3; have hw838_2 := hx838_2; have hw838_1 := hx838_1; have hw838_0 := hx838_0; obtain rfl : ad831 = ad838 := (by injection e838); replace hx838_0 := cz HB.out hx838_0; replace hx838_1 := cz HB.out hx838_1; replace hx838_2 := cz HB.out hx838_2; replace hx838_3 := cz HB.out hx838_3; replace hx838_4 := cz HB.out hx838_4; replace p838 := eq_true p838; replace q838 := eq_true q838
                          refine start_ (n := 16) (S := fun w' => w'.cell? ⟨gb822, 0, none⟩ = some (.int .i64 a0_0) ∧ w'.cell? ⟨gb822, 1, none⟩ = some (.slice (some ad829) l0_1.length c0_1) ∧ w'.cell? ⟨gb830, 0, none⟩ = some (.bool ((rd_T90 l0_1 a1).f1.f0)) ∧ w'.cell? ⟨gb830, 1, none⟩ = some (.slice (some ad831) ((rd_T90 l0_1 a1).f1.f1).length c829_2) ∧ w'.cell? ⟨gb823, 0, none⟩ = some (.int .i64 a2_0) ∧ w'.cell? ⟨gb823, 1, none⟩ = some (.int .i64 a2_1) ∧ w'.cell? ⟨gb823, 2, none⟩ = some (.int .i64 a2_2) ∧ w'.cell? ⟨gb823, 3, none⟩ = some (.int .i64 a2_3) ∧ w'.cell? (ad831.add ((x13_2).toNat * 5)) = some (.int .i64 ((rd_T103 ((rd_T90 l0_1 a1).f1.f1) x13_2).f0)) ∧ w'.cell? ⟨(ad831.add ((x13_2).toNat * 5)).block, (ad831.add ((x13_2).toNat * 5)).off + 1, none⟩ = some (.int .i64 ((rd_T103 ((rd_T90 l0_1 a1).f1.f1) x13_2).f1.f0)) ∧ w'.cell? ⟨(ad831.add ((x13_2).toNat * 5)).block, (ad831.add ((x13_2).toNat * 5)).off + 2, none⟩ = some (.int .i64 ((rd_T103 ((rd_T90 l0_1 a1).f1.f1) x13_2).f1.f1)) ∧ w'.cell? ⟨(ad831.add ((x13_2).toNat * 5)).block, (ad831.add ((x13_2).toNat * 5)).off + 3, none⟩ = some (.int .i64 ((rd_T103 ((rd_T90 l0_1 a1).f1.f1) x13_2).f1.f2)) ∧ w'.cell? ⟨(ad831.add ((x13_2).toNat * 5)).block, (ad831.add ((x13_2).toNat * 5)).off + 4, none⟩ = some (.int .i64 ((rd_T103 ((rd_T90 l0_1 a1).f1.f1) x13_2).f1.f3))) (ds := []) #[false, false, false, false, false, false, false, false, false, false, false, false, false, false, false, false] (by kernel_rfl) rfl rfl ⟨(blk_cell BK822.out 0).trans rfl, (blk_cell BK822.out 1).trans rfl, (blk_cell BK830.out 0).trans rfl, (blk_cell BK830.out 1).trans rfl, (blk_cell BK823.out 0).trans rfl, (blk_cell BK823.out 1).trans rfl, (blk_cell BK823.out 2).trans rfl, (blk_cell BK823.out 3).trans rfl, (cz HB.out hw838_0 :), (cz HB.out hw838_1 :), (cz HB.out hw838_2 :), (cz HB.out hw838_3 :), (cz HB.out hw838_4 :)⟩ (fun hHeld => ?_); refine with_tabW spec_l8Search.tab12 spec_l8Search.bits12 (fun HT_ HW_ => ?_)
                          generalize w48.drew = w50 at HO_10 BK822 BK823 BK830 HB hx838_0 hx838_1 hx838_2 hx838_3 hx838_4 hHeld ⊢
                          refine pure_ (i := 1) (N := some 80) (v := ?_) (a' := ?_) #[false, true, false, false, false, false, false, false, false, false, false, false, false, false, false, false] rfl rfl (any_of HT_.out (by kernel_rfl)) (fun _ _ _ h => h) (Or.inl ⟨by rfl, ?_⟩) ?_ ?_; rotate_left
                          · intro w'
                            go_simp
                            with_reducible rfl
                          rotate_left
                          · exact pz
                          refine pure_ (i := 3) (N := some 82) (v := ?_) (a' := ?_) #[false, true, false, true, false, false, false, false, false, false, false, false, false, false, false, false] rfl rfl (any_of HT_.out (by kernel_rfl)) (fun _ _ _ h => h) (Or.inl ⟨by rfl, ?_⟩) ?_ ?_; rotate_left
                          · intro w'
                            go_simp
                            with_reducible rfl
                          rotate_left
                          · exact pz
                          refine pure_ (i := 8) (N := some 87) (v := ?_) (a' := ?_) #[false, true, false, true, false, false, false, false, true, false, false, false, false, false, false, false] rfl rfl (any_of HT_.out (by kernel_rfl)) (fun _ _ _ h => h) (Or.inl ⟨by rfl, ?_⟩) ?_ ?_; rotate_left
                          · intro w'
                            go_simp
                            with_reducible rfl
                          rotate_left
                          · exact pz
                          refine pure_ (i := 9) (N := some 88) (v := ?_) (a' := ?_) #[false, true, false, true, false, false, false, false, true, true, false, false, false, false, false, false] rfl rfl (any_of HT_.out (by kernel_rfl)) (fun _ _ _ h => h) (Or.inl ⟨by rfl, ?_⟩) ?_ ?_; rotate_left
                          · intro w'
                            go_simp
                            with_reducible rfl
                          rotate_left
                          · exact pz
                          refine take_ (i := 0) (N := some 79) (v := ?_) (a' := ?_) #[true, true, false, true, false, false, false, false, true, true, false, false, false, false, false, false] rfl rfl (take_ofW HT_.out HW_.out (by kernel_rfl)) (fun _ _ _ h => h) (Or.inl ⟨by rfl, ?_⟩) hHeld ?_ ?_; rotate_left
                          · rintro w' ⟨s0, s1, s2, s3, s4, s5, s6, s7, s8, s9, s10, s11, s12⟩
                            go_simp
                            with_reducible rfl
                          rotate_left
                          · exact pz
                          refine take_ (i := 2) (N := some 81) (v := ?_) (a' := ?_) #[true, true, true, true, false, false, false, false, true, true, false, false, false, false, false, false] rfl rfl (take_ofW HT_.out HW_.out (by kernel_rfl)) (fun _ _ _ h => h) (Or.inl ⟨by rfl, ?_⟩) hHeld ?_ ?_; rotate_left
                          · rintro w' ⟨s0, s1, s2, s3, s4, s5, s6, s7, s8, s9, s10, s11, s12⟩
                            go_simp
                            with_reducible rfl
                          rotate_left
                          · exact pz
                          refine pure_ (i := 4) (N := some 83) (v := ?_) (a' := ?_) #[true, true, true, true, true, false, false, false, true, true, false, false, false, false, false, false] rfl rfl (any_of HT_.out (by kernel_rfl)) (fun _ _ _ h => h) (Or.inl ⟨by rfl, ?_⟩) ?_ ?_; rotate_left
                          · intro w'
                            go_simp
                            with_reducible rfl
                          rotate_left
                          · exact pz
                          refine pure_ (i := 5) (N := some 84) (v := ?_) (a' := ?_) #[true, true, true, true, true, true, false, false, true, true, false, false, false, false, false, false] rfl rfl (any_of HT_.out (by kernel_rfl)) (fun _ _ _ h => h) (Or.inl ⟨by rfl, ?_⟩) ?_ ?_; rotate_left
                          · intro w'
                            go_simp
                            with_reducible rfl
                          rotate_left
                          · exact pz
                          refine take_ (i := 6) (N := some 85) (v := ?_) (a' := ?_) #[true, true, true, true, true, true, true, false, true, true, false, false, false, false, false, false] rfl rfl (take_ofW HT_.out HW_.out (by kernel_rfl)) (fun _ _ _ h => h) (Or.inl ⟨by rfl, ?_⟩) hHeld ?_ ?_; rotate_left
                          · rintro w' ⟨s0, s1, s2, s3, s4, s5, s6, s7, s8, s9, s10, s11, s12⟩
                            go_simp
                            with_reducible rfl
                          rotate_left
                          · exact pz
                          refine take_ (i := 7) (N := some 86) (v := ?_) (a' := ?_) #[true, true, true, true, true, true, true, true, true, true, false, false, false, false, false, false] rfl rfl (take_ofW HT_.out HW_.out (by kernel_rfl)) (fun _ _ _ h => h) (Or.inl ⟨by rfl, ?_⟩) hHeld ?_ ?_; rotate_left
                          · rintro w' ⟨s0, s1, s2, s3, s4, s5, s6, s7, s8, s9, s10, s11, s12⟩
                            go_simp
                            with_reducible rfl
                          rotate_left
                          · exact pz
                          refine one_ (i := 10) (N := some 89) #[true, true, true, true, true, true, true, true, true, true, true, false, false, false, false, false] rfl rfl (one_of HT_.out (by kernel_rfl)) (by decide) (fun K hK => ?_); refine goes_ Try.func99 (by kernel_rfl) rfl #[.agg #[.int .i64 a0_0, .slice (some ad829) l0_1.length c0_1], .int .i64 ((rd_T103 ((rd_T90 l0_1 a1).f1.f1) x13_2).f0), .agg #[.int .i64 a2_0, .int .i64 a2_1, .int .i64 a2_2, .int .i64 a2_3], .int .i64 (wrap64 (a3 + 1))] (by rfl) rfl rfl dz ?_
                          with_reducible refine (ih k2 (by have := HJ4.out; have := HK2.out; omega) a0_0 _ _ l0_1 ((rd_T103 ((rd_T90 l0_1 a1).f1.f1) x13_2).f0) a2_0 a2_1 a2_2 a2_3 (wrap64 (a3 + 1)) t839 t842 _ ?side1 ?side2 A42.out).mono ?_
                          (case side1 => exact sz HR0_1.out HB.out)
                          (case side2 => exact HC0_1.out)
                          rintro e w51 ⟨v840, rfl, ho0, hb⟩
                          refine ⟨_, rfl, ?_⟩; have n0_ := Aside0.mk (Kd.R_elder' (rz HO_10.out) (Kd.R_base ho0) hb); have n1_ := Aside0.mk (Kd.R_lower (Kd.R_new' ho0 (Kd.R_lt (rz HO_10.out))) (below_size (by repeat (first | (with_reducible first | exact HB.out | apply below_alloc | apply pw_below_drewN | apply below_drew1 | refine below_set ?_ GE822.out | refine below_set ?_ GE823.out | refine below_set ?_ GE830.out) | exact HB.out)))); have n2_ := Aside0.mk (blk_below (g := gb822) (o := .cells #[.int .i64 a0_0, .slice (some ad829) l0_1.length c0_1] 49 (0, 0)) (kz BK822.out) hb); have n3_ := Aside0.mk (blk_below (g := gb823) (o := .cells #[.int .i64 a2_0, .int .i64 a2_1, .int .i64 a2_2, .int .i64 a2_3] 32 (0, 0)) (kz BK823.out) hb); have n4_ := Aside0.mk (blk_below (g := gb830) (o := .cells #[.bool ((rd_T90 l0_1 a1).f1.f0), .slice (some ad831) ((rd_T90 l0_1 a1).f1.f1).length c829_2] 54 (0, 0)) (kz BK830.out) hb); have n5_ := Aside0.mk (below_step (by repeat (first | (with_reducible first | exact HB.out | apply below_alloc | apply pw_below_drewN | apply below_drew1 | refine below_set ?_ GE822.out | refine below_set ?_ GE823.out | refine below_set ?_ GE830.out) | exact HB.out)) hb); clear HO_10; clear BK822; clear BK823; clear BK830; clear HB; have HO_10 := n0_; have HO841 := n1_; have BK822 := n2_; have BK823 := n3_; have BK830 := n4_; have HB := n5_; clear n0_ n1_ n2_ n3_ n4_ n5_
                          (try clear hb)
                          (try clear hb2)
                          (try clear hk)
                          (try clear hi)
                          (try clear ho0)
                          refine hK.out _ _ ⟨(blk_cell BK822.out 0).trans rfl, (blk_cell BK822.out 1).trans rfl, (blk_cell BK830.out 0).trans rfl, (blk_cell BK830.out 1).trans rfl, (blk_cell BK823.out 0).trans rfl, (blk_cell BK823.out 1).trans rfl, (blk_cell BK823.out 2).trans rfl, (blk_cell BK823.out 3).trans rfl, (cz HB.out hw838_0 :), (cz HB.out hw838_1 :), (cz HB.out hw838_2 :), (cz HB.out hw838_3 :), (cz HB.out hw838_4 :)⟩ (fun hHeld => ?_); clear hK K; refine norm_ (a' := ?_) ?_ ?_; rotate_left
                          · show Act.put _ (some 89) _ = _
                            simp only [Act.put, List.setIfInBounds_toArray, List.set_cons_zero, List.set_cons_succ, i64_w, i32_w]
                            rfl
                          refine pure_ (i := 11) (N := some 78) (v := ?_) (a' := ?_) #[true, true, true, true, true, true, true, true, true, true, true, true, false, false, false, false] rfl rfl (any_of HT_.out (by kernel_rfl)) (fun _ _ _ h => h) (Or.inl ⟨by rfl, ?_⟩) ?_ ?_; rotate_left
                          · intro w'
                            go_simp
                            with_reducible rfl
                          rotate_left
                          · exact pz
                          refine pure_ (i := 12) (N := some 90) (v := ?_) (a' := ?_) #[true, true, true, true, true, true, true, true, true, true, true, true, true, false, false, false] rfl rfl (any_of HT_.out (by kernel_rfl)) (fun _ _ _ h => h) (Or.inl ⟨by rfl, ?_⟩) ?_ ?_; rotate_left
                          · intro w'
                            go_simp
                            with_reducible rfl
                          rotate_left
                          · exact pz
                          refine pure_ (i := 13) (N := some 91) (v := ?_) (a' := ?_) #[true, true, true, true, true, true, true, true, true, true, true, true, true, true, false, false] rfl rfl (any_of HT_.out (by kernel_rfl)) (fun _ _ _ h => h) (Or.inl ⟨by rfl, ?_⟩) ?_ ?_; rotate_left
                          · intro w'
                            go_simp
                            with_reducible rfl
                          rotate_left
                          · exact pz
                          refine pure_ (i := 14) (N := some 14) (v := ?_) (a' := ?_) #[true, true, true, true, true, true, true, true, true, true, true, true, true, true, true, false] rfl rfl (any_of HT_.out (by kernel_rfl)) (fun _ _ _ h => h) (Or.inl ⟨by rfl, ?_⟩) ?_ ?_; rotate_left
                          · intro w'
                            go_simp
                            with_reducible rfl
                          rotate_left
                          · exact pz
                          refine pure_ (i := 15) (N := some 15) (v := ?_) (a' := ?_) #[true, true, true, true, true, true, true, true, true, true, true, true, true, true, true, true] rfl rfl (any_of HT_.out (by kernel_rfl)) (fun _ _ _ h => h) (Or.inl ⟨by rfl, ?_⟩) ?_ ?_; rotate_left
                          · intro w'
                            go_simp
                            with_reducible rfl
                          rotate_left
                          · exact pz
                          refine done_ (done_of HT_.out (by kernel_rfl)) ?_; obtain ⟨Ao53, co53, eo53⟩ := Kd.R_slice HO841.out; subst eo53
                          try go_wp2_with (first | ((with_reducible refine gate_builtin (b := .append) (xs := #[.tmp 92, .tmp 93]) rfl ?_); (try (refine gate_guard (by rfl) ?_; dsimp only)); at_builtin; refine Kd.R_append_rows k34 (w0 := w) w.heap.size rfl (.tmp 92) (.tmp 93) 28 34 (.agg #[(.int .i64 0), (.int .i64 0), (.int .i64 0), (.int .i64 0), (.int .i64 0)]) 40 rfl Try.underlying28 info34 rfl (by decide) (by omega) u10 x10_2 t839 _ _ _ (fun k_ => some k_ ≠ (.slice Ao53 t839.length co53 : Value).ownBlock) (fun _ => False) rfl rfl ?aO ?aR (fun _ _ h => h) (fun _ h => h.elim) ?aF ?aB ?aS ?aL ?_; (case aR => repeat (first | exact (Kd.R_reads' HO841.out).2.2 | (with_reducible refine Kd.C_alloc ?_ _) | (with_reducible refine Kd.C_drewN ?_ _) | (with_reducible refine Kd.C_drew ?_))); (case aB => exact (by repeat (first | (with_reducible first | exact HB.out | apply below_alloc | apply pw_below_drewN | apply below_drew1 | refine below_set ?_ GE822.out | refine below_set ?_ GE823.out | refine below_set ?_ GE830.out) | exact HB.out))); (case aF => exact (fun k_ hk => Kd.fresh' (Kd.R_lt (rz HO841.out)) k_ hk)); (case aO => exact (by (with_reducible repeat (first | apply Kd.R_alloc | apply Kd.R_drewN | apply Kd.R_drew)); exact Kd.R_mono HO_10.out (fun _ hk => hk.2))); (case aS => exact (below_size (by repeat (first | (with_reducible first | exact HB.out | apply below_alloc | apply pw_below_drewN | apply below_drew1 | refine below_set ?_ GE822.out | refine below_set ?_ GE823.out | refine below_set ?_ GE830.out) | exact HB.out)))); (case aL => have := LMc43.out; omega); intro v844 w52 ho hb hg hat; rw [← Ny843.out] at ho; have n0_ := Aside0.mk (blk_grown (g := gb822) (o := .cells #[.int .i64 a0_0, .slice (some ad829) l0_1.length c0_1] 49 (0, 0)) (kz BK822.out) hg (Kd.R_ne HO_10.out BK822.out (by decide))); have n1_ := Aside0.mk (blk_grown (g := gb823) (o := .cells #[.int .i64 a2_0, .int .i64 a2_1, .int .i64 a2_2, .int .i64 a2_3] 32 (0, 0)) (kz BK823.out) hg (Kd.R_ne HO_10.out BK823.out (by decide))); have n2_ := Aside0.mk (blk_grown (g := gb830) (o := .cells #[.bool ((rd_T90 l0_1 a1).f1.f0), .slice (some ad831) ((rd_T90 l0_1 a1).f1.f1).length c829_2] 54 (0, 0)) (kz BK830.out) hg (Kd.R_ne HO_10.out BK830.out (by decide))); have n3_ := Aside0.mk (Kd.R_after (ok := (fun _ => True)) (rz HO841.out) hg hat); have n4_ := Aside0.mk (hb); have n5_ := Aside0.mk (ho); clear BK822; clear BK823; clear BK830; clear HO841; clear HB; clear HO_10; have BK822 := n0_; have BK823 := n1_; have BK830 := n2_; have HO841 := n3_; have HB := n4_; have HO845 := n5_; clear n0_ n1_ n2_ n3_ n4_ n5_; clear ho hb hg hat))
                          go_roundg k2
                          case measure => have := HJ4.out; have := HK2.out; omega
                          case rel => exact ⟨(y843), (wrap64 (x12_2 + t842)), (wrap64 (x13_2 + 1)), az, az, H', ⟨by have := HJ4.out; have := HK2.out; omega⟩, ⟨by (with_reducible repeat (first | apply Kd.R_alloc | apply Kd.R_drewN | apply Kd.R_drew)); exact Kd.R_mono HO845.out (fun _ hk => trivial)⟩, ⟨kz BK822.out⟩, ⟨kz BK823.out⟩, ⟨kz BK830.out⟩, ⟨by repeat (first | (with_reducible first | exact HB.out | apply below_alloc | apply pw_below_drewN | apply below_drew1 | refine below_set ?_ GE822.out | refine below_set ?_ GE823.out | refine below_set ?_ GE830.out) | exact HB.out)⟩⟩
                        · rw [if_neg c43] at H
                          exact absurd H (by simp)
                    · replace c31 := Bool.eq_false_iff.mpr c31
                      subst c31; replace H : (spec_l8Search.l0 k2 a3 x10_2 x12_2 (wrap64 (x13_2 + 1)) a0_0 l0_1 a2_0 a2_1 a2_2 a2_3 ((rd_T90 l0_1 a1).f1.f0) ((rd_T90 l0_1 a1).f1.f1)) = some (r1, r2) := (by rw [if_neg (show ¬ (false = true) by decide)] at H; exact H); have H' := Aside0.mk H; clear H; have hnb54 := NB830_822.out; have hnc54 := NB822_830.out; have hnb55 := NB830_823.out; have hnc55 := NB823_830.out; have hcz56_0 : wr.cell? ⟨gb830, 0, none⟩ = some (.bool ((rd_T90 l0_1 a1).f1.f0)) := (blk_cell BK830.out 0).trans rfl; have hcz56_1 : wr.cell? ⟨gb830, 1, none⟩ = some (.slice A829_2 ((rd_T90 l0_1 a1).f1.f1).length c829_2) := (blk_cell BK830.out 1).trans rfl; have hfz56_0 := blk_frozen BK830.out 0; have hfz56_1 := blk_frozen BK830.out 1
                      try go_wp2
                      have n0_ := Aside0.mk (Kd.R_drew HO_10.out); have n1_ := Aside0.mk (blk_drew BK822.out); have n2_ := Aside0.mk (blk_drew BK823.out); have n3_ := Aside0.mk (blk_drew BK830.out); have n4_ := Aside0.mk (below_drew1 HB.out); clear HO_10; clear BK822; clear BK823; clear BK830; clear HB; have HO_10 := n0_; have BK822 := n1_; have BK823 := n2_; have BK830 := n3_; have HB := n4_; clear n0_ n1_ n2_ n3_ n4_; have p831 : 0 ≤ (x13_2 : Int) := of_decide_eq_true uz; have q831 : x13_2 < (((rd_T90 l0_1 a1).f1.f1).length : Int) := of_decide_eq_true uz; obtain ⟨ad831, e831, hx831_0, hx831_1, hx831_2, hx831_3, hx831_4⟩ := at_T103 HR829_2.out x13_2 p831 q831; have hw831_4 := hx831_4; have hw831_3 := hx831_3; have hw831_2 := hx831_2; have hw831_1 := hx831_1; have hw831_0 := hx831_0
                      cases e831
                      replace hx831_0 := cz HB.out hx831_0; replace hx831_1 := cz HB.out hx831_1; replace hx831_2 := cz HB.out hx831_2; replace hx831_3 := cz HB.out hx831_3; replace hx831_4 := cz HB.out hx831_4; replace p831 := eq_true p831; replace q831 := eq_true q831
                      refine start_ (n := 9) (S := fun w' => w'.cell? ⟨gb830, 0, none⟩ = some (.bool ((rd_T90 l0_1 a1).f1.f0)) ∧ w'.cell? ⟨gb830, 1, none⟩ = some (.slice (some ad831) ((rd_T90 l0_1 a1).f1.f1).length c829_2) ∧ w'.cell? ⟨gb823, 0, none⟩ = some (.int .i64 a2_0) ∧ w'.cell? ⟨gb823, 1, none⟩ = some (.int .i64 a2_1) ∧ w'.cell? ⟨gb823, 2, none⟩ = some (.int .i64 a2_2) ∧ w'.cell? ⟨gb823, 3, none⟩ = some (.int .i64 a2_3) ∧ w'.cell? (ad831.add ((x13_2).toNat * 5)) = some (.int .i64 ((rd_T103 ((rd_T90 l0_1 a1).f1.f1) x13_2).f0)) ∧ w'.cell? ⟨(ad831.add ((x13_2).toNat * 5)).block, (ad831.add ((x13_2).toNat * 5)).off + 1, none⟩ = some (.int .i64 ((rd_T103 ((rd_T90 l0_1 a1).f1.f1) x13_2).f1.f0)) ∧ w'.cell? ⟨(ad831.add ((x13_2).toNat * 5)).block, (ad831.add ((x13_2).toNat * 5)).off + 2, none⟩ = some (.int .i64 ((rd_T103 ((rd_T90 l0_1 a1).f1.f1) x13_2).f1.f1)) ∧ w'.cell? ⟨(ad831.add ((x13_2).toNat * 5)).block, (ad831.add ((x13_2).toNat * 5)).off + 3, none⟩ = some (.int .i64 ((rd_T103 ((rd_T90 l0_1 a1).f1.f1) x13_2).f1.f2)) ∧ w'.cell? ⟨(ad831.add ((x13_2).toNat * 5)).block, (ad831.add ((x13_2).toNat * 5)).off + 4, none⟩ = some (.int .i64 ((rd_T103 ((rd_T90 l0_1 a1).f1.f1) x13_2).f1.f3))) (ds := []) #[false, false, false, false, false, false, false, false, false] (by kernel_rfl) rfl rfl ⟨(blk_cell BK830.out 0).trans rfl, (blk_cell BK830.out 1).trans rfl, (blk_cell BK823.out 0).trans rfl, (blk_cell BK823.out 1).trans rfl, (blk_cell BK823.out 2).trans rfl, (blk_cell BK823.out 3).trans rfl, (cz HB.out hw831_0 :), (cz HB.out hw831_1 :), (cz HB.out hw831_2 :), (cz HB.out hw831_3 :), (cz HB.out hw831_4 :)⟩ (fun hHeld => ?_); refine with_tabW spec_l8Search.tab9 spec_l8Search.bits9 (fun HT_ HW_ => ?_)
                      generalize wr.drew = w57 at HO_10 BK822 BK823 BK830 HB hx831_0 hx831_1 hx831_2 hx831_3 hx831_4 hHeld ⊢
                      refine pure_ (i := 0) (N := some 51) (v := ?_) (a' := ?_) #[true, false, false, false, false, false, false, false, false] rfl rfl (any_of HT_.out (by kernel_rfl)) (fun _ _ _ h => h) (Or.inl ⟨by rfl, ?_⟩) ?_ ?_; rotate_left
                      · intro w'
                        go_simp
                        with_reducible rfl
                      rotate_left
                      · exact pz
                      refine pure_ (i := 2) (N := some 53) (v := ?_) (a' := ?_) #[true, false, true, false, false, false, false, false, false] rfl rfl (any_of HT_.out (by kernel_rfl)) (fun _ _ _ h => h) (Or.inl ⟨by rfl, ?_⟩) ?_ ?_; rotate_left
                      · intro w'
                        go_simp
                        with_reducible rfl
                      rotate_left
                      · exact pz
                      refine take_ (i := 1) (N := some 52) (v := ?_) (a' := ?_) #[true, true, true, false, false, false, false, false, false] rfl rfl (take_ofW HT_.out HW_.out (by kernel_rfl)) (fun _ _ _ h => h) (Or.inl ⟨by rfl, ?_⟩) hHeld ?_ ?_; rotate_left
                      · rintro w' ⟨s0, s1, s2, s3, s4, s5, s6, s7, s8, s9, s10⟩
                        go_simp
                        with_reducible rfl
                      rotate_left
                      · exact pz
                      refine pure_ (i := 3) (N := some 54) (v := ?_) (a' := ?_) #[true, true, true, true, false, false, false, false, false] rfl rfl (any_of HT_.out (by kernel_rfl)) (fun _ _ _ h => h) (Or.inl ⟨by rfl, ?_⟩) ?_ ?_; rotate_left
                      · intro w'
                        go_simp
                        with_reducible rfl
                      rotate_left
                      · exact pz
                      refine pure_ (i := 4) (N := some 55) (v := ?_) (a' := ?_) #[true, true, true, true, true, false, false, false, false] rfl rfl (any_of HT_.out (by kernel_rfl)) (fun _ _ _ h => h) (Or.inl ⟨by rfl, ?_⟩) ?_ ?_; rotate_left
                      · intro w'
                        go_simp
                        with_reducible rfl
                      rotate_left
                      · exact pz
                      refine take_ (i := 5) (N := some 56) (v := ?_) (a' := ?_) #[true, true, true, true, true, true, false, false, false] rfl rfl (take_ofW HT_.out HW_.out (by kernel_rfl)) (fun _ _ _ h => h) (Or.inl ⟨by rfl, ?_⟩) hHeld ?_ ?_; rotate_left
                      · rintro w' ⟨s0, s1, s2, s3, s4, s5, s6, s7, s8, s9, s10⟩
                        go_simp
                        with_reducible rfl
                      rotate_left
                      · exact pz
                      refine take_ (i := 6) (N := some 57) (v := ?_) (a' := ?_) #[true, true, true, true, true, true, true, false, false] rfl rfl (take_ofW HT_.out HW_.out (by kernel_rfl)) (fun _ _ _ h => h) (Or.inl ⟨by rfl, ?_⟩) hHeld ?_ ?_; rotate_left
                      · rintro w' ⟨s0, s1, s2, s3, s4, s5, s6, s7, s8, s9, s10⟩
                        go_simp
                        with_reducible rfl
                      rotate_left
                      · exact pz
                      refine one_ (i := 7) (N := some 58) #[true, true, true, true, true, true, true, true, false] rfl rfl (one_of HT_.out (by kernel_rfl)) (by decide) (fun K hK => ?_); refine goes_ Try.func130 (by kernel_rfl) rfl #[.agg #[.int .i64 ((rd_T103 ((rd_T90 l0_1 a1).f1.f1) x13_2).f1.f0), .int .i64 ((rd_T103 ((rd_T90 l0_1 a1).f1.f1) x13_2).f1.f1), .int .i64 ((rd_T103 ((rd_T90 l0_1 a1).f1.f1) x13_2).f1.f2), .int .i64 ((rd_T103 ((rd_T90 l0_1 a1).f1.f1) x13_2).f1.f3)], .agg #[.int .i64 a2_0, .int .i64 a2_1, .int .i64 a2_2, .int .i64 a2_3]] (by rfl) rfl rfl dz ?_
                      with_reducible refine (spec_Meets.calls ((rd_T103 ((rd_T90 l0_1 a1).f1.f1) x13_2).f1.f0) ((rd_T103 ((rd_T90 l0_1 a1).f1.f1) x13_2).f1.f1) ((rd_T103 ((rd_T90 l0_1 a1).f1.f1) x13_2).f1.f2) ((rd_T103 ((rd_T90 l0_1 a1).f1.f1) x13_2).f1.f3) a2_0 a2_1 a2_2 a2_3 false _ A30.out).mono ?_
                      rintro e w58 ⟨rfl, hb⟩
                      refine ⟨_, rfl, ?_⟩; have n0_ := Aside0.mk (Kd.R_below (rz HO_10.out) hb); have n1_ := Aside0.mk (blk_below (g := gb822) (o := .cells #[.int .i64 a0_0, .slice (some ad829) l0_1.length c0_1] 49 (0, 0)) (kz BK822.out) hb); have n2_ := Aside0.mk (blk_below (g := gb823) (o := .cells #[.int .i64 a2_0, .int .i64 a2_1, .int .i64 a2_2, .int .i64 a2_3] 32 (0, 0)) (kz BK823.out) hb); have n3_ := Aside0.mk (blk_below (g := gb830) (o := .cells #[.bool ((rd_T90 l0_1 a1).f1.f0), .slice (some ad831) ((rd_T90 l0_1 a1).f1.f1).length c829_2] 54 (0, 0)) (kz BK830.out) hb); have n4_ := Aside0.mk (below_step (by repeat (first | (with_reducible first | exact HB.out | apply below_alloc | apply pw_below_drewN | apply below_drew1 | refine below_set ?_ GE822.out | refine below_set ?_ GE823.out | refine below_set ?_ GE830.out) | exact HB.out)) hb); clear HO_10; clear BK822; clear BK823; clear BK830; clear HB; have HO_10 := n0_; have BK822 := n1_; have BK823 := n2_; have BK830 := n3_; have HB := n4_; clear n0_ n1_ n2_ n3_ n4_
                      (try clear hb)
                      (try clear hb2)
                      (try clear hk)
                      (try clear hi)
                      refine hK.out _ _ ⟨(blk_cell BK830.out 0).trans rfl, (blk_cell BK830.out 1).trans rfl, (blk_cell BK823.out 0).trans rfl, (blk_cell BK823.out 1).trans rfl, (blk_cell BK823.out 2).trans rfl, (blk_cell BK823.out 3).trans rfl, (cz HB.out hw831_0 :), (cz HB.out hw831_1 :), (cz HB.out hw831_2 :), (cz HB.out hw831_3 :), (cz HB.out hw831_4 :)⟩ (fun hHeld => ?_); clear hK K; refine norm_ (a' := ?_) ?_ ?_; rotate_left
                      · show Act.put _ (some 58) _ = _
                        simp only [Act.put, List.setIfInBounds_toArray, List.set_cons_zero, List.set_cons_succ, i64_w, i32_w]
                        rfl
                      refine pure_ (i := 8) (N := some 59) (v := ?_) (a' := ?_) #[true, true, true, true, true, true, true, true, true] rfl rfl (any_of HT_.out (by kernel_rfl)) (fun _ _ _ h => h) (Or.inl ⟨by rfl, ?_⟩) ?_ ?_; rotate_left
                      · intro w'
                        go_simp
                        with_reducible rfl
                      rotate_left
                      · exact pz
                      refine done_ (done_of HT_.out (by kernel_rfl)) ?_
                      try go_wp2
                      go_roundg k2
                      case measure => have := HJ4.out; have := HK2.out; omega
                      case rel => exact ⟨(x10_2), (x12_2), (wrap64 (x13_2 + 1)), az, az, H', ⟨by have := HJ4.out; have := HK2.out; omega⟩, ⟨rz HO_10.out⟩, ⟨kz BK822.out⟩, ⟨kz BK823.out⟩, ⟨kz BK830.out⟩, ⟨by repeat (first | (with_reducible first | exact HB.out | apply below_alloc | apply pw_below_drewN | apply below_drew1 | refine below_set ?_ GE822.out | refine below_set ?_ GE823.out | refine below_set ?_ GE830.out) | exact HB.out)⟩⟩
                  · rw [if_neg c29] at H
                    exact absurd H (by simp)
                · rw [if_neg c28] at H
                  have c28b0 : decide (x13_2 < (((rd_T90 l0_1 a1).f1.f1).length : Int)) = false := decide_eq_false c28; clear c28
                  simp only [Option.some.injEq, Prod.mk.injEq] at H
                  obtain ⟨rfl, rfl⟩ := H; have hnb59 := NB830_822.out; have hnc59 := NB822_830.out; have hnb60 := NB830_823.out; have hnc60 := NB823_830.out; have hcz61_0 : wr.cell? ⟨gb830, 0, none⟩ = some (.bool ((rd_T90 l0_1 a1).f1.f0)) := (blk_cell BK830.out 0).trans rfl; have hcz61_1 : wr.cell? ⟨gb830, 1, none⟩ = some (.slice A829_2 ((rd_T90 l0_1 a1).f1.f1).length c829_2) := (blk_cell BK830.out 1).trans rfl; have hfz61_0 := blk_frozen BK830.out 0; have hfz61_1 := blk_frozen BK830.out 1; go_wp2
                  go_ret2
                  exact ⟨_, by first | rfl | (simp [errW_none, errW_some] <;> rfl) | (simp [*, errW_none, errW_some] <;> rfl), by (with_reducible repeat (first | apply Kd.R_alloc | apply Kd.R_drewN | apply Kd.R_drew)); exact HO_10.out, by repeat (first | (with_reducible first | exact HB.out | apply below_alloc | apply pw_below_drewN | apply below_drew1 | refine below_set ?_ GE822.out | refine below_set ?_ GE823.out | refine below_set ?_ GE830.out) | exact HB.out)⟩
          · rw [if_neg c21] at H
            exact absurd H (by simp)
        · rw [if_neg c20] at H
          exact absurd H (by simp)

attribute [local go_sem] max2_int min2_int max_two min_two max_three min_three max_four min_four 
set_option linter.unusedVariables false
set_option linter.unusedSimpArgs false

/-! ### spec_Search: function 53 -/
def spec_Search.f (k : Nat) (a0_0 : Int) (l0_1 : List (S90)) (a1_0 : Int) (a1_1 : Int) (a1_2 : Int) (a1_3 : Int) : Option ((List (S34))) := (spec_BookOk.f k a0_0 l0_1).bind fun t958 => (if t958 = true then ((spec_l8Search.f k a0_0 l0_1 a0_0 a1_0 a1_1 a1_2 a1_3 1).bind fun bt959 => (some bt959.1)) else (some (([] : List (S34)))))
theorem spec_Search.mono : ∀ a0 a1 a2 a3 a4 a5 k, LeO (spec_Search.f k a0 a1 a2 a3 a4 a5) (spec_Search.f (k + 1) a0 a1 a2 a3 a4 a5) := by
  intro a0 a1 a2 a3 a4 a5 k
  unfold spec_Search.f
  repeat' first | (with_reducible first | exact spec_BookOk.mono _ _ _ | exact spec_l8Search.mono _ _ _ _ _ _ _ _ _ | exact LeO.refl _ | exact LeO.none _ | refine LeO.ite ?_ ?_ | refine LeO.bind ?_ (fun _ => ?_)) | exact spec_BookOk.mono _ _ _ | exact spec_l8Search.mono _ _ _ _ _ _ _ _ _ | exact LeO.none _ | refine LeO.ite ?_ ?_ | refine LeO.bind ?_ (fun _ => ?_)
set_option maxHeartbeats 8000000 in
set_option maxRecDepth 100000 in
theorem spec_Search.calls (k : Nat) (a0_0 : Int) (A0_1 : Option Addr) (c0_1 : Nat) (l0_1 : List (S90)) (a1_0 : Int) (a1_1 : Int) (a1_2 : Int) (a1_3 : Int) (r : List (S34)) (w : World) (hr0_1 : Kd.C k90 w A0_1 l0_1.length l0_1) (hc0_1 : l0_1.length ≤ c0_1) (h : spec_Search.f k a0_0 l0_1 a1_0 a1_1 a1_2 a1_3 = some r) :
    Calls Try.prog 53 #[.agg #[.int .i64 a0_0, .slice A0_1 l0_1.length c0_1], .agg #[.int .i64 a1_0, .int .i64 a1_1, .int .i64 a1_2, .int .i64 a1_3]] w fun e w' => ∃ v0_ : Value, e = .returned (v0_) ∧ Kd.R k34 34 w' w.heap.size (fun _ => True) v0_ r ∧ Below w.heap.size w w' := by
  have hu49 := Try.underlying49; have hu32 := Try.underlying32; have HR0_1 := Aside0.mk hr0_1; have HC0_1 := Aside0.mk hc0_1; clear hr0_1 hc0_1; have HB := Aside0.mk (Below.refl w.heap.size w); have H : ((spec_BookOk.f k a0_0 l0_1).bind fun t958 => (if t958 = true then ((spec_l8Search.f k a0_0 l0_1 a0_0 a1_0 a1_1 a1_2 a1_3 1).bind fun bt959 => (some bt959.1)) else (some (([] : List (S34)))))) = some r := h; clear h; replace H := Option.bind_eq_some_iff.mp H; obtain ⟨t958, A30, H⟩ := H; replace H : (if t958 = true then ((spec_l8Search.f k a0_0 l0_1 a0_0 a1_0 a1_1 a1_2 a1_3 1).bind fun bt959 => (some bt959.1)) else (some (([] : List (S34))))) = some r := H; have A3 := Aside0.mk A30; clear A30
  by_cases c4 : t958 = true
  · subst c4
    replace H : ((spec_l8Search.f k a0_0 l0_1 a0_0 a1_0 a1_1 a1_2 a1_3 1).bind fun bt959 => (some bt959.1)) = some r := (by rw [if_pos rfl] at H; exact H); replace H := Option.bind_eq_some_iff.mp H; obtain ⟨⟨t959, t962⟩, A50, H⟩ := H; replace H : (some t959) = some r := H; have A5 := Aside0.mk A50; clear A50; obtain rfl := Option.some.inj H
    go_enter Try.func53, Try.ntmps53
    go_wp2_with (first | ((with_reducible refine gate_dst (N := 2) rfl ?_); refine box_event ?hg (N := 2) ?hd (cs := #[.int .i64 a0_0, .slice A0_1 l0_1.length c0_1]) (t := 49) ?hr ?_; (case hd => rfl); (case hg => rfl); (case hr => first | (go_simp; done) | (go_simp; rfl)); intro gb956 hg w6 hbox hb; have n0_ := Aside0.mk (below_step (bz HB.out) hb); have n1_ := Aside0.mk (hbox); have n2_ := Aside0.mk ((by rw [hg]; exact (below_size (bz HB.out)) : w.heap.size ≤ gb956)); have n3_ := Aside0.mk ((by rw [hg]; exact (below_size (bz HB.out)) : w.heap.size ≤ gb956)); clear HB; have HB := n0_; have BK956 := n1_; have GW956 := n2_; have GE956 := n3_; clear n0_ n1_ n2_ n3_; clear hb hbox hg) | ((with_reducible refine gate_dst (N := 3) rfl ?_); refine box_event ?hg (N := 3) ?hd (cs := #[.int .i64 a1_0, .int .i64 a1_1, .int .i64 a1_2, .int .i64 a1_3]) (t := 32) ?hr ?_; (case hd => rfl); (case hg => rfl); (case hr => first | (go_simp; done) | (go_simp; rfl)); intro gb957 hg w7 hbox hb; have n0_ := Aside0.mk (blk_below (g := gb956) (o := .cells #[.int .i64 a0_0, .slice A0_1 l0_1.length c0_1] 49 (0, 0)) (kz BK956.out) hb); have n1_ := Aside0.mk (below_step (b1 GE956.out HB.out) hb); have n2_ := Aside0.mk (hbox); have n3_ := Aside0.mk ((by rw [hg]; exact (below_size (b1 GE956.out HB.out)) : w.heap.size ≤ gb957)); have n4_ := Aside0.mk ((by rw [hg]; exact (below_size (b1 GE956.out HB.out)) : w.heap.size ≤ gb957)); have n5_ := Aside0.mk ((by rw [hg]; exact Nat.ne_of_lt (blk_lt (g := gb956) (o := .cells #[.int .i64 a0_0, .slice A0_1 l0_1.length c0_1] 49 (0, 0)) (kz BK956.out)) : gb956 ≠ gb957)); have n6_ := Aside0.mk ((by rw [hg]; exact Nat.ne_of_gt (blk_lt (g := gb956) (o := .cells #[.int .i64 a0_0, .slice A0_1 l0_1.length c0_1] 49 (0, 0)) (kz BK956.out)) : gb957 ≠ gb956)); clear BK956; clear HB; have BK956 := n0_; have HB := n1_; have BK957 := n2_; have GW957 := n3_; have GE957 := n4_; have NB956_957 := n5_; have NB957_956 := n6_; clear n0_ n1_ n2_ n3_ n4_ n5_ n6_; clear hb hbox hg; have hnb8 := NB956_957.out; have hnc8 := NB957_956.out; have hcz9_0 := fz BK956.out 0 (.int .i64 a0_0); have hcz9_1 := fz BK956.out 1 (.slice A0_1 l0_1.length c0_1); have hfz9_0 := blk_frozen BK956.out 0; have hfz9_1 := blk_frozen BK956.out 1) | ((with_reducible refine gate_callee (f := 41) rfl ?_); refine goesL_ (some 8) rfl rfl Try.func41 (by kernel_rfl) rfl #[.agg #[.int .i64 a0_0, .slice A0_1 l0_1.length c0_1]] rfl dz ?_; (with_reducible refine (spec_BookOk.calls k a0_0 _ _ l0_1 true _ ?side1 ?side2 A3.out).mono ?_); (case side1 => exact sz HR0_1.out HB.out); (case side2 => exact HC0_1.out); rintro e w10 ⟨rfl, hb⟩; refine ⟨_, rfl, ?_⟩; have n0_ := Aside0.mk (blk_below (g := gb956) (o := .cells #[.int .i64 a0_0, .slice A0_1 l0_1.length c0_1] 49 (0, 0)) (kz BK956.out) hb); have n1_ := Aside0.mk (blk_below (g := gb957) (o := .cells #[.int .i64 a1_0, .int .i64 a1_1, .int .i64 a1_2, .int .i64 a1_3] 32 (0, 0)) (kz BK957.out) hb); have n2_ := Aside0.mk (below_step (b2 GE956.out GE957.out HB.out) hb); clear BK956; clear BK957; clear HB; have BK956 := n0_; have BK957 := n1_; have HB := n2_; clear n0_ n1_ n2_; (try clear hb); (try clear hb2); (try clear hk); (try clear hi); have hcz11_0 := fz BK956.out 0 (.int .i64 a0_0); have hcz11_1 := fz BK956.out 1 (.slice A0_1 l0_1.length c0_1); have hfz11_0 := blk_frozen BK956.out 0; have hfz11_1 := blk_frozen BK956.out 1; have hcz12_0 := fz BK957.out 0 (.int .i64 a1_0); have hcz12_1 := fz BK957.out 1 (.int .i64 a1_1); have hcz12_2 := fz BK957.out 2 (.int .i64 a1_2); have hcz12_3 := fz BK957.out 3 (.int .i64 a1_3); have hfz12_0 := blk_frozen BK957.out 0; have hfz12_1 := blk_frozen BK957.out 1; have hfz12_2 := blk_frozen BK957.out 2; have hfz12_3 := blk_frozen BK957.out 3) | ((with_reducible refine gate_callee (f := 99) rfl ?_); refine goesL_ (some 16) rfl rfl Try.func99 (by kernel_rfl) rfl #[.agg #[.int .i64 a0_0, .slice A0_1 l0_1.length c0_1], .int .i64 a0_0, .agg #[.int .i64 a1_0, .int .i64 a1_1, .int .i64 a1_2, .int .i64 a1_3], .int .i64 1] rfl dz ?_; (with_reducible refine (spec_l8Search.calls k a0_0 _ _ l0_1 a0_0 a1_0 a1_1 a1_2 a1_3 1 t959 t962 _ ?side1 ?side2 A5.out).mono ?_); (case side1 => exact sz HR0_1.out HB.out); (case side2 => exact HC0_1.out); rintro e w13 ⟨v960, rfl, ho0, hb⟩; refine ⟨_, rfl, ?_⟩; have n0_ := Aside0.mk (Kd.R_lower ho0 (below_size (b2 GE956.out GE957.out HB.out))); have n1_ := Aside0.mk (blk_below (g := gb956) (o := .cells #[.int .i64 a0_0, .slice A0_1 l0_1.length c0_1] 49 (0, 0)) (kz BK956.out) hb); have n2_ := Aside0.mk (blk_below (g := gb957) (o := .cells #[.int .i64 a1_0, .int .i64 a1_1, .int .i64 a1_2, .int .i64 a1_3] 32 (0, 0)) (kz BK957.out) hb); have n3_ := Aside0.mk (below_step (b2 GE956.out GE957.out HB.out) hb); clear BK956; clear BK957; clear HB; have HO961 := n0_; have BK956 := n1_; have BK957 := n2_; have HB := n3_; clear n0_ n1_ n2_ n3_; (try clear hb); (try clear hb2); (try clear hk); (try clear hi); (try clear ho0)))
    go_ret; exact ⟨_, by first | rfl | (simp [errW_none, errW_some] <;> rfl) | (simp [*, errW_none, errW_some] <;> rfl), by (with_reducible repeat (first | apply Kd.R_alloc | apply Kd.R_drewN | apply Kd.R_drew)); exact HO961.out, b2 GE956.out GE957.out HB.out⟩
  · replace c4 := Bool.eq_false_iff.mpr c4
    subst c4; replace H : (some (([] : List (S34)))) = some r := (by rw [if_neg (show ¬ (false = true) by decide)] at H; exact H); obtain ⟨y963, hy963⟩ : ∃ y_ : List (S34), y_ = (([] : List (S34))) := ⟨_, rfl⟩
    replace H : (some y963) = some r := by first | (rw [hy963]; with_reducible exact H) | (have H2_ := (Option.bind_some _ _).symm.trans H; rw [hy963]; with_reducible exact H2_) | (have H2_ := (Option.bind_some _ _).symm.trans H; with_reducible exact H2_) | with_reducible exact H | (rw [hy963]; exact H) | exact H
    have Ny963 := Aside0.mk hy963; clear hy963; obtain rfl := Option.some.inj H
    go_enter Try.func53, Try.ntmps53
    go_wp2_with (first | ((with_reducible refine gate_dst (N := 2) rfl ?_); refine box_event ?hg (N := 2) ?hd (cs := #[.int .i64 a0_0, .slice A0_1 l0_1.length c0_1]) (t := 49) ?hr ?_; (case hd => rfl); (case hg => rfl); (case hr => first | (go_simp; done) | (go_simp; rfl)); intro gb956 hg w14 hbox hb; have n0_ := Aside0.mk (below_step (bz HB.out) hb); have n1_ := Aside0.mk (hbox); have n2_ := Aside0.mk ((by rw [hg]; exact (below_size (bz HB.out)) : w.heap.size ≤ gb956)); have n3_ := Aside0.mk ((by rw [hg]; exact (below_size (bz HB.out)) : w.heap.size ≤ gb956)); clear HB; have HB := n0_; have BK956 := n1_; have GW956 := n2_; have GE956 := n3_; clear n0_ n1_ n2_ n3_; clear hb hbox hg) | ((with_reducible refine gate_dst (N := 3) rfl ?_); refine box_event ?hg (N := 3) ?hd (cs := #[.int .i64 a1_0, .int .i64 a1_1, .int .i64 a1_2, .int .i64 a1_3]) (t := 32) ?hr ?_; (case hd => rfl); (case hg => rfl); (case hr => first | (go_simp; done) | (go_simp; rfl)); intro gb957 hg w15 hbox hb; have n0_ := Aside0.mk (blk_below (g := gb956) (o := .cells #[.int .i64 a0_0, .slice A0_1 l0_1.length c0_1] 49 (0, 0)) (kz BK956.out) hb); have n1_ := Aside0.mk (below_step (b1 GE956.out HB.out) hb); have n2_ := Aside0.mk (hbox); have n3_ := Aside0.mk ((by rw [hg]; exact (below_size (b1 GE956.out HB.out)) : w.heap.size ≤ gb957)); have n4_ := Aside0.mk ((by rw [hg]; exact (below_size (b1 GE956.out HB.out)) : w.heap.size ≤ gb957)); have n5_ := Aside0.mk ((by rw [hg]; exact Nat.ne_of_lt (blk_lt (g := gb956) (o := .cells #[.int .i64 a0_0, .slice A0_1 l0_1.length c0_1] 49 (0, 0)) (kz BK956.out)) : gb956 ≠ gb957)); have n6_ := Aside0.mk ((by rw [hg]; exact Nat.ne_of_gt (blk_lt (g := gb956) (o := .cells #[.int .i64 a0_0, .slice A0_1 l0_1.length c0_1] 49 (0, 0)) (kz BK956.out)) : gb957 ≠ gb956)); clear BK956; clear HB; have BK956 := n0_; have HB := n1_; have BK957 := n2_; have GW957 := n3_; have GE957 := n4_; have NB956_957 := n5_; have NB957_956 := n6_; clear n0_ n1_ n2_ n3_ n4_ n5_ n6_; clear hb hbox hg; have hnb16 := NB956_957.out; have hnc16 := NB957_956.out; have hcz17_0 := fz BK956.out 0 (.int .i64 a0_0); have hcz17_1 := fz BK956.out 1 (.slice A0_1 l0_1.length c0_1); have hfz17_0 := blk_frozen BK956.out 0; have hfz17_1 := blk_frozen BK956.out 1) | ((with_reducible refine gate_callee (f := 41) rfl ?_); refine goesL_ (some 8) rfl rfl Try.func41 (by kernel_rfl) rfl #[.agg #[.int .i64 a0_0, .slice A0_1 l0_1.length c0_1]] rfl dz ?_; (with_reducible refine (spec_BookOk.calls k a0_0 _ _ l0_1 false _ ?side1 ?side2 A3.out).mono ?_); (case side1 => exact sz HR0_1.out HB.out); (case side2 => exact HC0_1.out); rintro e w18 ⟨rfl, hb⟩; refine ⟨_, rfl, ?_⟩; have n0_ := Aside0.mk (blk_below (g := gb956) (o := .cells #[.int .i64 a0_0, .slice A0_1 l0_1.length c0_1] 49 (0, 0)) (kz BK956.out) hb); have n1_ := Aside0.mk (blk_below (g := gb957) (o := .cells #[.int .i64 a1_0, .int .i64 a1_1, .int .i64 a1_2, .int .i64 a1_3] 32 (0, 0)) (kz BK957.out) hb); have n2_ := Aside0.mk (below_step (b2 GE956.out GE957.out HB.out) hb); clear BK956; clear BK957; clear HB; have BK956 := n0_; have BK957 := n1_; have HB := n2_; clear n0_ n1_ n2_; (try clear hb); (try clear hb2); (try clear hk); (try clear hi)) | ((with_reducible refine gate_dst (N := 10) rfl ?_); refine Kd.R_lit k34 _ 34 ?hg (N := 10) ?hd (xs := ([] : List (S34))) (inner := []) (ok := fun _ => True) (okp := fun _ => True) ?hr ?hp (fun _ hk => hk) trivial (Below.refl _ _) (Nat.le_refl _) (by simp) ?_; (case hd => rfl); (case hg => rfl); (case hr => first | (go_simp; done) | (go_simp; rfl)); (case hp => exact (Reps.none _ _)); intro v964 w19 ho20 hb hg_ hnew_; clear hg_ hnew_; (first | rw [← Ny963.out] at ho20 | (simp only [Int.reduceToNat] at ho20; rw [← Ny963.out] at ho20)); have n0_ := Aside0.mk (Kd.R_lower ho20 (below_size (b2 GE956.out GE957.out HB.out))); have n1_ := Aside0.mk (blk_below (g := gb956) (o := .cells #[.int .i64 a0_0, .slice A0_1 l0_1.length c0_1] 49 (0, 0)) (kz BK956.out) hb); have n2_ := Aside0.mk (blk_below (g := gb957) (o := .cells #[.int .i64 a1_0, .int .i64 a1_1, .int .i64 a1_2, .int .i64 a1_3] 32 (0, 0)) (kz BK957.out) hb); have n3_ := Aside0.mk (below_step (b2 GE956.out GE957.out HB.out) hb); clear BK956; clear BK957; clear HB; have HO965 := n0_; have BK956 := n1_; have BK957 := n2_; have HB := n3_; clear n0_ n1_ n2_ n3_; clear hb ho20))
    go_ret; exact ⟨_, by first | rfl | (simp [errW_none, errW_some] <;> rfl) | (simp [*, errW_none, errW_some] <;> rfl), by (with_reducible repeat (first | apply Kd.R_alloc | apply Kd.R_drewN | apply Kd.R_drew)); exact HO965.out, b2 GE956.out GE957.out HB.out⟩

attribute [local go_sem] max2_int min2_int max_two min_two max_three min_three max_four min_four 
set_option linter.unusedVariables false
set_option linter.unusedSimpArgs false

/-! ### impl_exists: function 77 -/
def impl_exists.f (a0_0 : Int) (l0_1 : List (S90)) (a1 : Int) : Option (Bool) := if a1 ≥ 0 then (some (decide (a1 < (l0_1.length : Int)))) else (some false)
set_option maxHeartbeats 8000000 in
set_option maxRecDepth 100000 in
theorem impl_exists.calls (a0_0 : Int) (A0_1 : Option Addr) (c0_1 : Nat) (l0_1 : List (S90)) (a1 : Int) (r : Bool) (w : World) (hr0_1 : Kd.C k90 w A0_1 l0_1.length l0_1) (hc0_1 : l0_1.length ≤ c0_1) (h : impl_exists.f a0_0 l0_1 a1 = some r) :
    Calls Try.prog 77 #[.agg #[.int .i64 a0_0, .slice A0_1 l0_1.length c0_1], .int .i64 a1] w fun e w' => e = .returned (.bool r) ∧ Below w.heap.size w w' := by
  have hu49 := Try.underlying49; have HR0_1 := Aside0.mk hr0_1; have HC0_1 := Aside0.mk hc0_1; clear hr0_1 hc0_1; have HB := Aside0.mk (Below.refl w.heap.size w); have H : (if a1 ≥ 0 then (some (decide (a1 < (l0_1.length : Int)))) else (some false)) = some r := h; clear h
  by_cases c3 : a1 ≥ 0
  · rw [if_pos c3] at H
    have c3b0 : decide (0 ≤ a1) = true := decide_eq_true c3; clear c3; obtain rfl := Option.some.inj H
    go_enter Try.func77, Try.ntmps77
    go_wp2_with (first | ((with_reducible refine gate_dst (N := 2) rfl ?_); (try (refine gate_guard (by rfl) ?_; dsimp only)); refine box_event ?hg (N := 2) ?hd (cs := #[.int .i64 a0_0, .slice A0_1 l0_1.length c0_1]) (t := 49) ?hr ?_; (case hd => rfl); (case hg => rfl); (case hr => first | (go_simp; done) | (go_simp; rfl)); intro gb341 hg w4 hbox hb; have n0_ := Aside0.mk (below_step (bz HB.out) hb); have n1_ := Aside0.mk (hbox); have n2_ := Aside0.mk ((by rw [hg]; exact (below_size (bz HB.out)) : w.heap.size ≤ gb341)); have n3_ := Aside0.mk ((by rw [hg]; exact (below_size (bz HB.out)) : w.heap.size ≤ gb341)); clear HB; have HB := n0_; have BK341 := n1_; have GW341 := n2_; have GE341 := n3_; clear n0_ n1_ n2_ n3_; clear hb hbox hg; have hcz5_0 := fz BK341.out 0 (.int .i64 a0_0); have hcz5_1 := fz BK341.out 1 (.slice A0_1 l0_1.length c0_1); have hfz5_0 := blk_frozen BK341.out 0; have hfz5_1 := blk_frozen BK341.out 1))
    go_ret; exact ⟨ez, b1 GE341.out HB.out⟩
  · rw [if_neg c3] at H
    have c3b0 : decide (0 ≤ a1) = false := decide_eq_false c3; clear c3; obtain rfl := Option.some.inj H
    go_enter Try.func77, Try.ntmps77
    go_wp2_with (first | ((with_reducible refine gate_dst (N := 2) rfl ?_); (try (refine gate_guard (by rfl) ?_; dsimp only)); refine box_event ?hg (N := 2) ?hd (cs := #[.int .i64 a0_0, .slice A0_1 l0_1.length c0_1]) (t := 49) ?hr ?_; (case hd => rfl); (case hg => rfl); (case hr => first | (go_simp; done) | (go_simp; rfl)); intro gb341 hg w6 hbox hb; have n0_ := Aside0.mk (below_step (bz HB.out) hb); have n1_ := Aside0.mk (hbox); have n2_ := Aside0.mk ((by rw [hg]; exact (below_size (bz HB.out)) : w.heap.size ≤ gb341)); have n3_ := Aside0.mk ((by rw [hg]; exact (below_size (bz HB.out)) : w.heap.size ≤ gb341)); clear HB; have HB := n0_; have BK341 := n1_; have GW341 := n2_; have GE341 := n3_; clear n0_ n1_ n2_ n3_; clear hb hbox hg))
    go_ret; exact ⟨ez, b1 GE341.out HB.out⟩

attribute [local go_sem] max2_int min2_int max_two min_two max_three min_three max_four min_four 
set_option linter.unusedVariables false
set_option linter.unusedSimpArgs false

/-! ### impl_used: function 89 -/
def impl_used.f (a0_0 : Int) (l0_1 : List (S90)) (a1 : Int) : Option (Bool) := (impl_exists.f a0_0 l0_1 a1).bind fun t610 => (if t610 = true then (if 0 ≤ a1 then (if a1 < (l0_1.length : Int) then (some ((rd_T90 l0_1 a1).f0)) else (none)) else (none)) else (some false))
set_option maxHeartbeats 8000000 in
set_option maxRecDepth 100000 in
theorem impl_used.calls (a0_0 : Int) (A0_1 : Option Addr) (c0_1 : Nat) (l0_1 : List (S90)) (a1 : Int) (r : Bool) (w : World) (hr0_1 : Kd.C k90 w A0_1 l0_1.length l0_1) (hc0_1 : l0_1.length ≤ c0_1) (h : impl_used.f a0_0 l0_1 a1 = some r) :
    Calls Try.prog 89 #[.agg #[.int .i64 a0_0, .slice A0_1 l0_1.length c0_1], .int .i64 a1] w fun e w' => e = .returned (.bool r) ∧ Below w.heap.size w w' := by
  have hu49 := Try.underlying49; have HR0_1 := Aside0.mk hr0_1; have HC0_1 := Aside0.mk hc0_1; clear hr0_1 hc0_1; have HB := Aside0.mk (Below.refl w.heap.size w); have H : ((impl_exists.f a0_0 l0_1 a1).bind fun t610 => (if t610 = true then (if 0 ≤ a1 then (if a1 < (l0_1.length : Int) then (some ((rd_T90 l0_1 a1).f0)) else (none)) else (none)) else (some false))) = some r := h; clear h; replace H := Option.bind_eq_some_iff.mp H; obtain ⟨t610, A30, H⟩ := H; replace H : (if t610 = true then (if 0 ≤ a1 then (if a1 < (l0_1.length : Int) then (some ((rd_T90 l0_1 a1).f0)) else (none)) else (none)) else (some false)) = some r := H; have A3 := Aside0.mk A30; clear A30
  by_cases c4 : t610 = true
  · subst c4
    replace H : (if 0 ≤ a1 then (if a1 < (l0_1.length : Int) then (some ((rd_T90 l0_1 a1).f0)) else (none)) else (none)) = some r := (by rw [if_pos rfl] at H; exact H)
    by_cases c5 : 0 ≤ a1
    · rw [if_pos c5] at H
      have c5b0 : decide (0 ≤ a1) = true := decide_eq_true c5; clear c5
      by_cases c6 : a1 < (l0_1.length : Int)
      · rw [if_pos c6] at H
        have c6b0 : decide (a1 < (l0_1.length : Int)) = true := decide_eq_true c6; clear c6; obtain rfl := Option.some.inj H
        go_enter Try.func89, Try.ntmps89
        go_wp2_with (first | ((with_reducible refine gate_dst (N := 2) rfl ?_); refine box_event ?hg (N := 2) ?hd (cs := #[.int .i64 a0_0, .slice A0_1 l0_1.length c0_1]) (t := 49) ?hr ?_; (case hd => rfl); (case hg => rfl); (case hr => first | (go_simp; done) | (go_simp; rfl)); intro gb609 hg w7 hbox hb; have n0_ := Aside0.mk (below_step (bz HB.out) hb); have n1_ := Aside0.mk (hbox); have n2_ := Aside0.mk ((by rw [hg]; exact (below_size (bz HB.out)) : w.heap.size ≤ gb609)); have n3_ := Aside0.mk ((by rw [hg]; exact (below_size (bz HB.out)) : w.heap.size ≤ gb609)); clear HB; have HB := n0_; have BK609 := n1_; have GW609 := n2_; have GE609 := n3_; clear n0_ n1_ n2_ n3_; clear hb hbox hg; have hcz8_0 := fz BK609.out 0 (.int .i64 a0_0); have hcz8_1 := fz BK609.out 1 (.slice A0_1 l0_1.length c0_1); have hfz8_0 := blk_frozen BK609.out 0; have hfz8_1 := blk_frozen BK609.out 1) | ((with_reducible refine gate_callee (f := 77) rfl ?_); refine goesL_ (some 7) rfl rfl Try.func77 (by kernel_rfl) rfl #[.agg #[.int .i64 a0_0, .slice A0_1 l0_1.length c0_1], .int .i64 a1] rfl dz ?_; (with_reducible refine (impl_exists.calls a0_0 _ _ l0_1 a1 true _ ?side1 ?side2 A3.out).mono ?_); (case side1 => exact sz HR0_1.out HB.out); (case side2 => exact HC0_1.out); rintro e w9 ⟨rfl, hb⟩; refine ⟨_, rfl, ?_⟩; have n0_ := Aside0.mk (blk_below (g := gb609) (o := .cells #[.int .i64 a0_0, .slice A0_1 l0_1.length c0_1] 49 (0, 0)) (kz BK609.out) hb); have n1_ := Aside0.mk (below_step (b1 GE609.out HB.out) hb); clear BK609; clear HB; have BK609 := n0_; have HB := n1_; clear n0_ n1_; (try clear hb); (try clear hb2); (try clear hk); (try clear hi); have hcz10_0 := fz BK609.out 0 (.int .i64 a0_0); have hcz10_1 := fz BK609.out 1 (.slice A0_1 l0_1.length c0_1); have hfz10_0 := blk_frozen BK609.out 0; have hfz10_1 := blk_frozen BK609.out 1; have p611 : 0 ≤ (a1 : Int) := of_decide_eq_true uz; have q611 : a1 < (l0_1.length : Int) := of_decide_eq_true uz; obtain ⟨ad611, A611_2, c611_2, e611, hx611_0, hx611_1, hx611_2, hl611_2, hi611_2⟩ := at_T90 HR0_1.out a1 p611 q611; cases e611; replace hx611_0 := cz HB.out hx611_0; replace hx611_1 := cz HB.out hx611_1; replace hx611_2 := cz HB.out hx611_2; have HR611_2 := Aside0.mk hi611_2; have HC611_2 := Aside0.mk hl611_2; clear hi611_2 hl611_2; replace p611 := eq_true p611; replace q611 := eq_true q611))
        go_ret; exact ⟨ez, b1 GE609.out HB.out⟩
      · rw [if_neg c6] at H
        exact absurd H (by simp)
    · rw [if_neg c5] at H
      exact absurd H (by simp)
  · replace c4 := Bool.eq_false_iff.mpr c4
    subst c4; replace H : (some false) = some r := (by rw [if_neg (show ¬ (false = true) by decide)] at H; exact H); obtain rfl := Option.some.inj H
    go_enter Try.func89, Try.ntmps89
    go_wp2_with (first | ((with_reducible refine gate_dst (N := 2) rfl ?_); refine box_event ?hg (N := 2) ?hd (cs := #[.int .i64 a0_0, .slice A0_1 l0_1.length c0_1]) (t := 49) ?hr ?_; (case hd => rfl); (case hg => rfl); (case hr => first | (go_simp; done) | (go_simp; rfl)); intro gb609 hg w11 hbox hb; have n0_ := Aside0.mk (below_step (bz HB.out) hb); have n1_ := Aside0.mk (hbox); have n2_ := Aside0.mk ((by rw [hg]; exact (below_size (bz HB.out)) : w.heap.size ≤ gb609)); have n3_ := Aside0.mk ((by rw [hg]; exact (below_size (bz HB.out)) : w.heap.size ≤ gb609)); clear HB; have HB := n0_; have BK609 := n1_; have GW609 := n2_; have GE609 := n3_; clear n0_ n1_ n2_ n3_; clear hb hbox hg; have hcz12_0 := fz BK609.out 0 (.int .i64 a0_0); have hcz12_1 := fz BK609.out 1 (.slice A0_1 l0_1.length c0_1); have hfz12_0 := blk_frozen BK609.out 0; have hfz12_1 := blk_frozen BK609.out 1) | ((with_reducible refine gate_callee (f := 77) rfl ?_); refine goesL_ (some 7) rfl rfl Try.func77 (by kernel_rfl) rfl #[.agg #[.int .i64 a0_0, .slice A0_1 l0_1.length c0_1], .int .i64 a1] rfl dz ?_; (with_reducible refine (impl_exists.calls a0_0 _ _ l0_1 a1 false _ ?side1 ?side2 A3.out).mono ?_); (case side1 => exact sz HR0_1.out HB.out); (case side2 => exact HC0_1.out); rintro e w13 ⟨rfl, hb⟩; refine ⟨_, rfl, ?_⟩; have n0_ := Aside0.mk (blk_below (g := gb609) (o := .cells #[.int .i64 a0_0, .slice A0_1 l0_1.length c0_1] 49 (0, 0)) (kz BK609.out) hb); have n1_ := Aside0.mk (below_step (b1 GE609.out HB.out) hb); clear BK609; clear HB; have BK609 := n0_; have HB := n1_; clear n0_ n1_; (try clear hb); (try clear hb2); (try clear hk); (try clear hi)))
    go_ret; exact ⟨ez, b1 GE609.out HB.out⟩

end Go.Proofs.Ytngjaajcdbodeaa.All

/- The program's walk over the pages, by a closure over a map and a row: it comes to the model of the reference's walk. No condition. -/
namespace Go.Proofs.Ytngjaajcdbodeaa.All
open Go.RowKit Go.Proofs.YtngjaajcdbodeaaW.PrintWords Go.Proofs.YtngjaajcdbodeaaW.PrintLast Go.Proofs.YtngjaajcdbodeaaW.PrintMore Go.Proofs.Ytngjaajcdbodeaa.Sq
set_option linter.unusedVariables false
set_option linter.unusedSimpArgs false

/-- Block b is the map of those that were met. -/
def MetOk (w : World) (b : Nat) (out : List Int) : Prop := ∃ (n : Nat) (D : DataW Unit), n ≤ out.length ∧ Go.Maps.IsMap D ∧ w.ownsMap Try.prog 3 (plainElem Try.prog 3) b n D ∧ ∀ i, (Lit.int .i64 i).wf = true → D.atKey (.int .i64 i) (.lit (.int .i64 0)) = .lit (.int .i64 (if i ∈ out then 1 else 0))
theorem MetOk.step {w w' : World} {b : Nat} {out : List Int} (h : MetOk w b out) (he : w'.heap[b]? = w.heap[b]?) : MetOk w' b out := by
  obtain ⟨n, D, h1, h2, ⟨es, clock, hb, hr⟩, h4⟩ := h; exact ⟨n, D, h1, h2, ⟨es, clock, he.trans hb, hr⟩, h4⟩
theorem MetOk.isMap {w : World} {b : Nat} {out : List Int} (h : MetOk w b out) : ∃ es clock, w.heap[b]? = some (.map es clock) := by
  obtain ⟨n, D, h1, h2, ⟨es, clock, hb, hr⟩, h4⟩ := h; exact ⟨es, clock, hb⟩
theorem MetOk.made (w : World) : MetOk (w.alloc (.map #[] 0)) w.heap.size [] := ⟨0, .map [], Nat.le_refl _, ⟨[], rfl⟩, World.ownsMap_made w _ _ _, fun i _ => rfl⟩
theorem MetOk.put {w' : World} {b : Nat} {out : List Int} {i : Int} {n : Nat} {D : DataW Unit} (hn : n ≤ out.length) (hm : Go.Maps.IsMap D) (h : w'.ownsMap Try.prog 3 (plainElem Try.prog 3) b (n + 1) (D.put (.int .i64 i) (.lit (.int .i64 1)))) (ha : ∀ i, (Lit.int .i64 i).wf = true → D.atKey (.int .i64 i) (.lit (.int .i64 0)) = .lit (.int .i64 (if i ∈ out then 1 else 0))) : MetOk w' b (out ++ [i]) := by
  refine ⟨n + 1, _, by simp; omega, ?_, h, fun j hj => ?_⟩
  · obtain ⟨es, rfl⟩ := hm
    exact ⟨_, DataW.put_eq _ _ _⟩
  · by_cases hji : j = i
    · subst hji
      rw [Go.Maps.atKey_put_same hm (show WideAt.IsKeyLit (.int .i64 j) from trivial)]
      simp
    · rw [Go.Maps.atKey_put_other (fun e => hji (by injection e)), ha j hj]
      simp [hji]
/-- What stands while the walk goes on. -/
structure VState (w0 : World) (g2 g5 g6 g7 bm : Nat) (root : Int) (A : Option Addr) (c n : Nat) (w : World) (out mo : List Int) : Prop where
  below : Below w0.heap.size w0 w
  box : w.heap[g2]? = some (.cells #[.int .i64 root, .slice A n c] 49 (0, 0))
  met : w.heap[g6]? = some (.cells #[.map (some bm)] 104 (0, 0))
  row : ∃ A v c, v = .slice A out.length c ∧ w.heap[g5]? = some (.cells #[v] 64 (0, 0)) ∧ Kd.R (Kd.int .i64) 3 w w0.heap.size (fun _ => True) v out
  fn : w.heap[g7]? = some (.cells #[.func (.func 144) #[] #[.pointer (some ⟨g2, 0, none⟩), .pointer (some ⟨g6, 0, none⟩), .pointer (some ⟨g5, 0, none⟩), .pointer (some ⟨g7, 0, none⟩)]] 137 (0, 0))
  map : MetOk w bm mo
  g5b : w0.heap.size ≤ g5
  bmb : w0.heap.size ≤ bm
section
variable {w0 : World} {g2 g5 g6 g7 bm : Nat} {root : Int} {A : Option Addr} {c n : Nat} {w w' : World} {out mo mo' : List Int}
theorem VState.next (h : VState w0 g2 g5 g6 g7 bm root A c n w out mo) (hb : Below w.heap.size w w') : VState w0 g2 g5 g6 g7 bm root A c n w' out mo := by
  obtain ⟨Av, v, cv, ev, h5, hr⟩ := h.row; obtain ⟨es, clock, hm⟩ := h.map.isMap; exact ⟨below_step h.below hb, blk_below h.box hb, blk_below h.met hb, ⟨Av, v, cv, ev, blk_below h5 hb, Kd.R_below hr hb⟩, blk_below h.fn hb, h.map.step ((blk_below hm hb).trans hm.symm), h.g5b, h.bmb⟩
theorem VState.drewN (h : VState w0 g2 g5 g6 g7 bm root A c n w out mo) (m : Nat) : VState w0 g2 g5 g6 g7 bm root A c n (w.drewN m) out mo := h.next (pw_below_drewN (Below.refl _ _) m)
theorem blkNe {g g' : Nat} {t t' : TypeId} {cs cs' : Array Value} (h : w.heap[g]? = some (.cells cs t (0, 0))) (h' : w.heap[g']? = some (.cells cs' t' (0, 0))) (hne : t ≠ t') : g ≠ g' := by
  rintro rfl
  rw [h] at h'
  injection h' with h'
  injection h' with _ ht
  exact hne ht
theorem cells_ne_map {g b : Nat} {cs : Array Value} {t : TypeId} {fr : Nat × Nat} {es : Array _} {clock : Nat} (hc : w.heap[g]? = some (.cells cs t fr)) (hm : w.heap[b]? = some (.map es clock)) : some g ≠ some b := by
  intro e
  injection e with e
  subst e; rw [hc] at hm
  cases hm
theorem VState.put (h : VState w0 g2 g5 g6 g7 bm root A c n w out mo) (hg : w.grownBy w' (some bm)) (hm : MetOk w' bm mo') : VState w0 g2 g5 g6 g7 bm root A c n w' out mo' := by
  obtain ⟨Av, v, cv, ev, h5, hr⟩ := h.row; obtain ⟨es, clock, hmm⟩ := h.map.isMap; refine ⟨h.below.grown hg h.below.size (fun k hk => ?_), blk_grown h.box hg (cells_ne_map h.box hmm), blk_grown h.met hg (cells_ne_map h.met hmm), ⟨Av, v, cv, ev, blk_grown h5 hg (cells_ne_map h5 hmm), ?_⟩, blk_grown h.fn hg (cells_ne_map h.fn hmm), hm, h.g5b, h.bmb⟩
  · injection hk with hk
    rw [← hk]; exact h.bmb
  · refine Kd.R_mono (Kd.R_step (Kd.R_bound hr) (fun k hk hlt => hg.block k hlt ?_)) (fun _ _ => trivial)
    obtain ⟨_, _, _, q, hq, cells, hc⟩ := hk; exact cells_ne_map hc hmm
theorem VState.app (h : VState w0 g2 g5 g6 g7 bm root A c n w out mo) {v v5 : Value} {xs : List Int} (hcell : w.heap[g5]? = some (.cells #[v] 64 (0, 0))) (hv : Kd.R (Kd.int .i64) 3 w w0.heap.size (fun _ => True) v out) (hg : w.grownBy w' v.ownBlock) (hb : Below w0.heap.size w0 w') (hr : Kd.R (Kd.int .i64) 3 w' w0.heap.size (fun _ => True) v5 xs) :
    VState w0 g2 g5 g6 g7 bm root A c n (w'.setCell ⟨g5, 0, none⟩ v5) xs mo := by
  obtain ⟨es, clock, hmm⟩ := h.map.isMap; obtain ⟨A5, c5, e5⟩ := Kd.R_slice hr; have k2 := blk_grown h.box hg (Kd.R_ne hv h.box (by decide)); have k6 := blk_grown h.met hg (Kd.R_ne hv h.met (by decide)); have k5 := blk_grown hcell hg (Kd.R_ne hv hcell (by decide)); have k7 := blk_grown h.fn hg (Kd.R_ne hv h.fn (by decide))
  have km : w'.heap[bm]? = w.heap[bm]? := hg.block bm (blk_lt hmm) (fun e => by
    obtain ⟨inner, ho⟩ := Kd.R_own hv; obtain ⟨cells, hc⟩ := Kd.R_typed hv bm e.symm
    exact cells_ne_map hc hmm rfl)
  have far : ∀ {g : Nat}, g ≠ g5 → (w'.setCell ⟨g5, 0, none⟩ v5).heap[g]? = w'.heap[g]? := fun hne => Below.heap_setCell w' _ v5 _ hne
  exact ⟨below_set hb h.g5b, (far (blkNe k2 k5 (by decide))).trans k2, (far (blkNe k6 k5 (by decide))).trans k6, ⟨A5, v5, c5, e5, blk_put k5 0 v5 rfl, Kd.R_mono (Kd.R_far (Kd.R_types hr k5 (by decide)) (fun _ hk => hk.2) v5) (fun _ _ => trivial)⟩,
    (far (blkNe k7 k5 (by decide))).trans k7, h.map.step ((far (fun e => cells_ne_map hcell hmm (by rw [e]))).trans km), h.g5b, h.bmb⟩
end

def VisitSaid (w0 : World) (g2 g5 g6 g7 bm : Nat) (root : Int) (A : Option Addr) (c : Nat) (ps : List S90) (k : Nat) : Prop :=
  ∀ (i : Int) (xs r : List Int) (w : World), VState w0 g2 g5 g6 g7 bm root A c ps.length w xs xs → walkM k ps i xs = some r →
    Calls Try.prog 144 #[.int .i64 i, .pointer (some ⟨g2, 0, none⟩), .pointer (some ⟨g6, 0, none⟩), .pointer (some ⟨g5, 0, none⟩), .pointer (some ⟨g7, 0, none⟩)] w (fun e w' => ∃ v, e = .returned v ∧ VState w0 g2 g5 g6 g7 bm root A c ps.length w' r r)


theorem used_f (a : Int) (ps : List S90) (i : Int) : impl_used.f a ps i = some (decide (pgOk ps i)) := by
  unfold impl_used.f impl_exists.f pgOk
  by_cases h0 : i ≥ 0
  · rw [if_pos h0]
    simp only [Option.bind_some]
    by_cases h1 : i < ps.length
    · simp only [h1, decide_true, if_true]
      rw [if_pos (by omega)]
      simp [show (0 : Int) ≤ i from h0]
    · simp [h1]
  · rw [if_neg h0]
    simp [h0]

set_option maxHeartbeats 8000000 in
set_option maxRecDepth 100000 in
theorem visit_out (w0 : World) (g2 g5 g6 g7 bm : Nat) (A : Option Addr) (c : Nat) (ps : List S90) (hr0 : Kd.C k90 w0 A ps.length ps) (hc0 : ps.length ≤ c)
    (root i : Int) (xs : List Int) (w : World) (hv : VState w0 g2 g5 g6 g7 bm root A c ps.length w xs xs) (hno : ¬ pgOk ps i) :
    Calls Try.prog 144 #[.int .i64 i, .pointer (some ⟨g2, 0, none⟩), .pointer (some ⟨g6, 0, none⟩), .pointer (some ⟨g5, 0, none⟩), .pointer (some ⟨g7, 0, none⟩)] w (fun e w' => ∃ v, e = .returned v ∧ VState w0 g2 g5 g6 g7 bm root A c ps.length w' xs xs) := by
  have HR := Aside0.mk hr0; have HC := Aside0.mk hc0; have HV := Aside0.mk hv; have HU := Aside0.mk ((used_f root ps i).trans (congrArg some (decide_eq_false hno))); clear hr0 hc0 hv hno; have hu1 := Try.underlying90; have hu2 := Try.underlying49; have hk0 : w.cell? ⟨g2, 0, none⟩ = some (.int .i64 root) := (blk_cell HV.out.box 0).trans rfl; have hk1 : w.cell? ⟨g2, 1, none⟩ = some (.slice A ps.length c) := (blk_cell HV.out.box 1).trans rfl
  go_enter Try.func144, Try.ntmps144
  go_wp2_with (go_at_call 89; refine (impl_used.calls root _ c ps i _ _ (Kd.C_below HR.out HV.out.below) HC.out HU.out).mono ?_; rintro e w1 ⟨rfl, hb1⟩; have HV1 := Aside0.mk (HV.out.next hb1); clear hb1 hk0 hk1 HV)
  refine bodyPost_ret (results_none rfl _ _ _) rfl ?_; exact ⟨_, rfl, HV1.out⟩

theorem zero_int (w : World) : (zeroValue 3).run Try.prog w = .ok (.int .i64 0) w := by kernel_rfl
theorem look_eq {D : DataW Unit} {i c m : Int} (h : D.atKey (.int .i64 i) (.lit (.int .i64 0)) = .lit (.int .i64 m)) (hc : D.atKey (.int .i64 i) (.lit (.int .i64 0)) = .lit (.int .i64 c)) : c = m := by
  rw [h] at hc
  injection hc with hc
  injection hc with _ hc
  exact hc.symm
set_option maxHeartbeats 8000000 in
set_option maxRecDepth 100000 in
theorem visit_met (w0 : World) (g2 g5 g6 g7 bm : Nat) (A : Option Addr) (c : Nat) (ps : List S90) (hr0 : Kd.C k90 w0 A ps.length ps) (hc0 : ps.length ≤ c)
    (root i : Int) (xs : List Int) (w : World) (hv : VState w0 g2 g5 g6 g7 bm root A c ps.length w xs xs) (hyes : pgOk ps i) (hwf : (Lit.int .i64 i).wf = true) (hin : i ∈ xs) :
    Calls Try.prog 144 #[.int .i64 i, .pointer (some ⟨g2, 0, none⟩), .pointer (some ⟨g6, 0, none⟩), .pointer (some ⟨g5, 0, none⟩), .pointer (some ⟨g7, 0, none⟩)] w (fun e w' => ∃ v, e = .returned v ∧ VState w0 g2 g5 g6 g7 bm root A c ps.length w' xs xs) := by
  have HR := Aside0.mk hr0; have HC := Aside0.mk hc0; have HV := Aside0.mk hv; have HU := Aside0.mk ((used_f root ps i).trans (congrArg some (decide_eq_true hyes))); have HIN := Aside0.mk hin; have HWF := Aside0.mk hwf; clear hr0 hc0 hv hyes hin hwf; have hu1 := Try.underlying90; have hu2 := Try.underlying49; have hk0 : w.cell? ⟨g2, 0, none⟩ = some (.int .i64 root) := (blk_cell HV.out.box 0).trans rfl; have hk1 : w.cell? ⟨g2, 1, none⟩ = some (.slice A ps.length c) := (blk_cell HV.out.box 1).trans rfl
  go_enter Try.func144, Try.ntmps144
  go_wp2_with (first
    | (go_at_call 89; refine (impl_used.calls root _ c ps i _ _ (Kd.C_below HR.out HV.out.below) HC.out HU.out).mono ?_; rintro e w1 ⟨rfl, hb1⟩; have HV1 := Aside0.mk (HV.out.next hb1); clear hb1 hk0 hk1 HV; have hk6 : w1.cell? ⟨g6, 0, none⟩ = some (.map (some bm)) := (blk_cell HV1.out.met 0).trans rfl; obtain ⟨nm, Dm, hnm, him, hom, hcm⟩ := HV1.out.map; have HNM := Aside0.mk hnm; have HIM := Aside0.mk him; have HOM := Aside0.mk hom; have HCM := Aside0.mk hcm; clear hnm him hom hcm) | ((try (refine gate_guard (by rfl) ?_; dsimp only)); at_lookup; refine wpList_lookup_own_int _ rfl _ _ 104 rfl 3 3 .i64 (Go.Maps.int_keyed Try.underlying3) Try.underlying104 Try.underlying3 (zero_int _) bm nm Dm rfl HOM.out _ _ rfl (Go.Maps.keyOf_int_mk Try.underlying3 HWF.out) ?_; intro cm hat hwc; obtain rfl : cm = 1 := (look_eq (HCM.out i HWF.out) hat).trans (if_pos HIN.out); clear hat hwc))
  refine bodyPost_ret (results_none rfl _ _ _) rfl ?_; exact ⟨_, rfl, HV1.out⟩

theorem walkL_leaf {k : Nat} {ps : List S90} {es : List S103} {o r : List Int} {x : Int} (h : walkL k ps true es o x = some r) : r = o := by
  cases k with
  | zero => simp [walkL] at h
  | succ k =>
    rw [walkL, if_pos rfl] at h
    split at h <;> exact (Option.some.inj h).symm
theorem set5_below {W w7 : World} {g : Nat} (h : Below W.heap.size W w7) (hg : g = W.heap.size) (a b c d e : Value) : Below W.heap.size W (((((w7.setCell ⟨g, 0, none⟩ a).setCell ⟨g, 1, none⟩ b).setCell ⟨g, 2, none⟩ c).setCell ⟨g, 3, none⟩ d).setCell ⟨g, 4, none⟩ e) := by
  have hl := Nat.le_of_eq hg.symm; exact below_set (below_set (below_set (below_set (below_set h hl) hl) hl) hl) hl
theorem VState.fncell {w0 : World} {g2 g5 g6 g7 bm : Nat} {root : Int} {A : Option Addr} {c n : Nat} {w : World} {out mo : List Int} (h : VState w0 g2 g5 g6 g7 bm root A c n w out mo) : w.cell? ⟨g7, 0, none⟩ = some (.func (.func 144) #[] #[.pointer (some ⟨g2, 0, none⟩), .pointer (some ⟨g6, 0, none⟩), .pointer (some ⟨g5, 0, none⟩), .pointer (some ⟨g7, 0, none⟩)]) := (blk_cell h.fn 0).trans rfl
theorem set5_cell {w7 : World} {g t : Nat} {z0 z1 z2 z3 z4 : Value} (h : w7.heap[g]? = some (.cells #[z0, z1, z2, z3, z4] t (0, 0))) (a b c d e : Value) : (((((w7.setCell ⟨g, 0, none⟩ a).setCell ⟨g, 1, none⟩ b).setCell ⟨g, 2, none⟩ c).setCell ⟨g, 3, none⟩ d).setCell ⟨g, 4, none⟩ e).cell? ⟨g, 0, none⟩ = some a := by
  have h1 := blk_put (cs' := #[a, z1, z2, z3, z4]) h 0 a rfl; have h2 := blk_put (cs' := #[a, b, z2, z3, z4]) h1 1 b rfl; have h3 := blk_put (cs' := #[a, b, c, z3, z4]) h2 2 c rfl; have h4 := blk_put (cs' := #[a, b, c, d, z4]) h3 3 d rfl; have h5 := blk_put (cs' := #[a, b, c, d, e]) h4 4 e rfl; exact (blk_cell h5 0).trans rfl
theorem store5_run (o : Oper) (a : Act) (p v : Tmp) (hop : o.op = .store 103 (.tmp p) (.tmp v)) (g : Nat) (w7 : World) (b0 b1 b2 b3 b4 : Int) (hp : a.eval (.tmp p) = .pointer (some ⟨g, 0, none⟩)) (hv : a.eval (.tmp v) = .agg #[.int .i64 b0, .int .i64 b1, .int .i64 b2, .int .i64 b3, .int .i64 b4])
    (hbox : w7.heap[g]? = some (.cells #[.int .i64 0, .int .i64 0, .int .i64 0, .int .i64 0, .int .i64 0] 103 (0, 0))) :
    (execOp a.eval o).run Try.prog w7 = .ok .skip (((((w7.setCell ⟨g, 0, none⟩ (.int .i64 b0)).setCell ⟨g, 1, none⟩ (.int .i64 b1)).setCell ⟨g, 2, none⟩ (.int .i64 b2)).setCell ⟨g, 3, none⟩ (.int .i64 b3)).setCell ⟨g, 4, none⟩ (.int .i64 b4)) := by
  have hu1 := Try.underlying103; have hs0 : w7.cell? ⟨g, 0, none⟩ = some (.int .i64 0) := (blk_cell hbox 0).trans rfl; have hs1 : w7.cell? ⟨g, 1, none⟩ = some (.int .i64 0) := (blk_cell hbox 1).trans rfl; have hs2 : w7.cell? ⟨g, 2, none⟩ = some (.int .i64 0) := (blk_cell hbox 2).trans rfl; have hs3 : w7.cell? ⟨g, 3, none⟩ = some (.int .i64 0) := (blk_cell hbox 3).trans rfl; have hs4 : w7.cell? ⟨g, 4, none⟩ = some (.int .i64 0) := (blk_cell hbox 4).trans rfl; have hf0 := blk_frozen hbox 0; have hf1 := blk_frozen hbox 1; have hf2 := blk_frozen hbox 2; have hf3 := blk_frozen hbox 3; have hf4 := blk_frozen hbox 4; clear hbox; unfold execOp; rw [hop]
  simp only [hp, hv]
  clear hop hp hv
  first | (go_simp; done) | (go_simp; rfl)
theorem hinfoInt5 : (Try.prog.info? 3).map (fun i => (i.zero, i.size, i.bytes)) = some (some (.int .i64 0), 1, 8) := hinfoInt
set_option maxHeartbeats 16000000 in
set_option maxRecDepth 100000 in
theorem visit_new (w0 : World) (g2 g5 g6 g7 bm : Nat) (A : Option Addr) (c : Nat) (ps : List S90) (hr0 : Kd.C k90 w0 A ps.length ps) (hc0 : ps.length ≤ c)
    (root i : Int) (xs : List Int) (w : World) (hv : VState w0 g2 g5 g6 g7 bm root A c ps.length w xs xs) (hyes : pgOk ps i) (hwf : (Lit.int .i64 i).wf = true) (hin : ¬ i ∈ xs) (hlen : xs.length < 17592186044415)
    (k : Nat) (ih : ∀ k', k' ≤ k → VisitSaid w0 g2 g5 g6 g7 bm root A c ps k') (r : List Int) (h : walkL k ps (rd_T90 ps i).f1.f0 (rd_T90 ps i).f1.f1 (xs ++ [i]) 0 = some r) :
    Calls Try.prog 144 #[.int .i64 i, .pointer (some ⟨g2, 0, none⟩), .pointer (some ⟨g6, 0, none⟩), .pointer (some ⟨g5, 0, none⟩), .pointer (some ⟨g7, 0, none⟩)] w (fun e w' => ∃ v, e = .returned v ∧ VState w0 g2 g5 g6 g7 bm root A c ps.length w' r r) := by
  have HR := Aside0.mk hr0; have HC := Aside0.mk hc0; have HV := Aside0.mk hv; have HU := Aside0.mk ((used_f root ps i).trans (congrArg some (decide_eq_true hyes))); have HIN := Aside0.mk hin; have HWF := Aside0.mk hwf; have HLEN := Aside0.mk hlen; have IH := Aside0.mk ih; have H' := Aside0.mk h; clear hr0 hc0 hv hin hwf hlen ih h; have hu1 := Try.underlying90; have hu2 := Try.underlying49; have hk0 : w.cell? ⟨g2, 0, none⟩ = some (.int .i64 root) := (blk_cell HV.out.box 0).trans rfl; have hk1 : w.cell? ⟨g2, 1, none⟩ = some (.slice A ps.length c) := (blk_cell HV.out.box 1).trans rfl; have hu3 := Try.underlying54; obtain ⟨h0, h1, hus⟩ := hyes; obtain ⟨ad, A2, c2, e2, hz0, hz1, hz2, hl2, hC2⟩ := at_T90 HR.out i h0 h1; subst e2; have HC2 := Aside0.mk hC2; have HL2 := Aside0.mk hl2; have HZ1 := Aside0.mk hz1; have HZ2 := Aside0.mk hz2; clear hC2 hl2 hz0 hz1 hz2 hus; obtain ⟨bl, hbl⟩ : ∃ b : Bool, b = (rd_T90 ps i).f1.f0 := ⟨_, rfl⟩; obtain ⟨es, hes⟩ : ∃ l : List S103, l = (rd_T90 ps i).f1.f1 := ⟨_, rfl⟩; rw [← hbl] at HZ1 H'; rw [← hes] at HZ2 H' HC2 HL2; clear hbl hes
  cases bl with
  | true =>
    go_enter Try.func144, Try.ntmps144
    go_wp2_with (first
      | (go_at_call 89; refine (impl_used.calls root _ c ps i _ _ (Kd.C_below HR.out HV.out.below) HC.out HU.out).mono ?_; rintro e w1 ⟨rfl, hb1⟩; have HV1 := Aside0.mk (HV.out.next hb1); clear hb1 hk0 hk1 HV; have hk6 : w1.cell? ⟨g6, 0, none⟩ = some (.map (some bm)) := (blk_cell HV1.out.met 0).trans rfl; obtain ⟨nm, Dm, hnm, him, hom, hcm⟩ := HV1.out.map; have HNM := Aside0.mk hnm; have HIM := Aside0.mk him; have HOM := Aside0.mk hom; have HCM := Aside0.mk hcm; clear hnm him hom hcm) | ((try (refine gate_guard (by rfl) ?_; dsimp only)); at_lookup; refine wpList_lookup_own_int _ rfl _ _ 104 rfl 3 3 .i64 (Go.Maps.int_keyed Try.underlying3) Try.underlying104 Try.underlying3 (zero_int _) bm nm Dm rfl HOM.out _ _ rfl (Go.Maps.keyOf_int_mk Try.underlying3 HWF.out) ?_; intro cm hat hwc; obtain rfl : cm = 0 := (look_eq (HCM.out i HWF.out) hat).trans (if_neg HIN.out); clear hat hwc)
      | (at_mapUpdate; refine wpList_mapUpdate_own _ rfl _ _ _ 104 rfl 3 3 (Go.Maps.int_keyed Try.underlying3) Try.underlying104 _ bm nm Dm rfl HOM.out (by have := HNM.out; have := HLEN.out; unfold maxLen; omega) _ _ (.int .i64 i) rfl rfl (Go.Maps.keyOf_int_mk Try.underlying3 HWF.out) (.lit (.int .i64 1)) [] (plainElem_int Try.underlying3 (by decide)) ?_; intro w2 hown2 hg2; have HV2 := Aside0.mk (HV1.out.put hg2 (MetOk.put HNM.out HIM.out hown2 HCM.out)); clear hown2 hg2 hk6; obtain ⟨Av, vv, cv, evv, h5c, hvr⟩ := HV2.out.row; subst evv; have HVR := Aside0.mk hvr; have H5C := Aside0.mk h5c; have hk5 : w2.cell? ⟨g5, 0, none⟩ = some (.slice Av xs.length cv) := (blk_cell h5c 0).trans rfl; have hf5 := blk_frozen h5c 0; clear hvr h5c)
      | ((with_reducible refine gate_builtin (b := .append) (xs := #[.tmp 20, .tmp 22]) rfl ?_); at_builtin; refine Kd.R_append (Kd.int .i64) (w0 := w0) w0.heap.size rfl (.tmp 20) (.tmp 22) 64 3 (.int .i64 0) 8 rfl Try.underlying64 hinfoInt rfl (by decide) (by omega) (.slice Av xs.length cv) xs i [.int .i64 i] (fun _ => True) (fun _ => False) rfl rfl rfl (fun _ hk => hk.elim) (fun _ _ => trivial) HVR.out HV2.out.below HV2.out.below.size (by have := HLEN.out; omega) ?_; intro v5 w5 ho5 hb5 hg5 hat5; obtain ⟨A5, c5, e5⟩ := Kd.R_slice ho5; subst e5; have HV5 := Aside0.mk (HV2.out.app H5C.out HVR.out hg5 hb5 ho5); have hk5b : w5.cell? ⟨g5, 0, none⟩ = some (.slice Av xs.length cv) := (blk_cell (blk_grown H5C.out hg5 (Kd.R_ne HVR.out H5C.out (by decide))) 0).trans rfl; have hf5b := blk_frozen (blk_grown H5C.out hg5 (Kd.R_ne HVR.out H5C.out (by decide))) 0; clear ho5 hb5 hg5 hat5 hk5 hf5 HV2 HV1)
      | ((with_reducible refine gate_store (t := 64) (p := 3) rfl ?_); refine store_event (t := 64) (p := 3) (v := ?vo8) (w1 := (w5.setCell ⟨g5, 0, none⟩ (.slice A5 (xs ++ [i]).length c5))) ?hg ?ho ?hn ?hr ?_; (case ho => rfl); (case hg => rfl); (case hn => rfl); (case hr => first | (go_simp; done) | (go_simp; rfl)); intro w6 hw; rw [← hw] at HV5; clear hw; have hx1 := (HV5.out.below.cell (World.block_lt_of_cell? w0 _ HZ1.out)).trans HZ1.out; have hx2 := (HV5.out.below.cell (World.block_lt_of_cell? w0 _ HZ2.out)).trans HZ2.out; have hk1 : w6.cell? ⟨g2, 1, none⟩ = some (.slice (some ad) ps.length c) := (blk_cell HV5.out.box 1).trans rfl))
    go_end0
    obtain rfl := walkL_leaf H'.out; exact ⟨_, rfl, HV5.out⟩
  | false =>
    go_enter Try.func144, Try.ntmps144
    go_wp2_with (first
      | (go_at_call 89; refine (impl_used.calls root _ c ps i _ _ (Kd.C_below HR.out HV.out.below) HC.out HU.out).mono ?_; rintro e w1 ⟨rfl, hb1⟩; have HV1 := Aside0.mk (HV.out.next hb1); clear hb1 hk0 hk1 HV; have hk6 : w1.cell? ⟨g6, 0, none⟩ = some (.map (some bm)) := (blk_cell HV1.out.met 0).trans rfl; obtain ⟨nm, Dm, hnm, him, hom, hcm⟩ := HV1.out.map; have HNM := Aside0.mk hnm; have HIM := Aside0.mk him; have HOM := Aside0.mk hom; have HCM := Aside0.mk hcm; clear hnm him hom hcm) | ((try (refine gate_guard (by rfl) ?_; dsimp only)); at_lookup; refine wpList_lookup_own_int _ rfl _ _ 104 rfl 3 3 .i64 (Go.Maps.int_keyed Try.underlying3) Try.underlying104 Try.underlying3 (zero_int _) bm nm Dm rfl HOM.out _ _ rfl (Go.Maps.keyOf_int_mk Try.underlying3 HWF.out) ?_; intro cm hat hwc; obtain rfl : cm = 0 := (look_eq (HCM.out i HWF.out) hat).trans (if_neg HIN.out); clear hat hwc)
      | (at_mapUpdate; refine wpList_mapUpdate_own _ rfl _ _ _ 104 rfl 3 3 (Go.Maps.int_keyed Try.underlying3) Try.underlying104 _ bm nm Dm rfl HOM.out (by have := HNM.out; have := HLEN.out; unfold maxLen; omega) _ _ (.int .i64 i) rfl rfl (Go.Maps.keyOf_int_mk Try.underlying3 HWF.out) (.lit (.int .i64 1)) [] (plainElem_int Try.underlying3 (by decide)) ?_; intro w2 hown2 hg2; have HV2 := Aside0.mk (HV1.out.put hg2 (MetOk.put HNM.out HIM.out hown2 HCM.out)); clear hown2 hg2 hk6; obtain ⟨Av, vv, cv, evv, h5c, hvr⟩ := HV2.out.row; subst evv; have HVR := Aside0.mk hvr; have H5C := Aside0.mk h5c; have hk5 : w2.cell? ⟨g5, 0, none⟩ = some (.slice Av xs.length cv) := (blk_cell h5c 0).trans rfl; have hf5 := blk_frozen h5c 0; clear hvr h5c)
      | ((with_reducible refine gate_builtin (b := .append) (xs := #[.tmp 20, .tmp 22]) rfl ?_); at_builtin; refine Kd.R_append (Kd.int .i64) (w0 := w0) w0.heap.size rfl (.tmp 20) (.tmp 22) 64 3 (.int .i64 0) 8 rfl Try.underlying64 hinfoInt rfl (by decide) (by omega) (.slice Av xs.length cv) xs i [.int .i64 i] (fun _ => True) (fun _ => False) rfl rfl rfl (fun _ hk => hk.elim) (fun _ _ => trivial) HVR.out HV2.out.below HV2.out.below.size (by have := HLEN.out; omega) ?_; intro v5 w5 ho5 hb5 hg5 hat5; obtain ⟨A5, c5, e5⟩ := Kd.R_slice ho5; subst e5; have HV5 := Aside0.mk (HV2.out.app H5C.out HVR.out hg5 hb5 ho5); have hk5b : w5.cell? ⟨g5, 0, none⟩ = some (.slice Av xs.length cv) := (blk_cell (blk_grown H5C.out hg5 (Kd.R_ne HVR.out H5C.out (by decide))) 0).trans rfl; have hf5b := blk_frozen (blk_grown H5C.out hg5 (Kd.R_ne HVR.out H5C.out (by decide))) 0; clear ho5 hb5 hg5 hat5 hk5 hf5 HV2 HV1)
      | ((with_reducible refine gate_store (t := 64) (p := 3) rfl ?_); refine store_event (t := 64) (p := 3) (v := ?vo8) (w1 := (w5.setCell ⟨g5, 0, none⟩ (.slice A5 (xs ++ [i]).length c5))) ?hg ?ho ?hn ?hr ?_; (case ho => rfl); (case hg => rfl); (case hn => rfl); (case hr => first | (go_simp; done) | (go_simp; rfl)); intro w6 hw; rw [← hw] at HV5; clear hw; have hx1 := (HV5.out.below.cell (World.block_lt_of_cell? w0 _ HZ1.out)).trans HZ1.out; have hx2 := (HV5.out.below.cell (World.block_lt_of_cell? w0 _ HZ2.out)).trans HZ2.out; have hk1 : w6.cell? ⟨g2, 1, none⟩ = some (.slice (some ad) ps.length c) := (blk_cell HV5.out.box 1).trans rfl))
    go_loopg [40] k (fun kq v40 w' => ∃ (o : List Int) (x : Int), v40 = .int .i64 x ∧ Aside0 (walkL kq ps false es o x = some r) ∧ Aside0 (kq ≤ k) ∧ Aside0 (VState w0 g2 g5 g6 g7 bm root (some ad) c ps.length w' o o))
    case atStart => exact ⟨xs ++ [i], 0, rfl, H', ⟨Nat.le_refl _⟩, HV5⟩
    case round =>
      clear H' HV5 hx1 hx2 hk1; obtain ⟨o, x, rfl, HA, HK1, HV⟩ := hrel
      cases gk with
      | zero => exact absurd HA.out (by simp [walkL])
      | succ k1 =>
        have H := HA.out; clear HA; rw [walkL] at H
        by_cases c1 : x < (es.length : Int)
        · rw [if_pos c1, if_neg (by decide)] at H
          have c1b : decide (x < (es.length : Int)) = true := decide_eq_true c1
          by_cases c2b : 0 ≤ x
          · rw [if_pos c2b] at H
            obtain ⟨o2, h2, H⟩ := Option.bind_eq_some_iff.mp H; have H2 := Aside0.mk h2; have H' := Aside0.mk H; clear H h2; obtain ⟨ad2, e2, hy0, hy1, hy2, hy3, hy4⟩ := at_T103 HC2.out x c2b c1; subst e2; replace hy0 := (HV.out.below.cell (World.block_lt_of_cell? w0 _ hy0)).trans hy0; replace hy1 := (HV.out.below.cell (World.block_lt_of_cell? w0 _ hy1)).trans hy1; replace hy2 := (HV.out.below.cell (World.block_lt_of_cell? w0 _ hy2)).trans hy2; replace hy3 := (HV.out.below.cell (World.block_lt_of_cell? w0 _ hy3)).trans hy3; replace hy4 := (HV.out.below.cell (World.block_lt_of_cell? w0 _ hy4)).trans hy4
            go_wp2_with (first
              | ((with_reducible refine gate_dst (N := 7) rfl ?_); refine box_event ?hg (N := 7) ?hd (cs := #[.int .i64 0, .int .i64 0, .int .i64 0, .int .i64 0, .int .i64 0]) (t := 103) ?hr ?_; (case hd => rfl); (case hg => rfl); (case hr => first | (go_simp; done) | (go_simp; rfl)); intro gv hg w7 hbox hb7; have hs0 : w7.cell? ⟨gv, 0, none⟩ = some (.int .i64 0) := (blk_cell hbox 0).trans rfl; have hs1 : w7.cell? ⟨gv, 1, none⟩ = some (.int .i64 0) := (blk_cell hbox 1).trans rfl; have hs2 : w7.cell? ⟨gv, 2, none⟩ = some (.int .i64 0) := (blk_cell hbox 2).trans rfl; have hs3 : w7.cell? ⟨gv, 3, none⟩ = some (.int .i64 0) := (blk_cell hbox 3).trans rfl; have hs4 : w7.cell? ⟨gv, 4, none⟩ = some (.int .i64 0) := (blk_cell hbox 4).trans rfl; have hf0 := blk_frozen hbox 0; have hf1 := blk_frozen hbox 1; have hf2 := blk_frozen hbox 2; have hf3 := blk_frozen hbox 3; have hf4 := blk_frozen hbox 4; have HW7 := Aside0.mk hb7; have BK7 := Aside0.mk hbox; have GW7 := Aside0.mk hg; clear hb7 hg hbox)
              | ((with_reducible refine gate_store (t := 103) (p := 7) rfl ?_); refine store_event (t := 103) (p := 7) (v := ?vo9) (w1 := (((((w7.setCell ⟨gv, 0, none⟩ (.int .i64 (rd_T103 es x).f0)).setCell ⟨gv, 1, none⟩ (.int .i64 (rd_T103 es x).f1.f0)).setCell ⟨gv, 2, none⟩ (.int .i64 (rd_T103 es x).f1.f1)).setCell ⟨gv, 3, none⟩ (.int .i64 (rd_T103 es x).f1.f2)).setCell ⟨gv, 4, none⟩ (.int .i64 (rd_T103 es x).f1.f3))) ?hg ?ho ?hn ?hr ?_; (case ho => rfl); (case hg => rfl); (case hn => rfl); (case hr => exact store5_run _ _ 7 43 rfl gv w7 _ _ _ _ _ rfl rfl BK7.out); intro w8 hw; have hb8 := set5_below HW7.out GW7.out (.int .i64 (rd_T103 es x).f0) (.int .i64 (rd_T103 es x).f1.f0) (.int .i64 (rd_T103 es x).f1.f1) (.int .i64 (rd_T103 es x).f1.f2) (.int .i64 (rd_T103 es x).f1.f3); rw [← hw] at hb8; have HV8 := Aside0.mk (HV.out.next hb8); have hk7 : w8.cell? ⟨gv, 0, none⟩ = some (.int .i64 (rd_T103 es x).f0) := (by rw [hw]; exact set5_cell BK7.out _ _ _ _ _); have hk4 := HV8.out.fncell; clear hw hb8 hs0 hs1 hs2 hs3 hs4 hf0 hf1 hf2 hf3 hf4 HW7 BK7 GW7)
              | (go_at_call 144; refine (IH.out k1 (by have := HK1.out; omega) _ o o2 _ HV8.out H2.out).mono ?_; rintro e w9 ⟨v9, rfl, hv9⟩; clear hk7 hk4))
            go_roundg k1
            case measure => have := HK1.out; omega
            case rel => exact ⟨o2, wrap64 (x + 1), rfl, H', ⟨by have := HK1.out; omega⟩, ⟨hv9⟩⟩
          · rw [if_neg c2b] at H
            exact absurd H (by simp)
        · rw [if_neg c1] at H
          have c1b : decide (x < (es.length : Int)) = false := decide_eq_false c1; obtain rfl := Option.some.inj H; go_wp2
          go_end0
          exact ⟨⟨_, rfl⟩, HV.out⟩

theorem visit_all (w0 : World) (g2 g5 g6 g7 bm : Nat) (root : Int) (A : Option Addr) (c : Nat) (ps : List S90) (hr0 : Kd.C k90 w0 A ps.length ps) (hc0 : ps.length ≤ c) : ∀ k k', k' ≤ k → VisitSaid w0 g2 g5 g6 g7 bm root A c ps k'
  | 0, k', hk => by
    obtain rfl : k' = 0 := by omega
    intro i xs r w _ h
    simp [walkM] at h
  | k + 1, k', hk => by
    rcases Nat.lt_or_ge k' (k + 1) with hlt | hge
    · exact visit_all w0 g2 g5 g6 g7 bm root A c ps hr0 hc0 k k' (by omega)
    obtain rfl : k' = k + 1 := by omega
    intro i xs r w hv h
    rw [walkM] at h; have hmax : ps.length ≤ 9223372036854775807 := hr0.2.1
    by_cases h1 : pgOk ps i
    · rw [if_pos h1] at h
      have hwf : (Lit.int .i64 i).wf = true := by
        have h2 := h1.1; have h3 := h1.2.1; unfold Lit.wf; rw [Bool.and_eq_true, decide_eq_true_eq, decide_eq_true_eq]
        have e1 : IntKind.i64.min = -9223372036854775808 := by decide
        have e2 : IntKind.i64.max = 9223372036854775807 := by decide
        rw [e1, e2]
        omega
      by_cases h3 : xs.length < 17592186044415
      · rw [if_pos h3] at h
        by_cases h2 : i ∈ xs
        · rw [if_pos h2] at h
          obtain rfl := Option.some.inj h; exact visit_met w0 g2 g5 g6 g7 bm A c ps hr0 hc0 root i xs w hv h1 hwf h2
        · rw [if_neg h2] at h
          exact visit_new w0 g2 g5 g6 g7 bm A c ps hr0 hc0 root i xs w hv h1 hwf h2 h3 k (fun k' hk' => visit_all w0 g2 g5 g6 g7 bm root A c ps hr0 hc0 k k' hk') r h
      · rw [if_neg h3] at h
        exact absurd h (by simp)
    · rw [if_neg h1] at h
      obtain rfl := Option.some.inj h; exact visit_out w0 g2 g5 g6 g7 bm A c ps hr0 hc0 root i xs w hv h1

theorem MetOk.below {w w' : World} {b : Nat} {out : List Int} (h : MetOk w b out) (hb : Below w.heap.size w w') : MetOk w' b out := by
  obtain ⟨es, clock, hm⟩ := h.isMap; exact h.step ((blk_below hm hb).trans hm.symm)
theorem blkFarH {w : World} {g g' : Nat} {o : Obj} (h : w.heap[g]? = some o) (hne : g ≠ g') (v : Value) : (w.setCell ⟨g', 0, none⟩ v).heap[g]? = some o := (Below.heap_setCell w _ v _ hne).trans h
theorem MetOk.far {w : World} {b g : Nat} {out : List Int} {cs : Array Value} {t : TypeId} {fr : Nat × Nat} (h : MetOk w b out) (hc : w.heap[g]? = some (.cells cs t fr)) (v : Value) : MetOk (w.setCell ⟨g, 0, none⟩ v) b out := by
  obtain ⟨es, clock, hm⟩ := h.isMap; exact h.step (Below.heap_setCell w _ v _ (fun e => cells_ne_map hc hm (by rw [e])))
theorem func_store (o : Oper) (a : Act) (p v : Tmp) (hop : o.op = .store 137 (.tmp p) (.tmp v)) (g : Nat) (w : World) (f : FuncId) (fs : Array Value) (hp : a.eval (.tmp p) = .pointer (some ⟨g, 0, none⟩)) (hv : a.eval (.tmp v) = .func (.func f) #[] fs)
    (hbox : w.heap[g]? = some (.cells #[.nilFunc] 137 (0, 0))) : (execOp a.eval o).run Try.prog w = .ok .skip (w.setCell ⟨g, 0, none⟩ (.func (.func f) #[] fs)) := by
  have hs : w.cell? ⟨g, 0, none⟩ = some .nilFunc := (blk_cell hbox 0).trans rfl; have hf := blk_frozen hbox 0; have hu := Try.underlying137; unfold execOp; rw [hop]
  simp only [hp, hv]
  have hone : (Value.func (.func f) #[] fs).oneCell' = true := rfl; clear hop hp hv hbox
  first | (go_simp; done) | (go_simp; rfl) | (go_simp; rw [run_store _ _ _ _ _ hone]; simp [hs, hf]; done)
theorem map_event {ops : Array Oper} {rest : List Oper} {o : Oper} {a : Act} {Q : Exit → Act → World → Prop} {W : World} (hgd : o.guard = none) {N : Tmp} (hd : o.dst = some N) (hop : o.op = .makeMap 104 none)
    (h : ∀ g, g = W.heap.size → ∀ w1, MetOk w1 g [] → Below W.heap.size W w1 → wpList Try.prog ops Q rest (a.put o.dst (.map (some g))) w1) : wpList Try.prog ops Q (o :: rest) a W := by
  refine Kd.event_run (v := .map (some W.heap.size)) (w1 := W.alloc (.map #[] 0)) hgd ?_ (h _ rfl _ (MetOk.made W) (below_alloc (Below.refl _ _) _)); unfold execOp; rw [hop]
  simp [run_makeMap, Result.andThen]
theorem start_state {w w9 w10 : World} {g2 g5 g6 g7 bm : Nat} {root : Int} {A : Option Addr} {c n : Nat} (hb : Below w.heap.size w w9) (h2 : w9.heap[g2]? = some (.cells #[.int .i64 root, .slice A n c] 49 (0, 0))) (h6 : w9.heap[g6]? = some (.cells #[.map (some bm)] 104 (0, 0))) (h5 : w9.heap[g5]? = some (.cells #[.slice none 0 0] 64 (0, 0))) (h7 : w9.heap[g7]? = some (.cells #[.nilFunc] 137 (0, 0))) (hm : MetOk w9 bm []) (ge5 : w.heap.size ≤ g5) (gem : w.heap.size ≤ bm) (ge7 : w.heap.size ≤ g7) (hw : w10 = w9.setCell ⟨g7, 0, none⟩ (.func (.func 144) #[] #[.pointer (some ⟨g2, 0, none⟩), .pointer (some ⟨g6, 0, none⟩), .pointer (some ⟨g5, 0, none⟩), .pointer (some ⟨g7, 0, none⟩)])) : VState w g2 g5 g6 g7 bm root A c n w10 [] [] := by
  subst hw; exact ⟨below_set hb ge7, blkFarH h2 (blkNe h2 h7 (by decide)) _, blkFarH h6 (blkNe h6 h7 (by decide)) _, ⟨none, _, 0, rfl, blkFarH h5 (blkNe h5 h7 (by decide)) _, Kd.R_nil _ _ _ _ _⟩, blk_put h7 0 _ rfl, hm.far h7 _, ge5, gem⟩

/-- The program's walk. -/
def impl_reachFrom.f (k : Nat) (a0_0 : Int) (l0_1 : List S90) (a1 : Int) : Option (List Int) := walkM k l0_1 a1 []
theorem impl_reachFrom.mono : ∀ a0 a1 a2 k, LeO (impl_reachFrom.f k a0 a1 a2) (impl_reachFrom.f (k + 1) a0 a1 a2) := fun a0 a1 a2 k => (walk_mono k).1 _ _ _
set_option maxHeartbeats 8000000 in
set_option maxRecDepth 100000 in
theorem impl_reachFrom.calls (k : Nat) (a0_0 : Int) (A0_1 : Option Addr) (c0_1 : Nat) (l0_1 : List S90) (a1 : Int) (r : List Int) (w : World) (hr0_1 : Kd.C k90 w A0_1 l0_1.length l0_1) (hc0_1 : l0_1.length ≤ c0_1) (h : impl_reachFrom.f k a0_0 l0_1 a1 = some r) :
    Calls Try.prog 127 #[.agg #[.int .i64 a0_0, .slice A0_1 l0_1.length c0_1], .int .i64 a1] w fun e w' => ∃ v0_ : Value, e = .returned (v0_) ∧ Kd.R (Kd.int .i64) 3 w' w.heap.size (fun _ => True) v0_ r ∧ Below w.heap.size w w' := by
  have HS := Aside0.mk (fun g2 g5 g6 g7 bm => visit_all w g2 g5 g6 g7 bm a0_0 A0_1 c0_1 l0_1 hr0_1 hc0_1 k k (Nat.le_refl _)); have H' := Aside0.mk h; clear hr0_1 hc0_1 h; have hu2 := Try.underlying49
  go_enter Try.func127, Try.ntmps127
  go_wp2_with (first
    | ((with_reducible refine gate_dst (N := 2) rfl ?_); refine box_event ?hg (N := 2) ?hd (cs := #[.int .i64 a0_0, .slice A0_1 l0_1.length c0_1]) (t := 49) ?hr ?_; (case hd => rfl); (case hg => rfl); (case hr => first | (go_simp; done) | (go_simp; rfl)); intro g2 hg w2 hbox hb; have B2 := Aside0.mk hb; have BK2 := Aside0.mk hbox; clear hb hg hbox)
    | ((with_reducible refine gate_dst (N := 5) rfl ?_); refine box_event ?hg (N := 5) ?hd (cs := #[.slice none 0 0]) (t := 64) ?hr ?_; (case hd => rfl); (case hg => rfl); (case hr => first | (go_simp; done) | (go_simp; rfl)); intro g5 hg w5 hbox hb; have B5 := Aside0.mk (below_step B2.out hb); have BK2 := Aside0.mk (blk_below BK2.out hb); have BK5 := Aside0.mk hbox; have GE5 := Aside0.mk (by rw [hg]; exact B2.out.size : w.heap.size ≤ g5); clear hb hg hbox)
    | ((with_reducible refine gate_dst (N := 8) rfl ?_); refine map_event rfl (N := 8) rfl rfl ?_; intro bm hg w8 hmet hb; have B8 := Aside0.mk (below_step B5.out hb); have BK2 := Aside0.mk (blk_below BK2.out hb); have BK5 := Aside0.mk (blk_below BK5.out hb); have GE8 := Aside0.mk (by rw [hg]; exact B5.out.size : w.heap.size ≤ bm); have MET := Aside0.mk hmet; clear hb hg hmet)
    | ((with_reducible refine gate_dst (N := 6) rfl ?_); refine box_event ?hg (N := 6) ?hd (cs := #[.map none]) (t := 104) ?hr ?_; (case hd => rfl); (case hg => rfl); (case hr => first | (go_simp; done) | (go_simp; rfl)); intro g6 hg w6 hbox hb; have B6 := Aside0.mk (below_step B8.out hb); have BK2 := Aside0.mk (blk_below BK2.out hb); have BK5 := Aside0.mk (blk_below BK5.out hb); have MET := Aside0.mk (MET.out.below hb); have BK6 := Aside0.mk hbox; have GE6 := Aside0.mk (by rw [hg]; exact B8.out.size : w.heap.size ≤ g6); have hs6 : w6.cell? ⟨g6, 0, none⟩ = some (.map none) := (blk_cell hbox 0).trans rfl; have hf6 := blk_frozen hbox 0; clear hb hg hbox)
    | ((with_reducible refine gate_store (t := 104) (p := 6) rfl ?_); refine store_event (t := 104) (p := 6) (v := ?vo1) (w1 := (w6.setCell ⟨g6, 0, none⟩ (.map (some bm)))) ?hg ?ho ?hn ?hr ?_; (case ho => rfl); (case hg => rfl); (case hn => rfl); (case hr => first | (go_simp; done) | (go_simp; rfl)); intro w7 hw; have BK2 := Aside0.mk (hw ▸ blkFarH BK2.out (blkNe BK2.out BK6.out (by decide)) (.map (some bm))); have BK5 := Aside0.mk (hw ▸ blkFarH BK5.out (blkNe BK5.out BK6.out (by decide)) (.map (some bm))); have MET := Aside0.mk (hw ▸ MET.out.far BK6.out (.map (some bm))); have B7 := Aside0.mk (hw ▸ below_set B6.out GE6.out : Below w.heap.size w w7); have BK6 := Aside0.mk (hw ▸ blk_put (cs' := #[.map (some bm)]) BK6.out 0 (.map (some bm)) rfl : w7.heap[g6]? = some (.cells #[.map (some bm)] 104 (0, 0))); clear hw hs6 hf6)
    | ((with_reducible refine gate_dst (N := 7) rfl ?_); refine box_event ?hg (N := 7) ?hd (cs := #[.nilFunc]) (t := 137) ?hr ?_; (case hd => rfl); (case hg => rfl); (case hr => first | (go_simp; done) | (go_simp; rfl)); intro g7 hg w9 hbox hb; have B9 := Aside0.mk (below_step B7.out hb); have BK2 := Aside0.mk (blk_below BK2.out hb); have BK5 := Aside0.mk (blk_below BK5.out hb); have BK6 := Aside0.mk (blk_below BK6.out hb); have MET := Aside0.mk (MET.out.below hb); have BK7 := Aside0.mk hbox; have GE7 := Aside0.mk (by rw [hg]; exact B7.out.size : w.heap.size ≤ g7); have hs7 : w9.cell? ⟨g7, 0, none⟩ = some .nilFunc := (blk_cell hbox 0).trans rfl; have hf7 := blk_frozen hbox 0; clear hb hg hbox)
    | ((with_reducible refine gate_store (t := 137) (p := 7) rfl ?_); refine store_event (t := 137) (p := 7) (v := ?vo2) (w1 := (w9.setCell ⟨g7, 0, none⟩ (.func (.func 144) #[] #[.pointer (some ⟨g2, 0, none⟩), .pointer (some ⟨g6, 0, none⟩), .pointer (some ⟨g5, 0, none⟩), .pointer (some ⟨g7, 0, none⟩)]))) ?hg ?ho ?hn ?hr ?_; (case ho => rfl); (case hg => rfl); (case hn => rfl); (case hr => exact func_store _ _ 7 9 rfl g7 w9 _ _ rfl rfl BK7.out); intro w10 hw; have HV := Aside0.mk (start_state B9.out BK2.out BK6.out BK5.out BK7.out MET.out GE5.out GE8.out GE7.out hw); have hk7 : w10.cell? ⟨g7, 0, none⟩ = some (.func (.func 144) #[] #[.pointer (some ⟨g2, 0, none⟩), .pointer (some ⟨g6, 0, none⟩), .pointer (some ⟨g5, 0, none⟩), .pointer (some ⟨g7, 0, none⟩)]) := HV.out.fncell; clear hw hs7 hf7)
    | (go_at_call 144; refine (HS.out g2 g5 g6 g7 bm a1 [] r _ HV.out H'.out).mono ?_; rintro e w11 ⟨v11, rfl, hv⟩; obtain ⟨Av, vv, cv, evv, h5c, hvr⟩ := hv.row; subst evv; have HVR := Aside0.mk hvr; have HBB := Aside0.mk hv.below; have hk5 : w11.cell? ⟨g5, 0, none⟩ = some (.slice Av r.length cv) := (blk_cell h5c 0).trans rfl; clear hv hvr h5c))
  go_ret; exact ⟨_, rfl, HVR.out, HBB.out⟩

end Go.Proofs.Ytngjaajcdbodeaa.All

namespace Go.Proofs.Ytngjaajcdbodeaa.All
open Go.RowKit Go.Proofs.YtngjaajcdbodeaaW.PrintWords Go.Proofs.YtngjaajcdbodeaaW.PrintLast Go.Proofs.YtngjaajcdbodeaaW.PrintMore Go.Proofs.Ytngjaajcdbodeaa.Sq
attribute [local go_sem] max2_int min2_int max_two min_two max_three min_three max_four min_four 
set_option linter.unusedVariables false
set_option linter.unusedSimpArgs false

/-! ### impl_in: function 88 -/
def impl_in.f (a0 : Int) (a1 : Int) (a2 : Int) : Option (Bool) := if a1 ≤ a0 then (some (decide (a0 ≤ a2))) else (some false)
set_option maxHeartbeats 8000000 in
set_option maxRecDepth 100000 in
theorem impl_in.calls (a0 : Int) (a1 : Int) (a2 : Int) (r : Bool) (w : World) (h : impl_in.f a0 a1 a2 = some r) :
    Calls Try.prog 88 #[.int .i64 a0, .int .i64 a1, .int .i64 a2] w fun e w' => e = .returned (.bool r) ∧ Drawn0 w w' := by
  have H : (if a1 ≤ a0 then (some (decide (a0 ≤ a2))) else (some false)) = some r := h; clear h
  by_cases c4 : a1 ≤ a0
  · rw [if_pos c4] at H
    have c4b0 : decide (a1 ≤ a0) = true := decide_eq_true c4; clear c4; obtain rfl := Option.some.inj H
    go_enter Try.func88, Try.ntmps88
    go_wp2; go_ret; exact ⟨by first | rfl | (simp; done) | (simp [*]; done), by repeat (first | exact Drawn0.refl _ | apply Drawn0.step)⟩
  · rw [if_neg c4] at H
    have c4b0 : decide (a1 ≤ a0) = false := decide_eq_false c4; clear c4; obtain rfl := Option.some.inj H
    go_enter Try.func88, Try.ntmps88
    go_wp2; go_ret; exact ⟨by first | rfl | (simp; done) | (simp [*]; done), by repeat (first | exact Drawn0.refl _ | apply Drawn0.step)⟩

end Go.Proofs.Ytngjaajcdbodeaa.All

/- EntryAt returns the place of the first entry of a number, or -1, for every list and number. No condition. -/
namespace Go.Proofs.Ytngjaajcdbodeaa.All
open Go.RowKit Go.Proofs.YtngjaajcdbodeaaW.PrintWords Go.Proofs.YtngjaajcdbodeaaW.PrintLast Go.Proofs.YtngjaajcdbodeaaW.PrintMore Go.Proofs.Ytngjaajcdbodeaa.Sq
set_option linter.unusedVariables false
set_option linter.unusedSimpArgs false

/-! ### impl_EntryAt: by hand -/
def impl_EntryAt.l0 : Nat → List S103 → Int → Int → Option Int
  | 0, _, _, _ => none
  | k + 1, x0, x1, x5 => if x5 < (x0.length : Int) then (if 0 ≤ x5 then (if (rd_T103 x0 x5).f0 = x1 then some x5 else impl_EntryAt.l0 k x0 x1 (wrap64 (x5 + 1))) else none) else some (-1)
def impl_EntryAt.f (k : Nat) (l0 : List S103) (a1 : Int) : Option Int := impl_EntryAt.l0 k l0 a1 0
theorem impl_EntryAt.mono_l : ∀ k, (∀ y0 y1 y2, LeO (impl_EntryAt.l0 k y0 y1 y2) (impl_EntryAt.l0 (k + 1) y0 y1 y2))
  | 0 => fun _ _ _ r h => by simp [impl_EntryAt.l0] at h
  | k + 1 => by
    have ih0 := impl_EntryAt.mono_l k
    intro y0 y1 y2
    unfold impl_EntryAt.l0; exact LeO.ite (LeO.ite (LeO.ite (LeO.refl _) (ih0 _ _ _)) (LeO.refl _)) (LeO.refl _)
theorem impl_EntryAt.mono : ∀ a0 a1 k, LeO (impl_EntryAt.f k a0 a1) (impl_EntryAt.f (k + 1) a0 a1) := fun a0 a1 k => impl_EntryAt.mono_l k _ _ _
set_option maxHeartbeats 8000000 in
set_option maxRecDepth 100000 in
theorem slices_IndexFunc_Entry.calls (k : Nat) (A0 : Option Addr) (c0 : Nat) (l0 : List S103) (a1 r : Int) (g : Nat) (w : World) (hr0 : Kd.C k103 w A0 l0.length l0) (hc0 : l0.length ≤ c0) (hcell : w.cell? ⟨g, 0, none⟩ = some (.int .i64 a1)) (h : impl_EntryAt.l0 k l0 a1 0 = some r) :
    Calls Try.prog 133 #[.slice A0 l0.length c0, .func (.func 134) #[] #[.pointer (some ⟨g, 0, none⟩)]] w fun e w' => e = .returned (.int .i64 r) ∧ Below w.heap.size w w' := by
  have HR := Aside0.mk hr0; have HC := Aside0.mk hc0; have HG := Aside0.mk hcell; have HB := Aside0.mk (Below.refl w.heap.size w); clear hr0 hc0 hcell; have H' := Aside0.mk h; clear h; have hu1 := Try.underlying103
  go_enter Try.func133, Try.ntmps133
  go_wp2
  go_loopg [8] k (fun kq v8 w' => ∃ (x5_1 : Int), v8 = .int .i64 x5_1 ∧ Aside0 (impl_EntryAt.l0 kq l0 a1 x5_1 = some r) ∧ Aside0 (kq ≤ k) ∧ Aside0 (Below w.heap.size w w'))
  case atStart => exact ⟨0, rfl, H', ⟨Nat.le_refl _⟩, HB⟩
  case round =>
    clear H' HB; obtain ⟨x5_1, rfl, HA, HK1, HB⟩ := hrel
    cases gk with
    | zero => exact absurd HA.out (by simp [impl_EntryAt.l0])
    | succ k1 =>
      have H := HA.out; clear HA
      simp only [impl_EntryAt.l0] at H
      by_cases c3 : x5_1 < (l0.length : Int)
      · rw [if_pos c3] at H
        by_cases c4 : 0 ≤ x5_1
        · rw [if_pos c4] at H
          obtain ⟨ad, e, hx0, hx1, hx2, hx3, hx4⟩ := at_T103 HR.out x5_1 c4 c3
          cases e
          replace hx0 := cz HB.out hx0; replace hx1 := cz HB.out hx1; replace hx2 := cz HB.out hx2; replace hx3 := cz HB.out hx3; replace hx4 := cz HB.out hx4; have hxg := (HB.out.cell (World.block_lt_of_cell? w _ HG.out)).trans HG.out; have hlg : g < wr.heap.size := World.block_lt_of_cell? wr _ hxg; have c3b0 : decide (x5_1 < (l0.length : Int)) = true := decide_eq_true c3
          by_cases c5 : (rd_T103 l0 x5_1).f0 = a1
          · rw [if_pos c5] at H
            obtain rfl := Option.some.inj H; have c5b : ((rd_T103 l0 x5_1).f0 == a1) = true := beq_iff_eq.mpr c5; clear c5 H; go_wp2; go_ret; exact ⟨rfl, below_alloc HB.out _⟩
          · rw [if_neg c5] at H
            have H' := Aside0.mk H; clear H; have c5b : ((rd_T103 l0 x5_1).f0 == a1) = false := beq_eq_false_iff_ne.mpr c5; clear c5; go_wp2; go_roundg k1
            case measure => have := HK1.out; omega
            case rel => exact ⟨_, rfl, H', ⟨by have := HK1.out; omega⟩, ⟨below_alloc HB.out _⟩⟩
        · rw [if_neg c4] at H
          exact absurd H (by simp)
      · rw [if_neg c3] at H
        have c3b0 : decide (x5_1 < (l0.length : Int)) = false := decide_eq_false c3; clear c3; obtain rfl := Option.some.inj H; go_wp2; go_ret; exact ⟨rfl, HB.out⟩

set_option maxHeartbeats 4000000 in
set_option maxRecDepth 100000 in
theorem impl_EntryAt.calls (k : Nat) (A0 : Option Addr) (c0 : Nat) (l0 : List S103) (a1 r : Int) (w : World) (hr0 : Kd.C k103 w A0 l0.length l0) (hc0 : l0.length ≤ c0) (h : impl_EntryAt.f k l0 a1 = some r) :
    Calls Try.prog 103 #[.slice A0 l0.length c0, .int .i64 a1] w fun e w' => e = .returned (.int .i64 r) ∧ Below w.heap.size w w' := by
  have HR := Aside0.mk hr0; have HC := Aside0.mk hc0; have H' := Aside0.mk h; clear hr0 hc0 h
  go_enter Try.func103, Try.ntmps103
  go_wp2_with (go_at_call 133; refine (slices_IndexFunc_Entry.calls k _ _ l0 a1 r _ _ (Kd.C_alloc HR.out _) HC.out ((blk_cell (heap_alloc_new w (.cells #[.int .i64 a1] 3)) 0).trans rfl) H'.out).mono ?_; rintro e w' ⟨rfl, hb⟩)
  go_ret; exact ⟨rfl, below_step (below_alloc (Below.refl _ _) _) hb⟩

end Go.Proofs.Ytngjaajcdbodeaa.All

namespace Go.Proofs.Ytngjaajcdbodeaa.All
open Go.RowKit Go.Proofs.YtngjaajcdbodeaaW.PrintWords Go.Proofs.YtngjaajcdbodeaaW.PrintLast Go.Proofs.YtngjaajcdbodeaaW.PrintMore Go.Proofs.Ytngjaajcdbodeaa.Sq
attribute [local go_sem] max2_int min2_int max_two min_two max_three min_three max_four min_four 
set_option linter.unusedVariables false
set_option linter.unusedSimpArgs false

/-! ### impl_BoxOk: function 112 -/
def impl_BoxOk.f (a0_0 : Int) (a0_1 : Int) (a0_2 : Int) (a0_3 : Int) : Option (Bool) := (impl_in.f a0_0 0 a0_2).bind fun t171 => (if t171 = true then ((impl_in.f a0_2 0 255).bind fun t172 => (if t172 = true then ((impl_in.f a0_1 0 a0_3).bind fun t173 => (if t173 = true then ((impl_in.f a0_3 0 255).bind fun t174 => (some t174)) else (some false))) else (some false))) else (some false))
set_option maxHeartbeats 8000000 in
set_option maxRecDepth 100000 in
theorem impl_BoxOk.calls (a0_0 : Int) (a0_1 : Int) (a0_2 : Int) (a0_3 : Int) (r : Bool) (w : World) (h : impl_BoxOk.f a0_0 a0_1 a0_2 a0_3 = some r) :
    Calls Try.prog 112 #[.agg #[.int .i64 a0_0, .int .i64 a0_1, .int .i64 a0_2, .int .i64 a0_3]] w fun e w' => e = .returned (.bool r) ∧ Below w.heap.size w w' := by
  have hu32 := Try.underlying32; have HB := Aside0.mk (Below.refl w.heap.size w); have H : ((impl_in.f a0_0 0 a0_2).bind fun t171 => (if t171 = true then ((impl_in.f a0_2 0 255).bind fun t172 => (if t172 = true then ((impl_in.f a0_1 0 a0_3).bind fun t173 => (if t173 = true then ((impl_in.f a0_3 0 255).bind fun t174 => (some t174)) else (some false))) else (some false))) else (some false))) = some r := h; clear h; replace H := Option.bind_eq_some_iff.mp H; obtain ⟨t171, A20, H⟩ := H; replace H : (if t171 = true then ((impl_in.f a0_2 0 255).bind fun t172 => (if t172 = true then ((impl_in.f a0_1 0 a0_3).bind fun t173 => (if t173 = true then ((impl_in.f a0_3 0 255).bind fun t174 => (some t174)) else (some false))) else (some false))) else (some false)) = some r := H; have A2 := Aside0.mk A20; clear A20
  by_cases c3 : t171 = true
  · subst c3
    replace H : ((impl_in.f a0_2 0 255).bind fun t172 => (if t172 = true then ((impl_in.f a0_1 0 a0_3).bind fun t173 => (if t173 = true then ((impl_in.f a0_3 0 255).bind fun t174 => (some t174)) else (some false))) else (some false))) = some r := (by rw [if_pos rfl] at H; exact H); replace H := Option.bind_eq_some_iff.mp H; obtain ⟨t172, A40, H⟩ := H; replace H : (if t172 = true then ((impl_in.f a0_1 0 a0_3).bind fun t173 => (if t173 = true then ((impl_in.f a0_3 0 255).bind fun t174 => (some t174)) else (some false))) else (some false)) = some r := H; have A4 := Aside0.mk A40; clear A40
    by_cases c5 : t172 = true
    · subst c5
      replace H : ((impl_in.f a0_1 0 a0_3).bind fun t173 => (if t173 = true then ((impl_in.f a0_3 0 255).bind fun t174 => (some t174)) else (some false))) = some r := (by rw [if_pos rfl] at H; exact H); replace H := Option.bind_eq_some_iff.mp H; obtain ⟨t173, A60, H⟩ := H; replace H : (if t173 = true then ((impl_in.f a0_3 0 255).bind fun t174 => (some t174)) else (some false)) = some r := H; have A6 := Aside0.mk A60; clear A60
      by_cases c7 : t173 = true
      · subst c7
        replace H : ((impl_in.f a0_3 0 255).bind fun t174 => (some t174)) = some r := (by rw [if_pos rfl] at H; exact H); replace H := Option.bind_eq_some_iff.mp H; obtain ⟨t174, A80, H⟩ := H; replace H : (some t174) = some r := H; have A8 := Aside0.mk A80; clear A80; obtain rfl := Option.some.inj H
        go_enter Try.func112, Try.ntmps112
        go_wp2_with (first | ((with_reducible refine gate_dst (N := 1) rfl ?_); refine box_event ?hg (N := 1) ?hd (cs := #[.int .i64 a0_0, .int .i64 a0_1, .int .i64 a0_2, .int .i64 a0_3]) (t := 32) ?hr ?_; (case hd => rfl); (case hg => rfl); (case hr => first | (go_simp; done) | (go_simp; rfl)); intro gb170 hg w9 hbox hb; have n0_ := Aside0.mk (below_step (bz HB.out) hb); have n1_ := Aside0.mk (hbox); have n2_ := Aside0.mk ((by rw [hg]; exact (below_size (bz HB.out)) : w.heap.size ≤ gb170)); have n3_ := Aside0.mk ((by rw [hg]; exact (below_size (bz HB.out)) : w.heap.size ≤ gb170)); clear HB; have HB := n0_; have BK170 := n1_; have GW170 := n2_; have GE170 := n3_; clear n0_ n1_ n2_ n3_; clear hb hbox hg; have hcz10_0 := fz BK170.out 0 (.int .i64 a0_0); have hcz10_1 := fz BK170.out 1 (.int .i64 a0_1); have hcz10_2 := fz BK170.out 2 (.int .i64 a0_2); have hcz10_3 := fz BK170.out 3 (.int .i64 a0_3); have hfz10_0 := blk_frozen BK170.out 0; have hfz10_1 := blk_frozen BK170.out 1; have hfz10_2 := blk_frozen BK170.out 2; have hfz10_3 := blk_frozen BK170.out 3) | ((with_reducible refine gate_callee (f := 88) rfl ?_); refine goesL_ (some 7) rfl rfl Try.func88 (by kernel_rfl) rfl #[.int .i64 a0_0, .int .i64 0, .int .i64 a0_2] rfl dz ?_; (with_reducible refine (impl_in.calls a0_0 0 a0_2 true _ A2.out).mono ?_); rintro e w' ⟨rfl, ⟨nd, rfl⟩⟩; refine ⟨_, rfl, ?_⟩) | (go_at_call 88; (with_reducible refine (impl_in.calls a0_2 0 255 true _ A4.out).mono ?_); rintro e w' ⟨rfl, ⟨nd, rfl⟩⟩) | (go_at_call 88; (with_reducible refine (impl_in.calls a0_1 0 a0_3 true _ A6.out).mono ?_); rintro e w' ⟨rfl, ⟨nd, rfl⟩⟩) | (go_at_call 88; (with_reducible refine (impl_in.calls a0_3 0 255 t174 _ A8.out).mono ?_); rintro e w' ⟨rfl, ⟨nd, rfl⟩⟩))
        go_ret; exact ⟨ez, b1 GE170.out HB.out⟩
      · replace c7 := Bool.eq_false_iff.mpr c7
        subst c7; replace H : (some false) = some r := (by rw [if_neg (show ¬ (false = true) by decide)] at H; exact H); obtain rfl := Option.some.inj H
        go_enter Try.func112, Try.ntmps112
        go_wp2_with (first | ((with_reducible refine gate_dst (N := 1) rfl ?_); refine box_event ?hg (N := 1) ?hd (cs := #[.int .i64 a0_0, .int .i64 a0_1, .int .i64 a0_2, .int .i64 a0_3]) (t := 32) ?hr ?_; (case hd => rfl); (case hg => rfl); (case hr => first | (go_simp; done) | (go_simp; rfl)); intro gb170 hg w11 hbox hb; have n0_ := Aside0.mk (below_step (bz HB.out) hb); have n1_ := Aside0.mk (hbox); have n2_ := Aside0.mk ((by rw [hg]; exact (below_size (bz HB.out)) : w.heap.size ≤ gb170)); have n3_ := Aside0.mk ((by rw [hg]; exact (below_size (bz HB.out)) : w.heap.size ≤ gb170)); clear HB; have HB := n0_; have BK170 := n1_; have GW170 := n2_; have GE170 := n3_; clear n0_ n1_ n2_ n3_; clear hb hbox hg; have hcz12_0 := fz BK170.out 0 (.int .i64 a0_0); have hcz12_1 := fz BK170.out 1 (.int .i64 a0_1); have hcz12_2 := fz BK170.out 2 (.int .i64 a0_2); have hcz12_3 := fz BK170.out 3 (.int .i64 a0_3); have hfz12_0 := blk_frozen BK170.out 0; have hfz12_1 := blk_frozen BK170.out 1; have hfz12_2 := blk_frozen BK170.out 2; have hfz12_3 := blk_frozen BK170.out 3) | ((with_reducible refine gate_callee (f := 88) rfl ?_); refine goesL_ (some 7) rfl rfl Try.func88 (by kernel_rfl) rfl #[.int .i64 a0_0, .int .i64 0, .int .i64 a0_2] rfl dz ?_; (with_reducible refine (impl_in.calls a0_0 0 a0_2 true _ A2.out).mono ?_); rintro e w' ⟨rfl, ⟨nd, rfl⟩⟩; refine ⟨_, rfl, ?_⟩) | (go_at_call 88; (with_reducible refine (impl_in.calls a0_2 0 255 true _ A4.out).mono ?_); rintro e w' ⟨rfl, ⟨nd, rfl⟩⟩) | (go_at_call 88; (with_reducible refine (impl_in.calls a0_1 0 a0_3 false _ A6.out).mono ?_); rintro e w' ⟨rfl, ⟨nd, rfl⟩⟩))
        go_ret; exact ⟨ez, b1 GE170.out HB.out⟩
    · replace c5 := Bool.eq_false_iff.mpr c5
      subst c5; replace H : (some false) = some r := (by rw [if_neg (show ¬ (false = true) by decide)] at H; exact H); obtain rfl := Option.some.inj H
      go_enter Try.func112, Try.ntmps112
      go_wp2_with (first | ((with_reducible refine gate_dst (N := 1) rfl ?_); refine box_event ?hg (N := 1) ?hd (cs := #[.int .i64 a0_0, .int .i64 a0_1, .int .i64 a0_2, .int .i64 a0_3]) (t := 32) ?hr ?_; (case hd => rfl); (case hg => rfl); (case hr => first | (go_simp; done) | (go_simp; rfl)); intro gb170 hg w13 hbox hb; have n0_ := Aside0.mk (below_step (bz HB.out) hb); have n1_ := Aside0.mk (hbox); have n2_ := Aside0.mk ((by rw [hg]; exact (below_size (bz HB.out)) : w.heap.size ≤ gb170)); have n3_ := Aside0.mk ((by rw [hg]; exact (below_size (bz HB.out)) : w.heap.size ≤ gb170)); clear HB; have HB := n0_; have BK170 := n1_; have GW170 := n2_; have GE170 := n3_; clear n0_ n1_ n2_ n3_; clear hb hbox hg; have hcz14_0 := fz BK170.out 0 (.int .i64 a0_0); have hcz14_1 := fz BK170.out 1 (.int .i64 a0_1); have hcz14_2 := fz BK170.out 2 (.int .i64 a0_2); have hcz14_3 := fz BK170.out 3 (.int .i64 a0_3); have hfz14_0 := blk_frozen BK170.out 0; have hfz14_1 := blk_frozen BK170.out 1; have hfz14_2 := blk_frozen BK170.out 2; have hfz14_3 := blk_frozen BK170.out 3) | ((with_reducible refine gate_callee (f := 88) rfl ?_); refine goesL_ (some 7) rfl rfl Try.func88 (by kernel_rfl) rfl #[.int .i64 a0_0, .int .i64 0, .int .i64 a0_2] rfl dz ?_; (with_reducible refine (impl_in.calls a0_0 0 a0_2 true _ A2.out).mono ?_); rintro e w' ⟨rfl, ⟨nd, rfl⟩⟩; refine ⟨_, rfl, ?_⟩) | (go_at_call 88; (with_reducible refine (impl_in.calls a0_2 0 255 false _ A4.out).mono ?_); rintro e w' ⟨rfl, ⟨nd, rfl⟩⟩))
      go_ret; exact ⟨ez, b1 GE170.out HB.out⟩
  · replace c3 := Bool.eq_false_iff.mpr c3
    subst c3; replace H : (some false) = some r := (by rw [if_neg (show ¬ (false = true) by decide)] at H; exact H); obtain rfl := Option.some.inj H
    go_enter Try.func112, Try.ntmps112
    go_wp2_with (first | ((with_reducible refine gate_dst (N := 1) rfl ?_); refine box_event ?hg (N := 1) ?hd (cs := #[.int .i64 a0_0, .int .i64 a0_1, .int .i64 a0_2, .int .i64 a0_3]) (t := 32) ?hr ?_; (case hd => rfl); (case hg => rfl); (case hr => first | (go_simp; done) | (go_simp; rfl)); intro gb170 hg w15 hbox hb; have n0_ := Aside0.mk (below_step (bz HB.out) hb); have n1_ := Aside0.mk (hbox); have n2_ := Aside0.mk ((by rw [hg]; exact (below_size (bz HB.out)) : w.heap.size ≤ gb170)); have n3_ := Aside0.mk ((by rw [hg]; exact (below_size (bz HB.out)) : w.heap.size ≤ gb170)); clear HB; have HB := n0_; have BK170 := n1_; have GW170 := n2_; have GE170 := n3_; clear n0_ n1_ n2_ n3_; clear hb hbox hg; have hcz16_0 := fz BK170.out 0 (.int .i64 a0_0); have hcz16_1 := fz BK170.out 1 (.int .i64 a0_1); have hcz16_2 := fz BK170.out 2 (.int .i64 a0_2); have hcz16_3 := fz BK170.out 3 (.int .i64 a0_3); have hfz16_0 := blk_frozen BK170.out 0; have hfz16_1 := blk_frozen BK170.out 1; have hfz16_2 := blk_frozen BK170.out 2; have hfz16_3 := blk_frozen BK170.out 3) | ((with_reducible refine gate_callee (f := 88) rfl ?_); refine goesL_ (some 7) rfl rfl Try.func88 (by kernel_rfl) rfl #[.int .i64 a0_0, .int .i64 0, .int .i64 a0_2] rfl dz ?_; (with_reducible refine (impl_in.calls a0_0 0 a0_2 false _ A2.out).mono ?_); rintro e w' ⟨rfl, ⟨nd, rfl⟩⟩; refine ⟨_, rfl, ?_⟩))
    go_ret; exact ⟨ez, b1 GE170.out HB.out⟩

attribute [local go_sem] max2_int min2_int max_two min_two max_three min_three max_four min_four 
set_option linter.unusedVariables false
set_option linter.unusedSimpArgs false

/-! ### impl_NodeOk: function 90 -/
mutual
def impl_NodeOk.j0 : Nat → Bool → Bool → List (S103) → Option (Bool)
  | 0, _, _, _ => none
  | k + 1, x19, x613000, x613001 => if x19 = true then (some false) else (impl_NodeOk.l0 k x613001 (x613001.length : Int) 0 x613000 x613001)
def impl_NodeOk.l0 : Nat → List (S103) → Int → Int → Bool → List (S103) → Option (Bool)
  | 0, _, _, _, _, _ => none
  | k + 1, x21, x22, x23, x613000, x613001 => if x23 < x22 then (if 0 ≤ x23 then (if x23 < (x21.length : Int) then (if x613000 = true then ((impl_in.f ((rd_T103 x21 x23).f0) 1 999).bind fun t615 => (if t615 = true then ((impl_BoxOk.f ((rd_T103 x21 x23).f1.f0) ((rd_T103 x21 x23).f1.f1) ((rd_T103 x21 x23).f1.f2) ((rd_T103 x21 x23).f1.f3)).bind fun t616 => (if t616 = true then ((impl_EntryAt.f k x613001 ((rd_T103 x21 x23).f0)).bind fun t617 => (if t617 = x23 then (impl_NodeOk.l0 k x21 x22 (wrap64 (x23 + 1)) x613000 x613001) else (some false))) else (some false))) else (some false))) else ((impl_in.f ((rd_T103 x21 x23).f0) 0 47).bind fun t618 => (if t618 = true then ((impl_BoxOk.f ((rd_T103 x21 x23).f1.f0) ((rd_T103 x21 x23).f1.f1) ((rd_T103 x21 x23).f1.f2) ((rd_T103 x21 x23).f1.f3)).bind fun t619 => (if t619 = true then ((impl_EntryAt.f k x613001 ((rd_T103 x21 x23).f0)).bind fun t620 => (if t620 = x23 then (impl_NodeOk.l0 k x21 x22 (wrap64 (x23 + 1)) x613000 x613001) else (some false))) else (some false))) else (some false)))) else (none)) else (none)) else (some true)
end
def impl_NodeOk.f (k : Nat) (a0_0 : Bool) (l0_1 : List (S103)) : Option (Bool) := if (l0_1.length : Int) > 4 then (impl_NodeOk.j0 k true a0_0 l0_1) else (if a0_0 = true then (impl_NodeOk.j0 k false a0_0 l0_1) else (impl_NodeOk.j0 k ((l0_1.length : Int) == 0) a0_0 l0_1))
theorem impl_NodeOk.mono_l : ∀ k, (∀ y0 y1 y2, LeO (impl_NodeOk.j0 k y0 y1 y2) (impl_NodeOk.j0 (k + 1) y0 y1 y2)) ∧ (∀ y0 y1 y2 y3 y4, LeO (impl_NodeOk.l0 k y0 y1 y2 y3 y4) (impl_NodeOk.l0 (k + 1) y0 y1 y2 y3 y4))
  | 0 => ⟨fun _ _ _ r h => by simp [impl_NodeOk.j0] at h, fun _ _ _ _ _ r h => by simp [impl_NodeOk.l0] at h⟩
  | k + 1 => by
    obtain ⟨ih0, ih1⟩ := impl_NodeOk.mono_l k; refine ⟨?_, ?_⟩
    · intro y0 y1 y2
      unfold impl_NodeOk.j0
      repeat' first | (with_reducible first | exact ih0 _ _ _ | exact ih1 _ _ _ _ _ | exact impl_EntryAt.mono _ _ _ | exact LeO.refl _ | exact LeO.none _ | refine LeO.ite ?_ ?_ | refine LeO.bind ?_ (fun _ => ?_)) | exact ih0 _ _ _ | exact ih1 _ _ _ _ _ | exact impl_EntryAt.mono _ _ _ | exact LeO.none _ | refine LeO.ite ?_ ?_ | refine LeO.bind ?_ (fun _ => ?_)
    · intro y0 y1 y2 y3 y4
      unfold impl_NodeOk.l0
      repeat' first | (with_reducible first | exact ih0 _ _ _ | exact ih1 _ _ _ _ _ | exact impl_EntryAt.mono _ _ _ | exact LeO.refl _ | exact LeO.none _ | refine LeO.ite ?_ ?_ | refine LeO.bind ?_ (fun _ => ?_)) | exact ih0 _ _ _ | exact ih1 _ _ _ _ _ | exact impl_EntryAt.mono _ _ _ | exact LeO.none _ | refine LeO.ite ?_ ?_ | refine LeO.bind ?_ (fun _ => ?_)
theorem impl_NodeOk.mono : ∀ a0 a1 k, LeO (impl_NodeOk.f k a0 a1) (impl_NodeOk.f (k + 1) a0 a1) := by
  intro a0 a1 k
  obtain ⟨ih0, ih1⟩ := impl_NodeOk.mono_l k; unfold impl_NodeOk.f
  repeat' first | (with_reducible first | exact ih0 _ _ _ | exact ih1 _ _ _ _ _ | exact impl_EntryAt.mono _ _ _ | exact LeO.refl _ | exact LeO.none _ | refine LeO.ite ?_ ?_ | refine LeO.bind ?_ (fun _ => ?_)) | exact ih0 _ _ _ | exact ih1 _ _ _ _ _ | exact impl_EntryAt.mono _ _ _ | exact LeO.none _ | refine LeO.ite ?_ ?_ | refine LeO.bind ?_ (fun _ => ?_)
set_option maxHeartbeats 8000000 in
set_option maxRecDepth 100000 in
theorem impl_NodeOk.calls (k : Nat) (a0_0 : Bool) (A0_1 : Option Addr) (c0_1 : Nat) (l0_1 : List (S103)) (r : Bool) (w : World) (hr0_1 : Kd.C k103 w A0_1 l0_1.length l0_1) (hc0_1 : l0_1.length ≤ c0_1) (h : impl_NodeOk.f k a0_0 l0_1 = some r) :
    Calls Try.prog 90 #[.agg #[.bool a0_0, .slice A0_1 l0_1.length c0_1]] w fun e w' => e = .returned (.bool r) ∧ Below w.heap.size w w' := by
  have hu54 := Try.underlying54; have hu103 := Try.underlying103; have hu32 := Try.underlying32; have HR0_1 := Aside0.mk hr0_1; have HC0_1 := Aside0.mk hc0_1; clear hr0_1 hc0_1; have HB := Aside0.mk (Below.refl w.heap.size w); have H : (if (l0_1.length : Int) > 4 then (impl_NodeOk.j0 k true a0_0 l0_1) else (if a0_0 = true then (impl_NodeOk.j0 k false a0_0 l0_1) else (impl_NodeOk.j0 k ((l0_1.length : Int) == 0) a0_0 l0_1))) = some r := h; clear h; have HC2 := Aside0.mk H; clear H
  go_enter Try.func90, Try.ntmps90
  go_upto_region 1 with (first | ((with_reducible refine gate_dst (N := 1) rfl ?_); (try (refine gate_guard (by rfl) ?_; dsimp only)); refine box_event ?hg (N := 1) ?hd (cs := #[.bool a0_0, .slice A0_1 l0_1.length c0_1]) (t := 54) ?hr ?_; (case hd => rfl); (case hg => rfl); (case hr => first | (go_simp; done) | (go_simp; rfl)); intro gb612 hg w3 hbox hb; have n0_ := Aside0.mk (below_step (bz HB.out) hb); have n1_ := Aside0.mk (hbox); have n2_ := Aside0.mk ((by rw [hg]; exact (below_size (bz HB.out)) : w.heap.size ≤ gb612)); have n3_ := Aside0.mk ((by rw [hg]; exact (below_size (bz HB.out)) : w.heap.size ≤ gb612)); clear HB; have HB := n0_; have BK612 := n1_; have GW612 := n2_; have GE612 := n3_; clear n0_ n1_ n2_ n3_; clear hb hbox hg))
  (try simp only [Act.put, List.setIfInBounds_toArray, List.set_cons_zero, List.set_cons_succ])
  go_cut [19] (fun v19 wc => ∃ (kq : Nat) (x19_1 : Bool), v19 = .bool x19_1 ∧ Aside0 (impl_NodeOk.j0 kq x19_1 a0_0 l0_1 = some r) ∧ Aside0 (kq ≤ k) ∧ Aside0 (wc.heap[gb612]? = some (.cells #[.bool a0_0, (.slice A0_1 l0_1.length c0_1)] 54 (0, 0))) ∧ Aside0 (Below w.heap.size w wc))
  case first =>
    have H := HC2.out; clear HC2
    by_cases c4 : (l0_1.length : Int) > 4
    · rw [if_pos c4] at H
      have c4b0 : decide (4 < (l0_1.length : Int)) = true := decide_eq_true c4; have c4b1 : decide (4 < l0_1.length) = true := decide_eq_true (by omega); clear c4
      (first | rw [c4b0] | (simp only [i64_w, i32_w]; rw [c4b0]) | skip)
      have H' := Aside0.mk H; clear H; have hcz5_0 := fz BK612.out 0 (.bool a0_0); have hcz5_1 := fz BK612.out 1 (.slice A0_1 l0_1.length c0_1); have hfz5_0 := blk_frozen BK612.out 0; have hfz5_1 := blk_frozen BK612.out 1; go_wp2; go_meet
      case rel => exact ⟨_, (true), az, H', ⟨lz⟩, ⟨kz BK612.out⟩, ⟨b1 GE612.out HB.out⟩⟩
    · rw [if_neg c4] at H
      have c4b0 : decide (4 < (l0_1.length : Int)) = false := decide_eq_false c4; have c4b1 : decide (4 < l0_1.length) = false := decide_eq_false (by omega); clear c4
      (first | rw [c4b0] | (simp only [i64_w, i32_w]; rw [c4b0]) | skip)
      by_cases c6 : a0_0 = true
      · subst c6
        replace H : (impl_NodeOk.j0 k false true l0_1) = some r := (by rw [if_pos rfl] at H; exact H); have H' := Aside0.mk H; clear H; have hcz7_0 := fz BK612.out 0 (.bool true); have hcz7_1 := fz BK612.out 1 (.slice A0_1 l0_1.length c0_1); have hfz7_0 := blk_frozen BK612.out 0; have hfz7_1 := blk_frozen BK612.out 1; go_wp2; go_meet
        case rel => exact ⟨_, (false), az, H', ⟨lz⟩, ⟨kz BK612.out⟩, ⟨b1 GE612.out HB.out⟩⟩
      · replace c6 := Bool.eq_false_iff.mpr c6
        subst c6; replace H : (impl_NodeOk.j0 k ((l0_1.length : Int) == 0) false l0_1) = some r := (by rw [if_neg (show ¬ (false = true) by decide)] at H; exact H); have H' := Aside0.mk H; clear H; have hcz8_0 := fz BK612.out 0 (.bool false); have hcz8_1 := fz BK612.out 1 (.slice A0_1 l0_1.length c0_1); have hfz8_0 := blk_frozen BK612.out 0; have hfz8_1 := blk_frozen BK612.out 1; go_wp2; go_meet
        case rel => exact ⟨_, (((l0_1.length : Int) == 0)), az, H', ⟨lz⟩, ⟨kz BK612.out⟩, ⟨b1 GE612.out HB.out⟩⟩
  case rest =>
    clear HC2; (try clear p2); (try clear c4); (try clear c4b0); (try clear c4b1); (try clear c6); (try clear hcz5_0); (try clear hcz5_1); (try clear hcz7_0); (try clear hcz7_1); (try clear hcz8_0); (try clear hcz8_1); (try clear hfz5_0); (try clear hfz5_1); (try clear hfz7_0); (try clear hfz7_1); (try clear hfz8_0); (try clear hfz8_1); obtain ⟨kq, x19_1, rfl, HA, HJ1, BK612, HB⟩ := hcut
    cases kq with
    | zero => exact absurd HA.out (by simp [impl_NodeOk.j0])
    | succ kj1 =>
      have H := HA.out; clear HA
      simp only [impl_NodeOk.j0] at H
      by_cases c9 : x19_1 = true
      · subst c9
        replace H : (some false) = some r := (by rw [if_pos rfl] at H; exact H); obtain rfl := Option.some.inj H; go_wp2; go_ret; exact ⟨ez, b1 GE612.out HB.out⟩
      · replace c9 := Bool.eq_false_iff.mpr c9
        subst c9; replace H : (impl_NodeOk.l0 kj1 l0_1 (l0_1.length : Int) 0 a0_0 l0_1) = some r := (by rw [if_neg (show ¬ (false = true) by decide)] at H; exact H); have H' := Aside0.mk H; clear H; have hcz10_0 := fz BK612.out 0 (.bool a0_0); have hcz10_1 := fz BK612.out 1 (.slice A0_1 l0_1.length c0_1); have hfz10_0 := blk_frozen BK612.out 0; have hfz10_1 := blk_frozen BK612.out 1; go_wp2
        go_loopg [23] kj1 (fun kq v23 w' => ∃ (x23_2 : Int), v23 = .int .i64 x23_2 ∧ Aside0 (impl_NodeOk.l0 kq l0_1 (l0_1.length : Int) x23_2 a0_0 l0_1 = some r) ∧ Aside0 (kq ≤ kj1) ∧ Aside0 (w'.heap[gb612]? = some (.cells #[.bool a0_0, (.slice A0_1 l0_1.length c0_1)] 54 (0, 0))) ∧ Aside0 (Below w.heap.size w w'))
        case atStart => exact ⟨(0), az, H', ⟨Nat.le_refl _⟩, ⟨kz BK612.out⟩, ⟨b1 GE612.out HB.out⟩⟩
        case round =>
          clear H'; (try clear p2); (try clear c4); (try clear c4b0); (try clear c4b1); (try clear c6); (try clear c9); (try clear hcz10_0); (try clear hcz10_1); (try clear hcz5_0); (try clear hcz5_1); (try clear hcz7_0); (try clear hcz7_1); (try clear hcz8_0); (try clear hcz8_1); (try clear hfz10_0); (try clear hfz10_1); (try clear hfz5_0); (try clear hfz5_1); (try clear hfz7_0); (try clear hfz7_1); (try clear hfz8_0); (try clear hfz8_1); (try clear p2); obtain ⟨x23_2, rfl, HA, HK2, BK612, HB⟩ := hrel
          cases gk with
          | zero => exact absurd HA.out (by simp [impl_NodeOk.l0])
          | succ k2 =>
            have H := HA.out; clear HA
            simp only [impl_NodeOk.l0] at H
            by_cases c11 : x23_2 < (l0_1.length : Int)
            · rw [if_pos c11] at H
              have c11b0 : decide (x23_2 < (l0_1.length : Int)) = true := decide_eq_true c11; clear c11
              by_cases c12 : 0 ≤ x23_2
              · rw [if_pos c12] at H
                have c12b0 : decide (0 ≤ x23_2) = true := decide_eq_true c12; clear c12
                by_cases c13 : x23_2 < (l0_1.length : Int)
                · rw [if_pos c13] at H
                  have c13b0 : decide (x23_2 < (l0_1.length : Int)) = true := decide_eq_true c13; clear c13
                  by_cases c14 : a0_0 = true
                  · subst c14
                    replace H : ((impl_in.f ((rd_T103 l0_1 x23_2).f0) 1 999).bind fun t615 => (if t615 = true then ((impl_BoxOk.f ((rd_T103 l0_1 x23_2).f1.f0) ((rd_T103 l0_1 x23_2).f1.f1) ((rd_T103 l0_1 x23_2).f1.f2) ((rd_T103 l0_1 x23_2).f1.f3)).bind fun t616 => (if t616 = true then ((impl_EntryAt.f k2 l0_1 ((rd_T103 l0_1 x23_2).f0)).bind fun t617 => (if t617 = x23_2 then (impl_NodeOk.l0 k2 l0_1 (l0_1.length : Int) (wrap64 (x23_2 + 1)) true l0_1) else (some false))) else (some false))) else (some false))) = some r := (by rw [if_pos rfl] at H; exact H); replace H := Option.bind_eq_some_iff.mp H; obtain ⟨t615, A150, H⟩ := H; replace H : (if t615 = true then ((impl_BoxOk.f ((rd_T103 l0_1 x23_2).f1.f0) ((rd_T103 l0_1 x23_2).f1.f1) ((rd_T103 l0_1 x23_2).f1.f2) ((rd_T103 l0_1 x23_2).f1.f3)).bind fun t616 => (if t616 = true then ((impl_EntryAt.f k2 l0_1 ((rd_T103 l0_1 x23_2).f0)).bind fun t617 => (if t617 = x23_2 then (impl_NodeOk.l0 k2 l0_1 (l0_1.length : Int) (wrap64 (x23_2 + 1)) true l0_1) else (some false))) else (some false))) else (some false)) = some r := H; have A15 := Aside0.mk A150; clear A150
                    by_cases c16 : t615 = true
                    · subst c16
                      replace H : ((impl_BoxOk.f ((rd_T103 l0_1 x23_2).f1.f0) ((rd_T103 l0_1 x23_2).f1.f1) ((rd_T103 l0_1 x23_2).f1.f2) ((rd_T103 l0_1 x23_2).f1.f3)).bind fun t616 => (if t616 = true then ((impl_EntryAt.f k2 l0_1 ((rd_T103 l0_1 x23_2).f0)).bind fun t617 => (if t617 = x23_2 then (impl_NodeOk.l0 k2 l0_1 (l0_1.length : Int) (wrap64 (x23_2 + 1)) true l0_1) else (some false))) else (some false))) = some r := (by rw [if_pos rfl] at H; exact H); replace H := Option.bind_eq_some_iff.mp H; obtain ⟨t616, A170, H⟩ := H; replace H : (if t616 = true then ((impl_EntryAt.f k2 l0_1 ((rd_T103 l0_1 x23_2).f0)).bind fun t617 => (if t617 = x23_2 then (impl_NodeOk.l0 k2 l0_1 (l0_1.length : Int) (wrap64 (x23_2 + 1)) true l0_1) else (some false))) else (some false)) = some r := H; have A17 := Aside0.mk A170; clear A170
                      by_cases c18 : t616 = true
                      · subst c18
                        replace H : ((impl_EntryAt.f k2 l0_1 ((rd_T103 l0_1 x23_2).f0)).bind fun t617 => (if t617 = x23_2 then (impl_NodeOk.l0 k2 l0_1 (l0_1.length : Int) (wrap64 (x23_2 + 1)) true l0_1) else (some false))) = some r := (by rw [if_pos rfl] at H; exact H); replace H := Option.bind_eq_some_iff.mp H; obtain ⟨t617, A190, H⟩ := H; replace H : (if t617 = x23_2 then (impl_NodeOk.l0 k2 l0_1 (l0_1.length : Int) (wrap64 (x23_2 + 1)) true l0_1) else (some false)) = some r := H; have A19 := Aside0.mk A190; clear A190
                        by_cases c20 : t617 = x23_2
                        · rw [if_pos c20] at H
                          have c20b0 : (t617 == x23_2) = true := beq_iff_eq.mpr c20; have c20b1 : (t617 != x23_2) = false := bne_eq_false_iff_eq.mpr c20; clear c20; have H' := Aside0.mk H; clear H; have p613 : 0 ≤ (x23_2 : Int) := of_decide_eq_true uz; have q613 : x23_2 < (l0_1.length : Int) := of_decide_eq_true uz; obtain ⟨ad613, e613, hx613_0, hx613_1, hx613_2, hx613_3, hx613_4⟩ := at_T103 HR0_1.out x23_2 p613 q613
                          cases e613
                          replace hx613_0 := cz HB.out hx613_0; replace hx613_1 := cz HB.out hx613_1; replace hx613_2 := cz HB.out hx613_2; replace hx613_3 := cz HB.out hx613_3; replace hx613_4 := cz HB.out hx613_4; replace p613 := eq_true p613; replace q613 := eq_true q613
                          go_wp2_with (first | ((with_reducible refine gate_dst (N := 4) rfl ?_); (try (refine gate_guard (by rfl) ?_; dsimp only)); refine box_event ?hg (N := 4) ?hd (cs := #[.int .i64 0, .int .i64 0, .int .i64 0, .int .i64 0, .int .i64 0]) (t := 103) ?hr ?_; (case hd => rfl); (case hg => rfl); (case hr => first | (go_simp; done) | (go_simp; rfl)); intro gb614 hg w21 hbox hb; have n0_ := Aside0.mk (blk_below (g := gb612) (o := .cells #[.bool true, .slice (some ad613) l0_1.length c0_1] 54 (0, 0)) (kz BK612.out) hb); have n1_ := Aside0.mk (below_step (b1 GE612.out HB.out) hb); have n2_ := Aside0.mk (hbox); have n3_ := Aside0.mk ((by rw [hg]; exact (below_size (b1 GE612.out HB.out)) : w.heap.size ≤ gb614)); have n4_ := Aside0.mk ((by rw [hg]; exact (below_size (b1 GE612.out HB.out)) : w.heap.size ≤ gb614)); have n5_ := Aside0.mk ((by rw [hg]; exact Nat.ne_of_lt (blk_lt (g := gb612) (o := .cells #[.bool true, .slice (some ad613) l0_1.length c0_1] 54 (0, 0)) (kz BK612.out)) : gb612 ≠ gb614)); have n6_ := Aside0.mk ((by rw [hg]; exact Nat.ne_of_gt (blk_lt (g := gb612) (o := .cells #[.bool true, .slice (some ad613) l0_1.length c0_1] 54 (0, 0)) (kz BK612.out)) : gb614 ≠ gb612)); clear BK612; clear HB; have BK612 := n0_; have HB := n1_; have BK614 := n2_; have GW614 := n3_; have GE614 := n4_; have NB612_614 := n5_; have NB614_612 := n6_; clear n0_ n1_ n2_ n3_ n4_ n5_ n6_; clear hb hbox hg; have hnb22 := NB614_612.out; have hnc22 := NB612_614.out; have hcz23_0 := fz BK614.out 0 (.int .i64 0); have hcz23_1 := fz BK614.out 1 (.int .i64 0); have hcz23_2 := fz BK614.out 2 (.int .i64 0); have hcz23_3 := fz BK614.out 3 (.int .i64 0); have hcz23_4 := fz BK614.out 4 (.int .i64 0); have hfz23_0 := blk_frozen BK614.out 0; have hfz23_1 := blk_frozen BK614.out 1; have hfz23_2 := blk_frozen BK614.out 2; have hfz23_3 := blk_frozen BK614.out 3; have hfz23_4 := blk_frozen BK614.out 4; have hcz24_0 := fz BK612.out 0 (.bool true); have hcz24_1 := fz BK612.out 1 (.slice (some ad613) l0_1.length c0_1); have hfz24_0 := blk_frozen BK612.out 0; have hfz24_1 := blk_frozen BK612.out 1) | (go_at_call 88; (with_reducible refine (impl_in.calls ((rd_T103 l0_1 x23_2).f0) 1 999 true _ A15.out).mono ?_); rintro e w' ⟨rfl, ⟨nd, rfl⟩⟩) | (go_at_call 112; (with_reducible refine (impl_BoxOk.calls ((rd_T103 l0_1 x23_2).f1.f0) ((rd_T103 l0_1 x23_2).f1.f1) ((rd_T103 l0_1 x23_2).f1.f2) ((rd_T103 l0_1 x23_2).f1.f3) true _ A17.out).mono ?_); rintro e w25 ⟨rfl, hb⟩; have n0_ := Aside0.mk (blk_below (g := gb612) (o := .cells #[.bool true, .slice (some ad613) l0_1.length c0_1] 54 (0, 0)) (by (with_reducible repeat (first | refine blk_drewN ?_ _ | refine blk_drew ?_ | refine blk_alloc ?_ _)); refine blk_far ?_ NB612_614.out _; (with_reducible repeat (first | refine blk_drewN ?_ _ | refine blk_drew ?_ | refine blk_alloc ?_ _)); refine blk_far ?_ NB612_614.out _; (with_reducible repeat (first | refine blk_drewN ?_ _ | refine blk_drew ?_ | refine blk_alloc ?_ _)); refine blk_far ?_ NB612_614.out _; (with_reducible repeat (first | refine blk_drewN ?_ _ | refine blk_drew ?_ | refine blk_alloc ?_ _)); refine blk_far ?_ NB612_614.out _; (with_reducible repeat (first | refine blk_drewN ?_ _ | refine blk_drew ?_ | refine blk_alloc ?_ _)); refine blk_far ?_ NB612_614.out _; (with_reducible repeat (first | refine blk_drewN ?_ _ | refine blk_drew ?_ | refine blk_alloc ?_ _)); exact BK612.out) hb); have n1_ := Aside0.mk (blk_below (g := gb614) (o := .cells #[.int .i64 ((rd_T103 l0_1 x23_2).f0), .int .i64 ((rd_T103 l0_1 x23_2).f1.f0), .int .i64 ((rd_T103 l0_1 x23_2).f1.f1), .int .i64 ((rd_T103 l0_1 x23_2).f1.f2), .int .i64 ((rd_T103 l0_1 x23_2).f1.f3)] 103 (0, 0)) (by (with_reducible repeat (first | refine blk_drewN ?_ _ | refine blk_drew ?_ | refine blk_alloc ?_ _)); refine blk_put (cs := #[.int .i64 ((rd_T103 l0_1 x23_2).f0), .int .i64 ((rd_T103 l0_1 x23_2).f1.f0), .int .i64 ((rd_T103 l0_1 x23_2).f1.f1), .int .i64 ((rd_T103 l0_1 x23_2).f1.f2), .int .i64 0]) ?_ 4 _ rfl; (with_reducible repeat (first | refine blk_drewN ?_ _ | refine blk_drew ?_ | refine blk_alloc ?_ _)); refine blk_put (cs := #[.int .i64 ((rd_T103 l0_1 x23_2).f0), .int .i64 ((rd_T103 l0_1 x23_2).f1.f0), .int .i64 ((rd_T103 l0_1 x23_2).f1.f1), .int .i64 0, .int .i64 0]) ?_ 3 _ rfl; (with_reducible repeat (first | refine blk_drewN ?_ _ | refine blk_drew ?_ | refine blk_alloc ?_ _)); refine blk_put (cs := #[.int .i64 ((rd_T103 l0_1 x23_2).f0), .int .i64 ((rd_T103 l0_1 x23_2).f1.f0), .int .i64 0, .int .i64 0, .int .i64 0]) ?_ 2 _ rfl; (with_reducible repeat (first | refine blk_drewN ?_ _ | refine blk_drew ?_ | refine blk_alloc ?_ _)); refine blk_put (cs := #[.int .i64 ((rd_T103 l0_1 x23_2).f0), .int .i64 0, .int .i64 0, .int .i64 0, .int .i64 0]) ?_ 1 _ rfl; (with_reducible repeat (first | refine blk_drewN ?_ _ | refine blk_drew ?_ | refine blk_alloc ?_ _)); refine blk_put (cs := #[.int .i64 0, .int .i64 0, .int .i64 0, .int .i64 0, .int .i64 0]) ?_ 0 _ rfl; (with_reducible repeat (first | refine blk_drewN ?_ _ | refine blk_drew ?_ | refine blk_alloc ?_ _)); exact BK614.out) hb); have n2_ := Aside0.mk (below_step (b2 GE612.out GE614.out HB.out) hb); clear BK612; clear BK614; clear HB; have BK612 := n0_; have BK614 := n1_; have HB := n2_; clear n0_ n1_ n2_; (try clear hb); (try clear hb2); (try clear hk); (try clear hi); have hcz26_0 := fz BK612.out 0 (.bool true); have hcz26_1 := fz BK612.out 1 (.slice (some ad613) l0_1.length c0_1); have hfz26_0 := blk_frozen BK612.out 0; have hfz26_1 := blk_frozen BK612.out 1; have hcz27_0 : w25.cell? ⟨gb614, 0, none⟩ = some (.int .i64 ((rd_T103 l0_1 x23_2).f0)) := (blk_cell BK614.out 0).trans rfl; have hcz27_1 : w25.cell? ⟨gb614, 1, none⟩ = some (.int .i64 ((rd_T103 l0_1 x23_2).f1.f0)) := (blk_cell BK614.out 1).trans rfl; have hcz27_2 : w25.cell? ⟨gb614, 2, none⟩ = some (.int .i64 ((rd_T103 l0_1 x23_2).f1.f1)) := (blk_cell BK614.out 2).trans rfl; have hcz27_3 : w25.cell? ⟨gb614, 3, none⟩ = some (.int .i64 ((rd_T103 l0_1 x23_2).f1.f2)) := (blk_cell BK614.out 3).trans rfl; have hcz27_4 : w25.cell? ⟨gb614, 4, none⟩ = some (.int .i64 ((rd_T103 l0_1 x23_2).f1.f3)) := (blk_cell BK614.out 4).trans rfl; have hfz27_0 := blk_frozen BK614.out 0; have hfz27_1 := blk_frozen BK614.out 1; have hfz27_2 := blk_frozen BK614.out 2; have hfz27_3 := blk_frozen BK614.out 3; have hfz27_4 := blk_frozen BK614.out 4) | (go_at_call 103; (with_reducible refine (impl_EntryAt.calls k2 _ _ l0_1 ((rd_T103 l0_1 x23_2).f0) t617 _ ?side1 ?side2 A19.out).mono ?_); (case side1 => exact sz HR0_1.out HB.out); (case side2 => exact HC0_1.out); rintro e w28 ⟨rfl, hb⟩; have n0_ := Aside0.mk (blk_below (g := gb612) (o := .cells #[.bool true, .slice (some ad613) l0_1.length c0_1] 54 (0, 0)) (kz BK612.out) hb); have n1_ := Aside0.mk (blk_below (g := gb614) (o := .cells #[.int .i64 ((rd_T103 l0_1 x23_2).f0), .int .i64 ((rd_T103 l0_1 x23_2).f1.f0), .int .i64 ((rd_T103 l0_1 x23_2).f1.f1), .int .i64 ((rd_T103 l0_1 x23_2).f1.f2), .int .i64 ((rd_T103 l0_1 x23_2).f1.f3)] 103 (0, 0)) (kz BK614.out) hb); have n2_ := Aside0.mk (below_step (b2 GE612.out GE614.out HB.out) hb); clear BK612; clear BK614; clear HB; have BK612 := n0_; have BK614 := n1_; have HB := n2_; clear n0_ n1_ n2_; (try clear hb); (try clear hb2); (try clear hk); (try clear hi)))
                          go_roundg k2
                          case measure => have := HJ1.out; have := HK2.out; omega
                          case rel => exact ⟨(wrap64 (x23_2 + 1)), az, H', ⟨by have := HJ1.out; have := HK2.out; omega⟩, ⟨kz BK612.out⟩, ⟨b2 GE612.out GE614.out HB.out⟩⟩
                        · rw [if_neg c20] at H
                          have c20b0 : (t617 == x23_2) = false := beq_eq_false_iff_ne.mpr c20; have c20b1 : (t617 != x23_2) = true := bne_iff_ne.mpr c20; obtain rfl := Option.some.inj H; have p613 : 0 ≤ (x23_2 : Int) := of_decide_eq_true uz; have q613 : x23_2 < (l0_1.length : Int) := of_decide_eq_true uz; obtain ⟨ad613, e613, hx613_0, hx613_1, hx613_2, hx613_3, hx613_4⟩ := at_T103 HR0_1.out x23_2 p613 q613
                          cases e613
                          replace hx613_0 := cz HB.out hx613_0; replace hx613_1 := cz HB.out hx613_1; replace hx613_2 := cz HB.out hx613_2; replace hx613_3 := cz HB.out hx613_3; replace hx613_4 := cz HB.out hx613_4; replace p613 := eq_true p613; replace q613 := eq_true q613
                          go_wp2_with (first | ((with_reducible refine gate_dst (N := 4) rfl ?_); (try (refine gate_guard (by rfl) ?_; dsimp only)); refine box_event ?hg (N := 4) ?hd (cs := #[.int .i64 0, .int .i64 0, .int .i64 0, .int .i64 0, .int .i64 0]) (t := 103) ?hr ?_; (case hd => rfl); (case hg => rfl); (case hr => first | (go_simp; done) | (go_simp; rfl)); intro gb614 hg w29 hbox hb; have n0_ := Aside0.mk (blk_below (g := gb612) (o := .cells #[.bool true, .slice (some ad613) l0_1.length c0_1] 54 (0, 0)) (kz BK612.out) hb); have n1_ := Aside0.mk (below_step (b1 GE612.out HB.out) hb); have n2_ := Aside0.mk (hbox); have n3_ := Aside0.mk ((by rw [hg]; exact (below_size (b1 GE612.out HB.out)) : w.heap.size ≤ gb614)); have n4_ := Aside0.mk ((by rw [hg]; exact (below_size (b1 GE612.out HB.out)) : w.heap.size ≤ gb614)); have n5_ := Aside0.mk ((by rw [hg]; exact Nat.ne_of_lt (blk_lt (g := gb612) (o := .cells #[.bool true, .slice (some ad613) l0_1.length c0_1] 54 (0, 0)) (kz BK612.out)) : gb612 ≠ gb614)); have n6_ := Aside0.mk ((by rw [hg]; exact Nat.ne_of_gt (blk_lt (g := gb612) (o := .cells #[.bool true, .slice (some ad613) l0_1.length c0_1] 54 (0, 0)) (kz BK612.out)) : gb614 ≠ gb612)); clear BK612; clear HB; have BK612 := n0_; have HB := n1_; have BK614 := n2_; have GW614 := n3_; have GE614 := n4_; have NB612_614 := n5_; have NB614_612 := n6_; clear n0_ n1_ n2_ n3_ n4_ n5_ n6_; clear hb hbox hg; have hnb30 := NB614_612.out; have hnc30 := NB612_614.out; have hcz31_0 := fz BK614.out 0 (.int .i64 0); have hcz31_1 := fz BK614.out 1 (.int .i64 0); have hcz31_2 := fz BK614.out 2 (.int .i64 0); have hcz31_3 := fz BK614.out 3 (.int .i64 0); have hcz31_4 := fz BK614.out 4 (.int .i64 0); have hfz31_0 := blk_frozen BK614.out 0; have hfz31_1 := blk_frozen BK614.out 1; have hfz31_2 := blk_frozen BK614.out 2; have hfz31_3 := blk_frozen BK614.out 3; have hfz31_4 := blk_frozen BK614.out 4; have hcz32_0 := fz BK612.out 0 (.bool true); have hcz32_1 := fz BK612.out 1 (.slice (some ad613) l0_1.length c0_1); have hfz32_0 := blk_frozen BK612.out 0; have hfz32_1 := blk_frozen BK612.out 1) | (go_at_call 88; (with_reducible refine (impl_in.calls ((rd_T103 l0_1 x23_2).f0) 1 999 true _ A15.out).mono ?_); rintro e w' ⟨rfl, ⟨nd, rfl⟩⟩) | (go_at_call 112; (with_reducible refine (impl_BoxOk.calls ((rd_T103 l0_1 x23_2).f1.f0) ((rd_T103 l0_1 x23_2).f1.f1) ((rd_T103 l0_1 x23_2).f1.f2) ((rd_T103 l0_1 x23_2).f1.f3) true _ A17.out).mono ?_); rintro e w33 ⟨rfl, hb⟩; have n0_ := Aside0.mk (blk_below (g := gb612) (o := .cells #[.bool true, .slice (some ad613) l0_1.length c0_1] 54 (0, 0)) (by (with_reducible repeat (first | refine blk_drewN ?_ _ | refine blk_drew ?_ | refine blk_alloc ?_ _)); refine blk_far ?_ NB612_614.out _; (with_reducible repeat (first | refine blk_drewN ?_ _ | refine blk_drew ?_ | refine blk_alloc ?_ _)); refine blk_far ?_ NB612_614.out _; (with_reducible repeat (first | refine blk_drewN ?_ _ | refine blk_drew ?_ | refine blk_alloc ?_ _)); refine blk_far ?_ NB612_614.out _; (with_reducible repeat (first | refine blk_drewN ?_ _ | refine blk_drew ?_ | refine blk_alloc ?_ _)); refine blk_far ?_ NB612_614.out _; (with_reducible repeat (first | refine blk_drewN ?_ _ | refine blk_drew ?_ | refine blk_alloc ?_ _)); refine blk_far ?_ NB612_614.out _; (with_reducible repeat (first | refine blk_drewN ?_ _ | refine blk_drew ?_ | refine blk_alloc ?_ _)); exact BK612.out) hb); have n1_ := Aside0.mk (blk_below (g := gb614) (o := .cells #[.int .i64 ((rd_T103 l0_1 x23_2).f0), .int .i64 ((rd_T103 l0_1 x23_2).f1.f0), .int .i64 ((rd_T103 l0_1 x23_2).f1.f1), .int .i64 ((rd_T103 l0_1 x23_2).f1.f2), .int .i64 ((rd_T103 l0_1 x23_2).f1.f3)] 103 (0, 0)) (by (with_reducible repeat (first | refine blk_drewN ?_ _ | refine blk_drew ?_ | refine blk_alloc ?_ _)); refine blk_put (cs := #[.int .i64 ((rd_T103 l0_1 x23_2).f0), .int .i64 ((rd_T103 l0_1 x23_2).f1.f0), .int .i64 ((rd_T103 l0_1 x23_2).f1.f1), .int .i64 ((rd_T103 l0_1 x23_2).f1.f2), .int .i64 0]) ?_ 4 _ rfl; (with_reducible repeat (first | refine blk_drewN ?_ _ | refine blk_drew ?_ | refine blk_alloc ?_ _)); refine blk_put (cs := #[.int .i64 ((rd_T103 l0_1 x23_2).f0), .int .i64 ((rd_T103 l0_1 x23_2).f1.f0), .int .i64 ((rd_T103 l0_1 x23_2).f1.f1), .int .i64 0, .int .i64 0]) ?_ 3 _ rfl; (with_reducible repeat (first | refine blk_drewN ?_ _ | refine blk_drew ?_ | refine blk_alloc ?_ _)); refine blk_put (cs := #[.int .i64 ((rd_T103 l0_1 x23_2).f0), .int .i64 ((rd_T103 l0_1 x23_2).f1.f0), .int .i64 0, .int .i64 0, .int .i64 0]) ?_ 2 _ rfl; (with_reducible repeat (first | refine blk_drewN ?_ _ | refine blk_drew ?_ | refine blk_alloc ?_ _)); refine blk_put (cs := #[.int .i64 ((rd_T103 l0_1 x23_2).f0), .int .i64 0, .int .i64 0, .int .i64 0, .int .i64 0]) ?_ 1 _ rfl; (with_reducible repeat (first | refine blk_drewN ?_ _ | refine blk_drew ?_ | refine blk_alloc ?_ _)); refine blk_put (cs := #[.int .i64 0, .int .i64 0, .int .i64 0, .int .i64 0, .int .i64 0]) ?_ 0 _ rfl; (with_reducible repeat (first | refine blk_drewN ?_ _ | refine blk_drew ?_ | refine blk_alloc ?_ _)); exact BK614.out) hb); have n2_ := Aside0.mk (below_step (b2 GE612.out GE614.out HB.out) hb); clear BK612; clear BK614; clear HB; have BK612 := n0_; have BK614 := n1_; have HB := n2_; clear n0_ n1_ n2_; (try clear hb); (try clear hb2); (try clear hk); (try clear hi); have hcz34_0 := fz BK612.out 0 (.bool true); have hcz34_1 := fz BK612.out 1 (.slice (some ad613) l0_1.length c0_1); have hfz34_0 := blk_frozen BK612.out 0; have hfz34_1 := blk_frozen BK612.out 1; have hcz35_0 : w33.cell? ⟨gb614, 0, none⟩ = some (.int .i64 ((rd_T103 l0_1 x23_2).f0)) := (blk_cell BK614.out 0).trans rfl; have hcz35_1 : w33.cell? ⟨gb614, 1, none⟩ = some (.int .i64 ((rd_T103 l0_1 x23_2).f1.f0)) := (blk_cell BK614.out 1).trans rfl; have hcz35_2 : w33.cell? ⟨gb614, 2, none⟩ = some (.int .i64 ((rd_T103 l0_1 x23_2).f1.f1)) := (blk_cell BK614.out 2).trans rfl; have hcz35_3 : w33.cell? ⟨gb614, 3, none⟩ = some (.int .i64 ((rd_T103 l0_1 x23_2).f1.f2)) := (blk_cell BK614.out 3).trans rfl; have hcz35_4 : w33.cell? ⟨gb614, 4, none⟩ = some (.int .i64 ((rd_T103 l0_1 x23_2).f1.f3)) := (blk_cell BK614.out 4).trans rfl; have hfz35_0 := blk_frozen BK614.out 0; have hfz35_1 := blk_frozen BK614.out 1; have hfz35_2 := blk_frozen BK614.out 2; have hfz35_3 := blk_frozen BK614.out 3; have hfz35_4 := blk_frozen BK614.out 4) | (go_at_call 103; (with_reducible refine (impl_EntryAt.calls k2 _ _ l0_1 ((rd_T103 l0_1 x23_2).f0) t617 _ ?side1 ?side2 A19.out).mono ?_); (case side1 => exact sz HR0_1.out HB.out); (case side2 => exact HC0_1.out); rintro e w36 ⟨rfl, hb⟩; have n0_ := Aside0.mk (blk_below (g := gb612) (o := .cells #[.bool true, .slice (some ad613) l0_1.length c0_1] 54 (0, 0)) (kz BK612.out) hb); have n1_ := Aside0.mk (blk_below (g := gb614) (o := .cells #[.int .i64 ((rd_T103 l0_1 x23_2).f0), .int .i64 ((rd_T103 l0_1 x23_2).f1.f0), .int .i64 ((rd_T103 l0_1 x23_2).f1.f1), .int .i64 ((rd_T103 l0_1 x23_2).f1.f2), .int .i64 ((rd_T103 l0_1 x23_2).f1.f3)] 103 (0, 0)) (kz BK614.out) hb); have n2_ := Aside0.mk (below_step (b2 GE612.out GE614.out HB.out) hb); clear BK612; clear BK614; clear HB; have BK612 := n0_; have BK614 := n1_; have HB := n2_; clear n0_ n1_ n2_; (try clear hb); (try clear hb2); (try clear hk); (try clear hi)))
                          go_ret; exact ⟨ez, b2 GE612.out GE614.out HB.out⟩
                      · replace c18 := Bool.eq_false_iff.mpr c18
                        subst c18; replace H : (some false) = some r := (by rw [if_neg (show ¬ (false = true) by decide)] at H; exact H); obtain rfl := Option.some.inj H; have p613 : 0 ≤ (x23_2 : Int) := of_decide_eq_true uz; have q613 : x23_2 < (l0_1.length : Int) := of_decide_eq_true uz; obtain ⟨ad613, e613, hx613_0, hx613_1, hx613_2, hx613_3, hx613_4⟩ := at_T103 HR0_1.out x23_2 p613 q613
                        cases e613
                        replace hx613_0 := cz HB.out hx613_0; replace hx613_1 := cz HB.out hx613_1; replace hx613_2 := cz HB.out hx613_2; replace hx613_3 := cz HB.out hx613_3; replace hx613_4 := cz HB.out hx613_4; replace p613 := eq_true p613; replace q613 := eq_true q613
                        go_wp2_with (first | ((with_reducible refine gate_dst (N := 4) rfl ?_); (try (refine gate_guard (by rfl) ?_; dsimp only)); refine box_event ?hg (N := 4) ?hd (cs := #[.int .i64 0, .int .i64 0, .int .i64 0, .int .i64 0, .int .i64 0]) (t := 103) ?hr ?_; (case hd => rfl); (case hg => rfl); (case hr => first | (go_simp; done) | (go_simp; rfl)); intro gb614 hg w37 hbox hb; have n0_ := Aside0.mk (blk_below (g := gb612) (o := .cells #[.bool true, .slice (some ad613) l0_1.length c0_1] 54 (0, 0)) (kz BK612.out) hb); have n1_ := Aside0.mk (below_step (b1 GE612.out HB.out) hb); have n2_ := Aside0.mk (hbox); have n3_ := Aside0.mk ((by rw [hg]; exact (below_size (b1 GE612.out HB.out)) : w.heap.size ≤ gb614)); have n4_ := Aside0.mk ((by rw [hg]; exact (below_size (b1 GE612.out HB.out)) : w.heap.size ≤ gb614)); have n5_ := Aside0.mk ((by rw [hg]; exact Nat.ne_of_lt (blk_lt (g := gb612) (o := .cells #[.bool true, .slice (some ad613) l0_1.length c0_1] 54 (0, 0)) (kz BK612.out)) : gb612 ≠ gb614)); have n6_ := Aside0.mk ((by rw [hg]; exact Nat.ne_of_gt (blk_lt (g := gb612) (o := .cells #[.bool true, .slice (some ad613) l0_1.length c0_1] 54 (0, 0)) (kz BK612.out)) : gb614 ≠ gb612)); clear BK612; clear HB; have BK612 := n0_; have HB := n1_; have BK614 := n2_; have GW614 := n3_; have GE614 := n4_; have NB612_614 := n5_; have NB614_612 := n6_; clear n0_ n1_ n2_ n3_ n4_ n5_ n6_; clear hb hbox hg; have hnb38 := NB614_612.out; have hnc38 := NB612_614.out; have hcz39_0 := fz BK614.out 0 (.int .i64 0); have hcz39_1 := fz BK614.out 1 (.int .i64 0); have hcz39_2 := fz BK614.out 2 (.int .i64 0); have hcz39_3 := fz BK614.out 3 (.int .i64 0); have hcz39_4 := fz BK614.out 4 (.int .i64 0); have hfz39_0 := blk_frozen BK614.out 0; have hfz39_1 := blk_frozen BK614.out 1; have hfz39_2 := blk_frozen BK614.out 2; have hfz39_3 := blk_frozen BK614.out 3; have hfz39_4 := blk_frozen BK614.out 4; have hcz40_0 := fz BK612.out 0 (.bool true); have hcz40_1 := fz BK612.out 1 (.slice (some ad613) l0_1.length c0_1); have hfz40_0 := blk_frozen BK612.out 0; have hfz40_1 := blk_frozen BK612.out 1) | (go_at_call 88; (with_reducible refine (impl_in.calls ((rd_T103 l0_1 x23_2).f0) 1 999 true _ A15.out).mono ?_); rintro e w' ⟨rfl, ⟨nd, rfl⟩⟩) | (go_at_call 112; (with_reducible refine (impl_BoxOk.calls ((rd_T103 l0_1 x23_2).f1.f0) ((rd_T103 l0_1 x23_2).f1.f1) ((rd_T103 l0_1 x23_2).f1.f2) ((rd_T103 l0_1 x23_2).f1.f3) false _ A17.out).mono ?_); rintro e w41 ⟨rfl, hb⟩; have n0_ := Aside0.mk (blk_below (g := gb612) (o := .cells #[.bool true, .slice (some ad613) l0_1.length c0_1] 54 (0, 0)) (by (with_reducible repeat (first | refine blk_drewN ?_ _ | refine blk_drew ?_ | refine blk_alloc ?_ _)); refine blk_far ?_ NB612_614.out _; (with_reducible repeat (first | refine blk_drewN ?_ _ | refine blk_drew ?_ | refine blk_alloc ?_ _)); refine blk_far ?_ NB612_614.out _; (with_reducible repeat (first | refine blk_drewN ?_ _ | refine blk_drew ?_ | refine blk_alloc ?_ _)); refine blk_far ?_ NB612_614.out _; (with_reducible repeat (first | refine blk_drewN ?_ _ | refine blk_drew ?_ | refine blk_alloc ?_ _)); refine blk_far ?_ NB612_614.out _; (with_reducible repeat (first | refine blk_drewN ?_ _ | refine blk_drew ?_ | refine blk_alloc ?_ _)); refine blk_far ?_ NB612_614.out _; (with_reducible repeat (first | refine blk_drewN ?_ _ | refine blk_drew ?_ | refine blk_alloc ?_ _)); exact BK612.out) hb); have n1_ := Aside0.mk (blk_below (g := gb614) (o := .cells #[.int .i64 ((rd_T103 l0_1 x23_2).f0), .int .i64 ((rd_T103 l0_1 x23_2).f1.f0), .int .i64 ((rd_T103 l0_1 x23_2).f1.f1), .int .i64 ((rd_T103 l0_1 x23_2).f1.f2), .int .i64 ((rd_T103 l0_1 x23_2).f1.f3)] 103 (0, 0)) (by (with_reducible repeat (first | refine blk_drewN ?_ _ | refine blk_drew ?_ | refine blk_alloc ?_ _)); refine blk_put (cs := #[.int .i64 ((rd_T103 l0_1 x23_2).f0), .int .i64 ((rd_T103 l0_1 x23_2).f1.f0), .int .i64 ((rd_T103 l0_1 x23_2).f1.f1), .int .i64 ((rd_T103 l0_1 x23_2).f1.f2), .int .i64 0]) ?_ 4 _ rfl; (with_reducible repeat (first | refine blk_drewN ?_ _ | refine blk_drew ?_ | refine blk_alloc ?_ _)); refine blk_put (cs := #[.int .i64 ((rd_T103 l0_1 x23_2).f0), .int .i64 ((rd_T103 l0_1 x23_2).f1.f0), .int .i64 ((rd_T103 l0_1 x23_2).f1.f1), .int .i64 0, .int .i64 0]) ?_ 3 _ rfl; (with_reducible repeat (first | refine blk_drewN ?_ _ | refine blk_drew ?_ | refine blk_alloc ?_ _)); refine blk_put (cs := #[.int .i64 ((rd_T103 l0_1 x23_2).f0), .int .i64 ((rd_T103 l0_1 x23_2).f1.f0), .int .i64 0, .int .i64 0, .int .i64 0]) ?_ 2 _ rfl; (with_reducible repeat (first | refine blk_drewN ?_ _ | refine blk_drew ?_ | refine blk_alloc ?_ _)); refine blk_put (cs := #[.int .i64 ((rd_T103 l0_1 x23_2).f0), .int .i64 0, .int .i64 0, .int .i64 0, .int .i64 0]) ?_ 1 _ rfl; (with_reducible repeat (first | refine blk_drewN ?_ _ | refine blk_drew ?_ | refine blk_alloc ?_ _)); refine blk_put (cs := #[.int .i64 0, .int .i64 0, .int .i64 0, .int .i64 0, .int .i64 0]) ?_ 0 _ rfl; (with_reducible repeat (first | refine blk_drewN ?_ _ | refine blk_drew ?_ | refine blk_alloc ?_ _)); exact BK614.out) hb); have n2_ := Aside0.mk (below_step (b2 GE612.out GE614.out HB.out) hb); clear BK612; clear BK614; clear HB; have BK612 := n0_; have BK614 := n1_; have HB := n2_; clear n0_ n1_ n2_; (try clear hb); (try clear hb2); (try clear hk); (try clear hi)))
                        go_ret; exact ⟨ez, b2 GE612.out GE614.out HB.out⟩
                    · replace c16 := Bool.eq_false_iff.mpr c16
                      subst c16; replace H : (some false) = some r := (by rw [if_neg (show ¬ (false = true) by decide)] at H; exact H); obtain rfl := Option.some.inj H; have p613 : 0 ≤ (x23_2 : Int) := of_decide_eq_true uz; have q613 : x23_2 < (l0_1.length : Int) := of_decide_eq_true uz; obtain ⟨ad613, e613, hx613_0, hx613_1, hx613_2, hx613_3, hx613_4⟩ := at_T103 HR0_1.out x23_2 p613 q613
                      cases e613
                      replace hx613_0 := cz HB.out hx613_0; replace hx613_1 := cz HB.out hx613_1; replace hx613_2 := cz HB.out hx613_2; replace hx613_3 := cz HB.out hx613_3; replace hx613_4 := cz HB.out hx613_4; replace p613 := eq_true p613; replace q613 := eq_true q613
                      go_wp2_with (first | ((with_reducible refine gate_dst (N := 4) rfl ?_); (try (refine gate_guard (by rfl) ?_; dsimp only)); refine box_event ?hg (N := 4) ?hd (cs := #[.int .i64 0, .int .i64 0, .int .i64 0, .int .i64 0, .int .i64 0]) (t := 103) ?hr ?_; (case hd => rfl); (case hg => rfl); (case hr => first | (go_simp; done) | (go_simp; rfl)); intro gb614 hg w42 hbox hb; have n0_ := Aside0.mk (blk_below (g := gb612) (o := .cells #[.bool true, .slice (some ad613) l0_1.length c0_1] 54 (0, 0)) (kz BK612.out) hb); have n1_ := Aside0.mk (below_step (b1 GE612.out HB.out) hb); have n2_ := Aside0.mk (hbox); have n3_ := Aside0.mk ((by rw [hg]; exact (below_size (b1 GE612.out HB.out)) : w.heap.size ≤ gb614)); have n4_ := Aside0.mk ((by rw [hg]; exact (below_size (b1 GE612.out HB.out)) : w.heap.size ≤ gb614)); have n5_ := Aside0.mk ((by rw [hg]; exact Nat.ne_of_lt (blk_lt (g := gb612) (o := .cells #[.bool true, .slice (some ad613) l0_1.length c0_1] 54 (0, 0)) (kz BK612.out)) : gb612 ≠ gb614)); have n6_ := Aside0.mk ((by rw [hg]; exact Nat.ne_of_gt (blk_lt (g := gb612) (o := .cells #[.bool true, .slice (some ad613) l0_1.length c0_1] 54 (0, 0)) (kz BK612.out)) : gb614 ≠ gb612)); clear BK612; clear HB; have BK612 := n0_; have HB := n1_; have BK614 := n2_; have GW614 := n3_; have GE614 := n4_; have NB612_614 := n5_; have NB614_612 := n6_; clear n0_ n1_ n2_ n3_ n4_ n5_ n6_; clear hb hbox hg; have hnb43 := NB614_612.out; have hnc43 := NB612_614.out; have hcz44_0 := fz BK614.out 0 (.int .i64 0); have hcz44_1 := fz BK614.out 1 (.int .i64 0); have hcz44_2 := fz BK614.out 2 (.int .i64 0); have hcz44_3 := fz BK614.out 3 (.int .i64 0); have hcz44_4 := fz BK614.out 4 (.int .i64 0); have hfz44_0 := blk_frozen BK614.out 0; have hfz44_1 := blk_frozen BK614.out 1; have hfz44_2 := blk_frozen BK614.out 2; have hfz44_3 := blk_frozen BK614.out 3; have hfz44_4 := blk_frozen BK614.out 4; have hcz45_0 := fz BK612.out 0 (.bool true); have hcz45_1 := fz BK612.out 1 (.slice (some ad613) l0_1.length c0_1); have hfz45_0 := blk_frozen BK612.out 0; have hfz45_1 := blk_frozen BK612.out 1) | (go_at_call 88; (with_reducible refine (impl_in.calls ((rd_T103 l0_1 x23_2).f0) 1 999 false _ A15.out).mono ?_); rintro e w' ⟨rfl, ⟨nd, rfl⟩⟩))
                      go_ret; exact ⟨ez, b2 GE612.out GE614.out HB.out⟩
                  · replace c14 := Bool.eq_false_iff.mpr c14
                    subst c14; replace H : ((impl_in.f ((rd_T103 l0_1 x23_2).f0) 0 47).bind fun t618 => (if t618 = true then ((impl_BoxOk.f ((rd_T103 l0_1 x23_2).f1.f0) ((rd_T103 l0_1 x23_2).f1.f1) ((rd_T103 l0_1 x23_2).f1.f2) ((rd_T103 l0_1 x23_2).f1.f3)).bind fun t619 => (if t619 = true then ((impl_EntryAt.f k2 l0_1 ((rd_T103 l0_1 x23_2).f0)).bind fun t620 => (if t620 = x23_2 then (impl_NodeOk.l0 k2 l0_1 (l0_1.length : Int) (wrap64 (x23_2 + 1)) false l0_1) else (some false))) else (some false))) else (some false))) = some r := (by rw [if_neg (show ¬ (false = true) by decide)] at H; exact H); replace H := Option.bind_eq_some_iff.mp H; obtain ⟨t618, A460, H⟩ := H; replace H : (if t618 = true then ((impl_BoxOk.f ((rd_T103 l0_1 x23_2).f1.f0) ((rd_T103 l0_1 x23_2).f1.f1) ((rd_T103 l0_1 x23_2).f1.f2) ((rd_T103 l0_1 x23_2).f1.f3)).bind fun t619 => (if t619 = true then ((impl_EntryAt.f k2 l0_1 ((rd_T103 l0_1 x23_2).f0)).bind fun t620 => (if t620 = x23_2 then (impl_NodeOk.l0 k2 l0_1 (l0_1.length : Int) (wrap64 (x23_2 + 1)) false l0_1) else (some false))) else (some false))) else (some false)) = some r := H; have A46 := Aside0.mk A460; clear A460
                    by_cases c47 : t618 = true
                    · subst c47
                      replace H : ((impl_BoxOk.f ((rd_T103 l0_1 x23_2).f1.f0) ((rd_T103 l0_1 x23_2).f1.f1) ((rd_T103 l0_1 x23_2).f1.f2) ((rd_T103 l0_1 x23_2).f1.f3)).bind fun t619 => (if t619 = true then ((impl_EntryAt.f k2 l0_1 ((rd_T103 l0_1 x23_2).f0)).bind fun t620 => (if t620 = x23_2 then (impl_NodeOk.l0 k2 l0_1 (l0_1.length : Int) (wrap64 (x23_2 + 1)) false l0_1) else (some false))) else (some false))) = some r := (by rw [if_pos rfl] at H; exact H); replace H := Option.bind_eq_some_iff.mp H; obtain ⟨t619, A480, H⟩ := H; replace H : (if t619 = true then ((impl_EntryAt.f k2 l0_1 ((rd_T103 l0_1 x23_2).f0)).bind fun t620 => (if t620 = x23_2 then (impl_NodeOk.l0 k2 l0_1 (l0_1.length : Int) (wrap64 (x23_2 + 1)) false l0_1) else (some false))) else (some false)) = some r := H; have A48 := Aside0.mk A480; clear A480
                      by_cases c49 : t619 = true
                      · subst c49
                        replace H : ((impl_EntryAt.f k2 l0_1 ((rd_T103 l0_1 x23_2).f0)).bind fun t620 => (if t620 = x23_2 then (impl_NodeOk.l0 k2 l0_1 (l0_1.length : Int) (wrap64 (x23_2 + 1)) false l0_1) else (some false))) = some r := (by rw [if_pos rfl] at H; exact H); replace H := Option.bind_eq_some_iff.mp H; obtain ⟨t620, A500, H⟩ := H; replace H : (if t620 = x23_2 then (impl_NodeOk.l0 k2 l0_1 (l0_1.length : Int) (wrap64 (x23_2 + 1)) false l0_1) else (some false)) = some r := H; have A50 := Aside0.mk A500; clear A500
                        by_cases c51 : t620 = x23_2
                        · rw [if_pos c51] at H
                          have c51b0 : (t620 == x23_2) = true := beq_iff_eq.mpr c51; have c51b1 : (t620 != x23_2) = false := bne_eq_false_iff_eq.mpr c51; clear c51; have H' := Aside0.mk H; clear H; have p613 : 0 ≤ (x23_2 : Int) := of_decide_eq_true uz; have q613 : x23_2 < (l0_1.length : Int) := of_decide_eq_true uz; obtain ⟨ad613, e613, hx613_0, hx613_1, hx613_2, hx613_3, hx613_4⟩ := at_T103 HR0_1.out x23_2 p613 q613
                          cases e613
                          replace hx613_0 := cz HB.out hx613_0; replace hx613_1 := cz HB.out hx613_1; replace hx613_2 := cz HB.out hx613_2; replace hx613_3 := cz HB.out hx613_3; replace hx613_4 := cz HB.out hx613_4; replace p613 := eq_true p613; replace q613 := eq_true q613
                          go_wp2_with (first | ((with_reducible refine gate_dst (N := 4) rfl ?_); (try (refine gate_guard (by rfl) ?_; dsimp only)); refine box_event ?hg (N := 4) ?hd (cs := #[.int .i64 0, .int .i64 0, .int .i64 0, .int .i64 0, .int .i64 0]) (t := 103) ?hr ?_; (case hd => rfl); (case hg => rfl); (case hr => first | (go_simp; done) | (go_simp; rfl)); intro gb614 hg w52 hbox hb; have n0_ := Aside0.mk (blk_below (g := gb612) (o := .cells #[.bool false, .slice (some ad613) l0_1.length c0_1] 54 (0, 0)) (kz BK612.out) hb); have n1_ := Aside0.mk (below_step (b1 GE612.out HB.out) hb); have n2_ := Aside0.mk (hbox); have n3_ := Aside0.mk ((by rw [hg]; exact (below_size (b1 GE612.out HB.out)) : w.heap.size ≤ gb614)); have n4_ := Aside0.mk ((by rw [hg]; exact (below_size (b1 GE612.out HB.out)) : w.heap.size ≤ gb614)); have n5_ := Aside0.mk ((by rw [hg]; exact Nat.ne_of_lt (blk_lt (g := gb612) (o := .cells #[.bool false, .slice (some ad613) l0_1.length c0_1] 54 (0, 0)) (kz BK612.out)) : gb612 ≠ gb614)); have n6_ := Aside0.mk ((by rw [hg]; exact Nat.ne_of_gt (blk_lt (g := gb612) (o := .cells #[.bool false, .slice (some ad613) l0_1.length c0_1] 54 (0, 0)) (kz BK612.out)) : gb614 ≠ gb612)); clear BK612; clear HB; have BK612 := n0_; have HB := n1_; have BK614 := n2_; have GW614 := n3_; have GE614 := n4_; have NB612_614 := n5_; have NB614_612 := n6_; clear n0_ n1_ n2_ n3_ n4_ n5_ n6_; clear hb hbox hg; have hnb53 := NB614_612.out; have hnc53 := NB612_614.out; have hcz54_0 := fz BK614.out 0 (.int .i64 0); have hcz54_1 := fz BK614.out 1 (.int .i64 0); have hcz54_2 := fz BK614.out 2 (.int .i64 0); have hcz54_3 := fz BK614.out 3 (.int .i64 0); have hcz54_4 := fz BK614.out 4 (.int .i64 0); have hfz54_0 := blk_frozen BK614.out 0; have hfz54_1 := blk_frozen BK614.out 1; have hfz54_2 := blk_frozen BK614.out 2; have hfz54_3 := blk_frozen BK614.out 3; have hfz54_4 := blk_frozen BK614.out 4; have hcz55_0 := fz BK612.out 0 (.bool false); have hcz55_1 := fz BK612.out 1 (.slice (some ad613) l0_1.length c0_1); have hfz55_0 := blk_frozen BK612.out 0; have hfz55_1 := blk_frozen BK612.out 1) | (go_at_call 88; (with_reducible refine (impl_in.calls ((rd_T103 l0_1 x23_2).f0) 0 47 true _ A46.out).mono ?_); rintro e w' ⟨rfl, ⟨nd, rfl⟩⟩) | (go_at_call 112; (with_reducible refine (impl_BoxOk.calls ((rd_T103 l0_1 x23_2).f1.f0) ((rd_T103 l0_1 x23_2).f1.f1) ((rd_T103 l0_1 x23_2).f1.f2) ((rd_T103 l0_1 x23_2).f1.f3) true _ A48.out).mono ?_); rintro e w56 ⟨rfl, hb⟩; have n0_ := Aside0.mk (blk_below (g := gb612) (o := .cells #[.bool false, .slice (some ad613) l0_1.length c0_1] 54 (0, 0)) (by (with_reducible repeat (first | refine blk_drewN ?_ _ | refine blk_drew ?_ | refine blk_alloc ?_ _)); refine blk_far ?_ NB612_614.out _; (with_reducible repeat (first | refine blk_drewN ?_ _ | refine blk_drew ?_ | refine blk_alloc ?_ _)); refine blk_far ?_ NB612_614.out _; (with_reducible repeat (first | refine blk_drewN ?_ _ | refine blk_drew ?_ | refine blk_alloc ?_ _)); refine blk_far ?_ NB612_614.out _; (with_reducible repeat (first | refine blk_drewN ?_ _ | refine blk_drew ?_ | refine blk_alloc ?_ _)); refine blk_far ?_ NB612_614.out _; (with_reducible repeat (first | refine blk_drewN ?_ _ | refine blk_drew ?_ | refine blk_alloc ?_ _)); refine blk_far ?_ NB612_614.out _; (with_reducible repeat (first | refine blk_drewN ?_ _ | refine blk_drew ?_ | refine blk_alloc ?_ _)); exact BK612.out) hb); have n1_ := Aside0.mk (blk_below (g := gb614) (o := .cells #[.int .i64 ((rd_T103 l0_1 x23_2).f0), .int .i64 ((rd_T103 l0_1 x23_2).f1.f0), .int .i64 ((rd_T103 l0_1 x23_2).f1.f1), .int .i64 ((rd_T103 l0_1 x23_2).f1.f2), .int .i64 ((rd_T103 l0_1 x23_2).f1.f3)] 103 (0, 0)) (by (with_reducible repeat (first | refine blk_drewN ?_ _ | refine blk_drew ?_ | refine blk_alloc ?_ _)); refine blk_put (cs := #[.int .i64 ((rd_T103 l0_1 x23_2).f0), .int .i64 ((rd_T103 l0_1 x23_2).f1.f0), .int .i64 ((rd_T103 l0_1 x23_2).f1.f1), .int .i64 ((rd_T103 l0_1 x23_2).f1.f2), .int .i64 0]) ?_ 4 _ rfl; (with_reducible repeat (first | refine blk_drewN ?_ _ | refine blk_drew ?_ | refine blk_alloc ?_ _)); refine blk_put (cs := #[.int .i64 ((rd_T103 l0_1 x23_2).f0), .int .i64 ((rd_T103 l0_1 x23_2).f1.f0), .int .i64 ((rd_T103 l0_1 x23_2).f1.f1), .int .i64 0, .int .i64 0]) ?_ 3 _ rfl; (with_reducible repeat (first | refine blk_drewN ?_ _ | refine blk_drew ?_ | refine blk_alloc ?_ _)); refine blk_put (cs := #[.int .i64 ((rd_T103 l0_1 x23_2).f0), .int .i64 ((rd_T103 l0_1 x23_2).f1.f0), .int .i64 0, .int .i64 0, .int .i64 0]) ?_ 2 _ rfl; (with_reducible repeat (first | refine blk_drewN ?_ _ | refine blk_drew ?_ | refine blk_alloc ?_ _)); refine blk_put (cs := #[.int .i64 ((rd_T103 l0_1 x23_2).f0), .int .i64 0, .int .i64 0, .int .i64 0, .int .i64 0]) ?_ 1 _ rfl; (with_reducible repeat (first | refine blk_drewN ?_ _ | refine blk_drew ?_ | refine blk_alloc ?_ _)); refine blk_put (cs := #[.int .i64 0, .int .i64 0, .int .i64 0, .int .i64 0, .int .i64 0]) ?_ 0 _ rfl; (with_reducible repeat (first | refine blk_drewN ?_ _ | refine blk_drew ?_ | refine blk_alloc ?_ _)); exact BK614.out) hb); have n2_ := Aside0.mk (below_step (b2 GE612.out GE614.out HB.out) hb); clear BK612; clear BK614; clear HB; have BK612 := n0_; have BK614 := n1_; have HB := n2_; clear n0_ n1_ n2_; (try clear hb); (try clear hb2); (try clear hk); (try clear hi); have hcz57_0 := fz BK612.out 0 (.bool false); have hcz57_1 := fz BK612.out 1 (.slice (some ad613) l0_1.length c0_1); have hfz57_0 := blk_frozen BK612.out 0; have hfz57_1 := blk_frozen BK612.out 1; have hcz58_0 : w56.cell? ⟨gb614, 0, none⟩ = some (.int .i64 ((rd_T103 l0_1 x23_2).f0)) := (blk_cell BK614.out 0).trans rfl; have hcz58_1 : w56.cell? ⟨gb614, 1, none⟩ = some (.int .i64 ((rd_T103 l0_1 x23_2).f1.f0)) := (blk_cell BK614.out 1).trans rfl; have hcz58_2 : w56.cell? ⟨gb614, 2, none⟩ = some (.int .i64 ((rd_T103 l0_1 x23_2).f1.f1)) := (blk_cell BK614.out 2).trans rfl; have hcz58_3 : w56.cell? ⟨gb614, 3, none⟩ = some (.int .i64 ((rd_T103 l0_1 x23_2).f1.f2)) := (blk_cell BK614.out 3).trans rfl; have hcz58_4 : w56.cell? ⟨gb614, 4, none⟩ = some (.int .i64 ((rd_T103 l0_1 x23_2).f1.f3)) := (blk_cell BK614.out 4).trans rfl; have hfz58_0 := blk_frozen BK614.out 0; have hfz58_1 := blk_frozen BK614.out 1; have hfz58_2 := blk_frozen BK614.out 2; have hfz58_3 := blk_frozen BK614.out 3; have hfz58_4 := blk_frozen BK614.out 4) | (go_at_call 103; (with_reducible refine (impl_EntryAt.calls k2 _ _ l0_1 ((rd_T103 l0_1 x23_2).f0) t620 _ ?side1 ?side2 A50.out).mono ?_); (case side1 => exact sz HR0_1.out HB.out); (case side2 => exact HC0_1.out); rintro e w59 ⟨rfl, hb⟩; have n0_ := Aside0.mk (blk_below (g := gb612) (o := .cells #[.bool false, .slice (some ad613) l0_1.length c0_1] 54 (0, 0)) (kz BK612.out) hb); have n1_ := Aside0.mk (blk_below (g := gb614) (o := .cells #[.int .i64 ((rd_T103 l0_1 x23_2).f0), .int .i64 ((rd_T103 l0_1 x23_2).f1.f0), .int .i64 ((rd_T103 l0_1 x23_2).f1.f1), .int .i64 ((rd_T103 l0_1 x23_2).f1.f2), .int .i64 ((rd_T103 l0_1 x23_2).f1.f3)] 103 (0, 0)) (kz BK614.out) hb); have n2_ := Aside0.mk (below_step (b2 GE612.out GE614.out HB.out) hb); clear BK612; clear BK614; clear HB; have BK612 := n0_; have BK614 := n1_; have HB := n2_; clear n0_ n1_ n2_; (try clear hb); (try clear hb2); (try clear hk); (try clear hi)))
                          go_roundg k2
                          case measure => have := HJ1.out; have := HK2.out; omega
                          case rel => exact ⟨(wrap64 (x23_2 + 1)), az, H', ⟨by have := HJ1.out; have := HK2.out; omega⟩, ⟨kz BK612.out⟩, ⟨b2 GE612.out GE614.out HB.out⟩⟩
                        · rw [if_neg c51] at H
                          have c51b0 : (t620 == x23_2) = false := beq_eq_false_iff_ne.mpr c51; have c51b1 : (t620 != x23_2) = true := bne_iff_ne.mpr c51; obtain rfl := Option.some.inj H; have p613 : 0 ≤ (x23_2 : Int) := of_decide_eq_true uz; have q613 : x23_2 < (l0_1.length : Int) := of_decide_eq_true uz; obtain ⟨ad613, e613, hx613_0, hx613_1, hx613_2, hx613_3, hx613_4⟩ := at_T103 HR0_1.out x23_2 p613 q613
                          cases e613
                          replace hx613_0 := cz HB.out hx613_0; replace hx613_1 := cz HB.out hx613_1; replace hx613_2 := cz HB.out hx613_2; replace hx613_3 := cz HB.out hx613_3; replace hx613_4 := cz HB.out hx613_4; replace p613 := eq_true p613; replace q613 := eq_true q613
                          go_wp2_with (first | ((with_reducible refine gate_dst (N := 4) rfl ?_); (try (refine gate_guard (by rfl) ?_; dsimp only)); refine box_event ?hg (N := 4) ?hd (cs := #[.int .i64 0, .int .i64 0, .int .i64 0, .int .i64 0, .int .i64 0]) (t := 103) ?hr ?_; (case hd => rfl); (case hg => rfl); (case hr => first | (go_simp; done) | (go_simp; rfl)); intro gb614 hg w60 hbox hb; have n0_ := Aside0.mk (blk_below (g := gb612) (o := .cells #[.bool false, .slice (some ad613) l0_1.length c0_1] 54 (0, 0)) (kz BK612.out) hb); have n1_ := Aside0.mk (below_step (b1 GE612.out HB.out) hb); have n2_ := Aside0.mk (hbox); have n3_ := Aside0.mk ((by rw [hg]; exact (below_size (b1 GE612.out HB.out)) : w.heap.size ≤ gb614)); have n4_ := Aside0.mk ((by rw [hg]; exact (below_size (b1 GE612.out HB.out)) : w.heap.size ≤ gb614)); have n5_ := Aside0.mk ((by rw [hg]; exact Nat.ne_of_lt (blk_lt (g := gb612) (o := .cells #[.bool false, .slice (some ad613) l0_1.length c0_1] 54 (0, 0)) (kz BK612.out)) : gb612 ≠ gb614)); have n6_ := Aside0.mk ((by rw [hg]; exact Nat.ne_of_gt (blk_lt (g := gb612) (o := .cells #[.bool false, .slice (some ad613) l0_1.length c0_1] 54 (0, 0)) (kz BK612.out)) : gb614 ≠ gb612)); clear BK612; clear HB; have BK612 := n0_; have HB := n1_; have BK614 := n2_; have GW614 := n3_; have GE614 := n4_; have NB612_614 := n5_; have NB614_612 := n6_; clear n0_ n1_ n2_ n3_ n4_ n5_ n6_; clear hb hbox hg; have hnb61 := NB614_612.out; have hnc61 := NB612_614.out; have hcz62_0 := fz BK614.out 0 (.int .i64 0); have hcz62_1 := fz BK614.out 1 (.int .i64 0); have hcz62_2 := fz BK614.out 2 (.int .i64 0); have hcz62_3 := fz BK614.out 3 (.int .i64 0); have hcz62_4 := fz BK614.out 4 (.int .i64 0); have hfz62_0 := blk_frozen BK614.out 0; have hfz62_1 := blk_frozen BK614.out 1; have hfz62_2 := blk_frozen BK614.out 2; have hfz62_3 := blk_frozen BK614.out 3; have hfz62_4 := blk_frozen BK614.out 4; have hcz63_0 := fz BK612.out 0 (.bool false); have hcz63_1 := fz BK612.out 1 (.slice (some ad613) l0_1.length c0_1); have hfz63_0 := blk_frozen BK612.out 0; have hfz63_1 := blk_frozen BK612.out 1) | (go_at_call 88; (with_reducible refine (impl_in.calls ((rd_T103 l0_1 x23_2).f0) 0 47 true _ A46.out).mono ?_); rintro e w' ⟨rfl, ⟨nd, rfl⟩⟩) | (go_at_call 112; (with_reducible refine (impl_BoxOk.calls ((rd_T103 l0_1 x23_2).f1.f0) ((rd_T103 l0_1 x23_2).f1.f1) ((rd_T103 l0_1 x23_2).f1.f2) ((rd_T103 l0_1 x23_2).f1.f3) true _ A48.out).mono ?_); rintro e w64 ⟨rfl, hb⟩; have n0_ := Aside0.mk (blk_below (g := gb612) (o := .cells #[.bool false, .slice (some ad613) l0_1.length c0_1] 54 (0, 0)) (by (with_reducible repeat (first | refine blk_drewN ?_ _ | refine blk_drew ?_ | refine blk_alloc ?_ _)); refine blk_far ?_ NB612_614.out _; (with_reducible repeat (first | refine blk_drewN ?_ _ | refine blk_drew ?_ | refine blk_alloc ?_ _)); refine blk_far ?_ NB612_614.out _; (with_reducible repeat (first | refine blk_drewN ?_ _ | refine blk_drew ?_ | refine blk_alloc ?_ _)); refine blk_far ?_ NB612_614.out _; (with_reducible repeat (first | refine blk_drewN ?_ _ | refine blk_drew ?_ | refine blk_alloc ?_ _)); refine blk_far ?_ NB612_614.out _; (with_reducible repeat (first | refine blk_drewN ?_ _ | refine blk_drew ?_ | refine blk_alloc ?_ _)); refine blk_far ?_ NB612_614.out _; (with_reducible repeat (first | refine blk_drewN ?_ _ | refine blk_drew ?_ | refine blk_alloc ?_ _)); exact BK612.out) hb); have n1_ := Aside0.mk (blk_below (g := gb614) (o := .cells #[.int .i64 ((rd_T103 l0_1 x23_2).f0), .int .i64 ((rd_T103 l0_1 x23_2).f1.f0), .int .i64 ((rd_T103 l0_1 x23_2).f1.f1), .int .i64 ((rd_T103 l0_1 x23_2).f1.f2), .int .i64 ((rd_T103 l0_1 x23_2).f1.f3)] 103 (0, 0)) (by (with_reducible repeat (first | refine blk_drewN ?_ _ | refine blk_drew ?_ | refine blk_alloc ?_ _)); refine blk_put (cs := #[.int .i64 ((rd_T103 l0_1 x23_2).f0), .int .i64 ((rd_T103 l0_1 x23_2).f1.f0), .int .i64 ((rd_T103 l0_1 x23_2).f1.f1), .int .i64 ((rd_T103 l0_1 x23_2).f1.f2), .int .i64 0]) ?_ 4 _ rfl; (with_reducible repeat (first | refine blk_drewN ?_ _ | refine blk_drew ?_ | refine blk_alloc ?_ _)); refine blk_put (cs := #[.int .i64 ((rd_T103 l0_1 x23_2).f0), .int .i64 ((rd_T103 l0_1 x23_2).f1.f0), .int .i64 ((rd_T103 l0_1 x23_2).f1.f1), .int .i64 0, .int .i64 0]) ?_ 3 _ rfl; (with_reducible repeat (first | refine blk_drewN ?_ _ | refine blk_drew ?_ | refine blk_alloc ?_ _)); refine blk_put (cs := #[.int .i64 ((rd_T103 l0_1 x23_2).f0), .int .i64 ((rd_T103 l0_1 x23_2).f1.f0), .int .i64 0, .int .i64 0, .int .i64 0]) ?_ 2 _ rfl; (with_reducible repeat (first | refine blk_drewN ?_ _ | refine blk_drew ?_ | refine blk_alloc ?_ _)); refine blk_put (cs := #[.int .i64 ((rd_T103 l0_1 x23_2).f0), .int .i64 0, .int .i64 0, .int .i64 0, .int .i64 0]) ?_ 1 _ rfl; (with_reducible repeat (first | refine blk_drewN ?_ _ | refine blk_drew ?_ | refine blk_alloc ?_ _)); refine blk_put (cs := #[.int .i64 0, .int .i64 0, .int .i64 0, .int .i64 0, .int .i64 0]) ?_ 0 _ rfl; (with_reducible repeat (first | refine blk_drewN ?_ _ | refine blk_drew ?_ | refine blk_alloc ?_ _)); exact BK614.out) hb); have n2_ := Aside0.mk (below_step (b2 GE612.out GE614.out HB.out) hb); clear BK612; clear BK614; clear HB; have BK612 := n0_; have BK614 := n1_; have HB := n2_; clear n0_ n1_ n2_; (try clear hb); (try clear hb2); (try clear hk); (try clear hi); have hcz65_0 := fz BK612.out 0 (.bool false); have hcz65_1 := fz BK612.out 1 (.slice (some ad613) l0_1.length c0_1); have hfz65_0 := blk_frozen BK612.out 0; have hfz65_1 := blk_frozen BK612.out 1; have hcz66_0 : w64.cell? ⟨gb614, 0, none⟩ = some (.int .i64 ((rd_T103 l0_1 x23_2).f0)) := (blk_cell BK614.out 0).trans rfl; have hcz66_1 : w64.cell? ⟨gb614, 1, none⟩ = some (.int .i64 ((rd_T103 l0_1 x23_2).f1.f0)) := (blk_cell BK614.out 1).trans rfl; have hcz66_2 : w64.cell? ⟨gb614, 2, none⟩ = some (.int .i64 ((rd_T103 l0_1 x23_2).f1.f1)) := (blk_cell BK614.out 2).trans rfl; have hcz66_3 : w64.cell? ⟨gb614, 3, none⟩ = some (.int .i64 ((rd_T103 l0_1 x23_2).f1.f2)) := (blk_cell BK614.out 3).trans rfl; have hcz66_4 : w64.cell? ⟨gb614, 4, none⟩ = some (.int .i64 ((rd_T103 l0_1 x23_2).f1.f3)) := (blk_cell BK614.out 4).trans rfl; have hfz66_0 := blk_frozen BK614.out 0; have hfz66_1 := blk_frozen BK614.out 1; have hfz66_2 := blk_frozen BK614.out 2; have hfz66_3 := blk_frozen BK614.out 3; have hfz66_4 := blk_frozen BK614.out 4) | (go_at_call 103; (with_reducible refine (impl_EntryAt.calls k2 _ _ l0_1 ((rd_T103 l0_1 x23_2).f0) t620 _ ?side1 ?side2 A50.out).mono ?_); (case side1 => exact sz HR0_1.out HB.out); (case side2 => exact HC0_1.out); rintro e w67 ⟨rfl, hb⟩; have n0_ := Aside0.mk (blk_below (g := gb612) (o := .cells #[.bool false, .slice (some ad613) l0_1.length c0_1] 54 (0, 0)) (kz BK612.out) hb); have n1_ := Aside0.mk (blk_below (g := gb614) (o := .cells #[.int .i64 ((rd_T103 l0_1 x23_2).f0), .int .i64 ((rd_T103 l0_1 x23_2).f1.f0), .int .i64 ((rd_T103 l0_1 x23_2).f1.f1), .int .i64 ((rd_T103 l0_1 x23_2).f1.f2), .int .i64 ((rd_T103 l0_1 x23_2).f1.f3)] 103 (0, 0)) (kz BK614.out) hb); have n2_ := Aside0.mk (below_step (b2 GE612.out GE614.out HB.out) hb); clear BK612; clear BK614; clear HB; have BK612 := n0_; have BK614 := n1_; have HB := n2_; clear n0_ n1_ n2_; (try clear hb); (try clear hb2); (try clear hk); (try clear hi)))
                          go_ret; exact ⟨ez, b2 GE612.out GE614.out HB.out⟩
                      · replace c49 := Bool.eq_false_iff.mpr c49
                        subst c49; replace H : (some false) = some r := (by rw [if_neg (show ¬ (false = true) by decide)] at H; exact H); obtain rfl := Option.some.inj H; have p613 : 0 ≤ (x23_2 : Int) := of_decide_eq_true uz; have q613 : x23_2 < (l0_1.length : Int) := of_decide_eq_true uz; obtain ⟨ad613, e613, hx613_0, hx613_1, hx613_2, hx613_3, hx613_4⟩ := at_T103 HR0_1.out x23_2 p613 q613
                        cases e613
                        replace hx613_0 := cz HB.out hx613_0; replace hx613_1 := cz HB.out hx613_1; replace hx613_2 := cz HB.out hx613_2; replace hx613_3 := cz HB.out hx613_3; replace hx613_4 := cz HB.out hx613_4; replace p613 := eq_true p613; replace q613 := eq_true q613
                        go_wp2_with (first | ((with_reducible refine gate_dst (N := 4) rfl ?_); (try (refine gate_guard (by rfl) ?_; dsimp only)); refine box_event ?hg (N := 4) ?hd (cs := #[.int .i64 0, .int .i64 0, .int .i64 0, .int .i64 0, .int .i64 0]) (t := 103) ?hr ?_; (case hd => rfl); (case hg => rfl); (case hr => first | (go_simp; done) | (go_simp; rfl)); intro gb614 hg w68 hbox hb; have n0_ := Aside0.mk (blk_below (g := gb612) (o := .cells #[.bool false, .slice (some ad613) l0_1.length c0_1] 54 (0, 0)) (kz BK612.out) hb); have n1_ := Aside0.mk (below_step (b1 GE612.out HB.out) hb); have n2_ := Aside0.mk (hbox); have n3_ := Aside0.mk ((by rw [hg]; exact (below_size (b1 GE612.out HB.out)) : w.heap.size ≤ gb614)); have n4_ := Aside0.mk ((by rw [hg]; exact (below_size (b1 GE612.out HB.out)) : w.heap.size ≤ gb614)); have n5_ := Aside0.mk ((by rw [hg]; exact Nat.ne_of_lt (blk_lt (g := gb612) (o := .cells #[.bool false, .slice (some ad613) l0_1.length c0_1] 54 (0, 0)) (kz BK612.out)) : gb612 ≠ gb614)); have n6_ := Aside0.mk ((by rw [hg]; exact Nat.ne_of_gt (blk_lt (g := gb612) (o := .cells #[.bool false, .slice (some ad613) l0_1.length c0_1] 54 (0, 0)) (kz BK612.out)) : gb614 ≠ gb612)); clear BK612; clear HB; have BK612 := n0_; have HB := n1_; have BK614 := n2_; have GW614 := n3_; have GE614 := n4_; have NB612_614 := n5_; have NB614_612 := n6_; clear n0_ n1_ n2_ n3_ n4_ n5_ n6_; clear hb hbox hg; have hnb69 := NB614_612.out; have hnc69 := NB612_614.out; have hcz70_0 := fz BK614.out 0 (.int .i64 0); have hcz70_1 := fz BK614.out 1 (.int .i64 0); have hcz70_2 := fz BK614.out 2 (.int .i64 0); have hcz70_3 := fz BK614.out 3 (.int .i64 0); have hcz70_4 := fz BK614.out 4 (.int .i64 0); have hfz70_0 := blk_frozen BK614.out 0; have hfz70_1 := blk_frozen BK614.out 1; have hfz70_2 := blk_frozen BK614.out 2; have hfz70_3 := blk_frozen BK614.out 3; have hfz70_4 := blk_frozen BK614.out 4; have hcz71_0 := fz BK612.out 0 (.bool false); have hcz71_1 := fz BK612.out 1 (.slice (some ad613) l0_1.length c0_1); have hfz71_0 := blk_frozen BK612.out 0; have hfz71_1 := blk_frozen BK612.out 1) | (go_at_call 88; (with_reducible refine (impl_in.calls ((rd_T103 l0_1 x23_2).f0) 0 47 true _ A46.out).mono ?_); rintro e w' ⟨rfl, ⟨nd, rfl⟩⟩) | (go_at_call 112; (with_reducible refine (impl_BoxOk.calls ((rd_T103 l0_1 x23_2).f1.f0) ((rd_T103 l0_1 x23_2).f1.f1) ((rd_T103 l0_1 x23_2).f1.f2) ((rd_T103 l0_1 x23_2).f1.f3) false _ A48.out).mono ?_); rintro e w72 ⟨rfl, hb⟩; have n0_ := Aside0.mk (blk_below (g := gb612) (o := .cells #[.bool false, .slice (some ad613) l0_1.length c0_1] 54 (0, 0)) (by (with_reducible repeat (first | refine blk_drewN ?_ _ | refine blk_drew ?_ | refine blk_alloc ?_ _)); refine blk_far ?_ NB612_614.out _; (with_reducible repeat (first | refine blk_drewN ?_ _ | refine blk_drew ?_ | refine blk_alloc ?_ _)); refine blk_far ?_ NB612_614.out _; (with_reducible repeat (first | refine blk_drewN ?_ _ | refine blk_drew ?_ | refine blk_alloc ?_ _)); refine blk_far ?_ NB612_614.out _; (with_reducible repeat (first | refine blk_drewN ?_ _ | refine blk_drew ?_ | refine blk_alloc ?_ _)); refine blk_far ?_ NB612_614.out _; (with_reducible repeat (first | refine blk_drewN ?_ _ | refine blk_drew ?_ | refine blk_alloc ?_ _)); refine blk_far ?_ NB612_614.out _; (with_reducible repeat (first | refine blk_drewN ?_ _ | refine blk_drew ?_ | refine blk_alloc ?_ _)); exact BK612.out) hb); have n1_ := Aside0.mk (blk_below (g := gb614) (o := .cells #[.int .i64 ((rd_T103 l0_1 x23_2).f0), .int .i64 ((rd_T103 l0_1 x23_2).f1.f0), .int .i64 ((rd_T103 l0_1 x23_2).f1.f1), .int .i64 ((rd_T103 l0_1 x23_2).f1.f2), .int .i64 ((rd_T103 l0_1 x23_2).f1.f3)] 103 (0, 0)) (by (with_reducible repeat (first | refine blk_drewN ?_ _ | refine blk_drew ?_ | refine blk_alloc ?_ _)); refine blk_put (cs := #[.int .i64 ((rd_T103 l0_1 x23_2).f0), .int .i64 ((rd_T103 l0_1 x23_2).f1.f0), .int .i64 ((rd_T103 l0_1 x23_2).f1.f1), .int .i64 ((rd_T103 l0_1 x23_2).f1.f2), .int .i64 0]) ?_ 4 _ rfl; (with_reducible repeat (first | refine blk_drewN ?_ _ | refine blk_drew ?_ | refine blk_alloc ?_ _)); refine blk_put (cs := #[.int .i64 ((rd_T103 l0_1 x23_2).f0), .int .i64 ((rd_T103 l0_1 x23_2).f1.f0), .int .i64 ((rd_T103 l0_1 x23_2).f1.f1), .int .i64 0, .int .i64 0]) ?_ 3 _ rfl; (with_reducible repeat (first | refine blk_drewN ?_ _ | refine blk_drew ?_ | refine blk_alloc ?_ _)); refine blk_put (cs := #[.int .i64 ((rd_T103 l0_1 x23_2).f0), .int .i64 ((rd_T103 l0_1 x23_2).f1.f0), .int .i64 0, .int .i64 0, .int .i64 0]) ?_ 2 _ rfl; (with_reducible repeat (first | refine blk_drewN ?_ _ | refine blk_drew ?_ | refine blk_alloc ?_ _)); refine blk_put (cs := #[.int .i64 ((rd_T103 l0_1 x23_2).f0), .int .i64 0, .int .i64 0, .int .i64 0, .int .i64 0]) ?_ 1 _ rfl; (with_reducible repeat (first | refine blk_drewN ?_ _ | refine blk_drew ?_ | refine blk_alloc ?_ _)); refine blk_put (cs := #[.int .i64 0, .int .i64 0, .int .i64 0, .int .i64 0, .int .i64 0]) ?_ 0 _ rfl; (with_reducible repeat (first | refine blk_drewN ?_ _ | refine blk_drew ?_ | refine blk_alloc ?_ _)); exact BK614.out) hb); have n2_ := Aside0.mk (below_step (b2 GE612.out GE614.out HB.out) hb); clear BK612; clear BK614; clear HB; have BK612 := n0_; have BK614 := n1_; have HB := n2_; clear n0_ n1_ n2_; (try clear hb); (try clear hb2); (try clear hk); (try clear hi)))
                        go_ret; exact ⟨ez, b2 GE612.out GE614.out HB.out⟩
                    · replace c47 := Bool.eq_false_iff.mpr c47
                      subst c47; replace H : (some false) = some r := (by rw [if_neg (show ¬ (false = true) by decide)] at H; exact H); obtain rfl := Option.some.inj H; have p613 : 0 ≤ (x23_2 : Int) := of_decide_eq_true uz; have q613 : x23_2 < (l0_1.length : Int) := of_decide_eq_true uz; obtain ⟨ad613, e613, hx613_0, hx613_1, hx613_2, hx613_3, hx613_4⟩ := at_T103 HR0_1.out x23_2 p613 q613
                      cases e613
                      replace hx613_0 := cz HB.out hx613_0; replace hx613_1 := cz HB.out hx613_1; replace hx613_2 := cz HB.out hx613_2; replace hx613_3 := cz HB.out hx613_3; replace hx613_4 := cz HB.out hx613_4; replace p613 := eq_true p613; replace q613 := eq_true q613
                      go_wp2_with (first | ((with_reducible refine gate_dst (N := 4) rfl ?_); (try (refine gate_guard (by rfl) ?_; dsimp only)); refine box_event ?hg (N := 4) ?hd (cs := #[.int .i64 0, .int .i64 0, .int .i64 0, .int .i64 0, .int .i64 0]) (t := 103) ?hr ?_; (case hd => rfl); (case hg => rfl); (case hr => first | (go_simp; done) | (go_simp; rfl)); intro gb614 hg w73 hbox hb; have n0_ := Aside0.mk (blk_below (g := gb612) (o := .cells #[.bool false, .slice (some ad613) l0_1.length c0_1] 54 (0, 0)) (kz BK612.out) hb); have n1_ := Aside0.mk (below_step (b1 GE612.out HB.out) hb); have n2_ := Aside0.mk (hbox); have n3_ := Aside0.mk ((by rw [hg]; exact (below_size (b1 GE612.out HB.out)) : w.heap.size ≤ gb614)); have n4_ := Aside0.mk ((by rw [hg]; exact (below_size (b1 GE612.out HB.out)) : w.heap.size ≤ gb614)); have n5_ := Aside0.mk ((by rw [hg]; exact Nat.ne_of_lt (blk_lt (g := gb612) (o := .cells #[.bool false, .slice (some ad613) l0_1.length c0_1] 54 (0, 0)) (kz BK612.out)) : gb612 ≠ gb614)); have n6_ := Aside0.mk ((by rw [hg]; exact Nat.ne_of_gt (blk_lt (g := gb612) (o := .cells #[.bool false, .slice (some ad613) l0_1.length c0_1] 54 (0, 0)) (kz BK612.out)) : gb614 ≠ gb612)); clear BK612; clear HB; have BK612 := n0_; have HB := n1_; have BK614 := n2_; have GW614 := n3_; have GE614 := n4_; have NB612_614 := n5_; have NB614_612 := n6_; clear n0_ n1_ n2_ n3_ n4_ n5_ n6_; clear hb hbox hg; have hnb74 := NB614_612.out; have hnc74 := NB612_614.out; have hcz75_0 := fz BK614.out 0 (.int .i64 0); have hcz75_1 := fz BK614.out 1 (.int .i64 0); have hcz75_2 := fz BK614.out 2 (.int .i64 0); have hcz75_3 := fz BK614.out 3 (.int .i64 0); have hcz75_4 := fz BK614.out 4 (.int .i64 0); have hfz75_0 := blk_frozen BK614.out 0; have hfz75_1 := blk_frozen BK614.out 1; have hfz75_2 := blk_frozen BK614.out 2; have hfz75_3 := blk_frozen BK614.out 3; have hfz75_4 := blk_frozen BK614.out 4; have hcz76_0 := fz BK612.out 0 (.bool false); have hcz76_1 := fz BK612.out 1 (.slice (some ad613) l0_1.length c0_1); have hfz76_0 := blk_frozen BK612.out 0; have hfz76_1 := blk_frozen BK612.out 1) | (go_at_call 88; (with_reducible refine (impl_in.calls ((rd_T103 l0_1 x23_2).f0) 0 47 false _ A46.out).mono ?_); rintro e w' ⟨rfl, ⟨nd, rfl⟩⟩))
                      go_ret; exact ⟨ez, b2 GE612.out GE614.out HB.out⟩
                · rw [if_neg c13] at H
                  exact absurd H (by simp)
              · rw [if_neg c12] at H
                exact absurd H (by simp)
            · rw [if_neg c11] at H
              have c11b0 : decide (x23_2 < (l0_1.length : Int)) = false := decide_eq_false c11; clear c11; obtain rfl := Option.some.inj H; go_wp2; go_ret; exact ⟨ez, b1 GE612.out HB.out⟩

attribute [local go_sem] max2_int min2_int max_two min_two max_three min_three max_four min_four 
set_option linter.unusedVariables false
set_option linter.unusedSimpArgs false

theorem eqA32 (d : Nat) (w : World) (x0 y0 : Int) (x1 y1 : Int) (x2 y2 : Int) (x3 y3 : Int) :
    (Op.equalIn (d + 2) 32 (.agg #[.int .i64 x0, .int .i64 x1, .int .i64 x2, .int .i64 x3]) (.agg #[.int .i64 y0, .int .i64 y1, .int .i64 y2, .int .i64 y3])).run Try.prog w = .ok (x0 == y0 && (x1 == y1 && (x2 == y2 && (x3 == y3)))) w := by
  refine eqA_of Try.underlying32 (by kernel_rfl) ?_; refine eqf_cons (by rfl) (by go_simp; rfl) (by go_simp; rfl) (by go_simp) ?_; refine eqf_cons (by rfl) (by go_simp; rfl) (by go_simp; rfl) (by go_simp) ?_; refine eqf_cons (by rfl) (by go_simp; rfl) (by go_simp; rfl) (by go_simp) ?_; exact eqf_last (by rfl) (by go_simp; rfl) (by go_simp; rfl) (by go_simp)

attribute [local go_sem] max2_int min2_int max_two min_two max_three min_three max_four min_four 
set_option linter.unusedVariables false
set_option linter.unusedSimpArgs false

theorem eqA103 (d : Nat) (w : World) (x0 y0 : Int) (x1 y1 : Int) (x2 y2 : Int) (x3 y3 : Int) (x4 y4 : Int) :
    (Op.equalIn (d + 3) 103 (.agg #[.int .i64 x0, .int .i64 x1, .int .i64 x2, .int .i64 x3, .int .i64 x4]) (.agg #[.int .i64 y0, .int .i64 y1, .int .i64 y2, .int .i64 y3, .int .i64 y4])).run Try.prog w = .ok (x0 == y0 && ((x1 == y1 && (x2 == y2 && (x3 == y3 && (x4 == y4)))))) w := by
  refine eqA_of Try.underlying103 (by kernel_rfl) ?_; refine eqf_cons (by rfl) (by go_simp; rfl) (by go_simp; rfl) (by go_simp) ?_; exact eqf_last (by rfl) (by go_simp) (by go_simp) (eqA32 (d + 0) w _ _ _ _ _ _ _ _)

attribute [local go_sem] max2_int min2_int max_two min_two max_three min_three max_four min_four 
set_option linter.unusedVariables false
set_option linter.unusedSimpArgs false

attribute [local go_sem high] eqA103
/-! ### slices_Equal_Entry: function 126 -/
def slices_Equal_Entry.l0 : Nat → List (S103) → List (S103) → Int → Int → Option (Bool)
  | 0, _, _, _, _ => none
  | k + 1, x0, x1, x12, x13 => if x13 < x12 then (if 0 ≤ x13 then (if x13 < (x0.length : Int) then (if x13 < (x1.length : Int) then (if (!(((rd_T103 x0 x13).f0) == ((rd_T103 x1 x13).f0)) || ((!(((rd_T103 x0 x13).f1.f0) == ((rd_T103 x1 x13).f1.f0)) || (!(((rd_T103 x0 x13).f1.f1) == ((rd_T103 x1 x13).f1.f1)) || (!(((rd_T103 x0 x13).f1.f2) == ((rd_T103 x1 x13).f1.f2)) || (!(((rd_T103 x0 x13).f1.f3) == ((rd_T103 x1 x13).f1.f3)))))))) = true then (some false) else (slices_Equal_Entry.l0 k x0 x1 x12 (wrap64 (x13 + 1)))) else (none)) else (none)) else (none)) else (some true)
def slices_Equal_Entry.f (k : Nat) (l0 : List (S103)) (l1 : List (S103)) : Option (Bool) := if (l0.length : Int) = (l1.length : Int) then (slices_Equal_Entry.l0 k l0 l1 (l0.length : Int) 0) else (some false)
theorem slices_Equal_Entry.mono_l : ∀ k, (∀ y0 y1 y2 y3, LeO (slices_Equal_Entry.l0 k y0 y1 y2 y3) (slices_Equal_Entry.l0 (k + 1) y0 y1 y2 y3))
  | 0 => fun _ _ _ _ r h => by simp [slices_Equal_Entry.l0] at h
  | k + 1 => by
    have ih0 := slices_Equal_Entry.mono_l k
    · intro y0 y1 y2 y3
      unfold slices_Equal_Entry.l0
      repeat' first | (with_reducible first | exact ih0 _ _ _ _ | exact LeO.refl _ | exact LeO.none _ | refine LeO.ite ?_ ?_ | refine LeO.bind ?_ (fun _ => ?_)) | exact ih0 _ _ _ _ | exact LeO.none _ | refine LeO.ite ?_ ?_ | refine LeO.bind ?_ (fun _ => ?_)
theorem slices_Equal_Entry.mono : ∀ a0 a1 k, LeO (slices_Equal_Entry.f k a0 a1) (slices_Equal_Entry.f (k + 1) a0 a1) := by
  intro a0 a1 k
  have ih0 := slices_Equal_Entry.mono_l k; unfold slices_Equal_Entry.f
  repeat' first | (with_reducible first | exact ih0 _ _ _ _ | exact LeO.refl _ | exact LeO.none _ | refine LeO.ite ?_ ?_ | refine LeO.bind ?_ (fun _ => ?_)) | exact ih0 _ _ _ _ | exact LeO.none _ | refine LeO.ite ?_ ?_ | refine LeO.bind ?_ (fun _ => ?_)
set_option maxHeartbeats 8000000 in
set_option maxRecDepth 100000 in
theorem slices_Equal_Entry.calls (k : Nat) (A0 : Option Addr) (c0 : Nat) (l0 : List (S103)) (A1 : Option Addr) (c1 : Nat) (l1 : List (S103)) (r : Bool) (w : World) (hr0 : Kd.C k103 w A0 l0.length l0) (hc0 : l0.length ≤ c0) (hr1 : Kd.C k103 w A1 l1.length l1) (hc1 : l1.length ≤ c1) (h : slices_Equal_Entry.f k l0 l1 = some r) :
    Calls Try.prog 126 #[.slice A0 l0.length c0, .slice A1 l1.length c1] w fun e w' => e = .returned (.bool r) ∧ Drawn0 w w' := by
  have hu103 := Try.underlying103; have HR0 := Aside0.mk hr0; have HC0 := Aside0.mk hc0; clear hr0 hc0; have HR1 := Aside0.mk hr1; have HC1 := Aside0.mk hc1; clear hr1 hc1; have H : (if (l0.length : Int) = (l1.length : Int) then (slices_Equal_Entry.l0 k l0 l1 (l0.length : Int) 0) else (some false)) = some r := h; clear h
  by_cases c3 : (l0.length : Int) = (l1.length : Int)
  · rw [if_pos c3] at H
    have c3b0 : ((l0.length : Int) == (l1.length : Int)) = true := beq_iff_eq.mpr c3; have c3b1 : ((l0.length : Int) != (l1.length : Int)) = false := bne_eq_false_iff_eq.mpr c3
    have c3b2 : (l0.length == l1.length) = true := by first | simpa using c3 | (simp at c3 ⊢; omega)
    clear c3; have H' := Aside0.mk H; clear H
    go_enter Try.func126, Try.ntmps126
    go_wp2
    repeat (go_quiet (fail); try go_wp2)
    go_loopg [13] k (fun kq v13 w' => ∃ (x13_1 : Int), v13 = .int .i64 x13_1 ∧ Aside0 (slices_Equal_Entry.l0 kq l0 l1 (l0.length : Int) x13_1 = some r) ∧ Aside0 (kq ≤ k) ∧ Drawn0 w w')
    case atStart => exact ⟨(0), az, H', ⟨Nat.le_refl _⟩, by repeat (first | exact Drawn0.refl _ | apply Drawn0.step)⟩
    case round =>
      clear H'; (try clear c1); (try clear p2); (try clear c3); (try clear c3b0); (try clear c3b1); (try clear c3b2); obtain ⟨x13_1, rfl, HA, HK1, ⟨m1, rfl⟩⟩ := hrel
      cases gk with
      | zero => exact absurd HA.out (by simp [slices_Equal_Entry.l0])
      | succ k1 =>
        have H := HA.out; clear HA
        simp only [slices_Equal_Entry.l0] at H
        by_cases c4 : x13_1 < (l0.length : Int)
        · rw [if_pos c4] at H
          have c4b0 : decide (x13_1 < (l0.length : Int)) = true := decide_eq_true c4; clear c4
          by_cases c5 : 0 ≤ x13_1
          · rw [if_pos c5] at H
            have c5b0 : decide (0 ≤ x13_1) = true := decide_eq_true c5; clear c5
            by_cases c6 : x13_1 < (l0.length : Int)
            · rw [if_pos c6] at H
              have c6b0 : decide (x13_1 < (l0.length : Int)) = true := decide_eq_true c6; clear c6
              by_cases c7 : x13_1 < (l1.length : Int)
              · rw [if_pos c7] at H
                have c7b0 : decide (x13_1 < (l1.length : Int)) = true := decide_eq_true c7; clear c7
                by_cases c8 : (!(((rd_T103 l0 x13_1).f0) == ((rd_T103 l1 x13_1).f0)) || ((!(((rd_T103 l0 x13_1).f1.f0) == ((rd_T103 l1 x13_1).f1.f0)) || (!(((rd_T103 l0 x13_1).f1.f1) == ((rd_T103 l1 x13_1).f1.f1)) || (!(((rd_T103 l0 x13_1).f1.f2) == ((rd_T103 l1 x13_1).f1.f2)) || (!(((rd_T103 l0 x13_1).f1.f3) == ((rd_T103 l1 x13_1).f1.f3)))))))) = true
                · rw [if_pos c8] at H
                  have c8b0 : (!(((rd_T103 l0 x13_1).f0) == ((rd_T103 l1 x13_1).f0)) || ((!(((rd_T103 l0 x13_1).f1.f0) == ((rd_T103 l1 x13_1).f1.f0)) || (!(((rd_T103 l0 x13_1).f1.f1) == ((rd_T103 l1 x13_1).f1.f1)) || (!(((rd_T103 l0 x13_1).f1.f2) == ((rd_T103 l1 x13_1).f1.f2)) || (!(((rd_T103 l0 x13_1).f1.f3) == ((rd_T103 l1 x13_1).f1.f3)))))))) = true := c8; clear c8; obtain rfl := Option.some.inj H; have p621 : 0 ≤ (x13_1 : Int) := of_decide_eq_true uz; have q621 : x13_1 < (l0.length : Int) := of_decide_eq_true uz; obtain ⟨ad621, e621, hx621_0, hx621_1, hx621_2, hx621_3, hx621_4⟩ := at_T103 HR0.out x13_1 p621 q621
                  cases e621
                  replace p621 := eq_true p621; replace q621 := eq_true q621; have p622 : 0 ≤ (x13_1 : Int) := of_decide_eq_true uz; have q622 : x13_1 < (l1.length : Int) := of_decide_eq_true uz; obtain ⟨ad622, e622, hx622_0, hx622_1, hx622_2, hx622_3, hx622_4⟩ := at_T103 HR1.out x13_1 p622 q622
                  cases e622
                  replace p622 := eq_true p622; replace q622 := eq_true q622; go_wp2
                  repeat (go_quiet (fail); try go_wp2)
                  go_ret; exact ⟨by first | rfl | (simp; done) | (simp [*]; done), by repeat (first | exact Drawn0.refl _ | apply Drawn0.step)⟩
                · rw [if_neg c8] at H
                  have c8b0 : (!(((rd_T103 l0 x13_1).f0) == ((rd_T103 l1 x13_1).f0)) || ((!(((rd_T103 l0 x13_1).f1.f0) == ((rd_T103 l1 x13_1).f1.f0)) || (!(((rd_T103 l0 x13_1).f1.f1) == ((rd_T103 l1 x13_1).f1.f1)) || (!(((rd_T103 l0 x13_1).f1.f2) == ((rd_T103 l1 x13_1).f1.f2)) || (!(((rd_T103 l0 x13_1).f1.f3) == ((rd_T103 l1 x13_1).f1.f3)))))))) = false := by simpa using c8
                  clear c8; have H' := Aside0.mk H; clear H; have p621 : 0 ≤ (x13_1 : Int) := of_decide_eq_true uz; have q621 : x13_1 < (l0.length : Int) := of_decide_eq_true uz; obtain ⟨ad621, e621, hx621_0, hx621_1, hx621_2, hx621_3, hx621_4⟩ := at_T103 HR0.out x13_1 p621 q621
                  cases e621
                  replace p621 := eq_true p621; replace q621 := eq_true q621; have p622 : 0 ≤ (x13_1 : Int) := of_decide_eq_true uz; have q622 : x13_1 < (l1.length : Int) := of_decide_eq_true uz; obtain ⟨ad622, e622, hx622_0, hx622_1, hx622_2, hx622_3, hx622_4⟩ := at_T103 HR1.out x13_1 p622 q622
                  cases e622
                  replace p622 := eq_true p622; replace q622 := eq_true q622; go_wp2
                  repeat (go_quiet (fail); try go_wp2)
                  go_roundg k1
                  case measure => have := HK1.out; omega
                  case rel => exact ⟨(wrap64 (x13_1 + 1)), az, H', ⟨by have := HK1.out; omega⟩, by repeat (first | exact Drawn0.refl _ | apply Drawn0.step)⟩
              · rw [if_neg c7] at H
                exact absurd H (by simp)
            · rw [if_neg c6] at H
              exact absurd H (by simp)
          · rw [if_neg c5] at H
            exact absurd H (by simp)
        · rw [if_neg c4] at H
          have c4b0 : decide (x13_1 < (l0.length : Int)) = false := decide_eq_false c4; clear c4; obtain rfl := Option.some.inj H; go_wp2
          repeat (go_quiet (fail); try go_wp2)
          go_ret; exact ⟨by first | rfl | (simp; done) | (simp [*]; done), by repeat (first | exact Drawn0.refl _ | apply Drawn0.step)⟩
  · rw [if_neg c3] at H
    have c3b0 : ((l0.length : Int) == (l1.length : Int)) = false := beq_eq_false_iff_ne.mpr c3; have c3b1 : ((l0.length : Int) != (l1.length : Int)) = true := bne_iff_ne.mpr c3
    have c3b2 : (l0.length == l1.length) = false := by first | simpa using c3 | (simp at c3 ⊢; omega)
    obtain rfl := Option.some.inj H
    go_enter Try.func126, Try.ntmps126
    go_wp2
    repeat (go_quiet (fail); try go_wp2)
    go_ret; exact ⟨by first | rfl | (simp; done) | (simp [*]; done), by repeat (first | exact Drawn0.refl _ | apply Drawn0.step)⟩

end Go.Proofs.Ytngjaajcdbodeaa.All
