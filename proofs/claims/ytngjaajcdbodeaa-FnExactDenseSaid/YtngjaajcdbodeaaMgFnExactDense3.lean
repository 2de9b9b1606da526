/- The texts on which the row FnExactDense rests, part 3: contracts of the functions that it reaches and plain laws of what they compute. No condition. -/
import Derived.Maps.OwnOps
import Derived.Maps.Views
import Derived.Test.YtngjaajcdbodeaaMgFnExactDense1
import Derived.Test.YtngjaajcdbodeaaMgFnExactDense2
namespace Go.Proofs.Ytngjaajcdbodeaa.All
open Go.RowKit Go.Proofs.YtngjaajcdbodeaaW.PrintWords Go.Proofs.YtngjaajcdbodeaaW.PrintLast Go.Proofs.YtngjaajcdbodeaaW.PrintMore Go.Proofs.Ytngjaajcdbodeaa.Sq
attribute [local go_sem] max2_int min2_int max_two min_two max_three min_three max_four min_four 
set_option linter.unusedVariables false
set_option linter.unusedSimpArgs false

/-! ### spec_l15Level: function 104 -/
mutual
def spec_l15Level.j0 : Nat → Int → Int → Bool → Int → List (S90) → Option (List Int)
  | 0, _, _, _, _, _ => none
  | k + 1, x1, x2, x29, x985000, x985001 => if x29 = true then (some (([] : List Int))) else (if x2 = 1 then (some (([x1] : List Int))) else (if 0 ≤ x1 then (if x1 < (x985001.length : Int) then (spec_l15Level.l0 k x2 (([] : List Int)) 0 x985000 x985001 ((rd_T90 x985001 x1).f1.f0) ((rd_T90 x985001 x1).f1.f1)) else (none)) else (none)))
def spec_l15Level.l0 : Nat → Int → List Int → Int → Int → List (S90) → Bool → List (S103) → Option (List Int)
  | 0, _, _, _, _, _, _, _ => none
  | k + 1, x2, x7, x9, x985000, x985001, x998000, x998001 => if x9 < (x998001.length : Int) then (if x998000 = true then (some x7) else (if 0 ≤ x9 then ((spec_l15Level.f k x985000 x985001 ((rd_T103 x998001 x9).f0) (wrap64 (x2 - 1))).bind fun t999 => (if x7.length + t999.length < 17592186044416 then (spec_l15Level.l0 k x2 (x7 ++ t999) (wrap64 (x9 + 1)) x985000 x985001 x998000 x998001) else (none))) else (none))) else (some x7)
def spec_l15Level.f : Nat → Int → List (S90) → Int → Int → Option (List Int)
  | 0, _, _, _, _ => none
  | k + 1, a0_0, l0_1, a1, a2 => (spec_l1In.f a1 0 (wrap64 ((l0_1.length : Int) - 1))).bind fun t985 => (if t985 = true then (if 0 ≤ a1 then (if a1 < (l0_1.length : Int) then (if ((rd_T90 l0_1 a1).f0 = true) then (spec_l15Level.j0 k a1 a2 (decide (a2 > 12)) a0_0 l0_1) else (spec_l15Level.j0 k a1 a2 true a0_0 l0_1)) else (none)) else (none)) else (spec_l15Level.j0 k a1 a2 true a0_0 l0_1))
end
theorem spec_l15Level.mono_l : ∀ k, (∀ y0 y1 y2 y3, LeO (spec_l15Level.f k y0 y1 y2 y3) (spec_l15Level.f (k + 1) y0 y1 y2 y3)) ∧ (∀ y0 y1 y2 y3 y4, LeO (spec_l15Level.j0 k y0 y1 y2 y3 y4) (spec_l15Level.j0 (k + 1) y0 y1 y2 y3 y4)) ∧ (∀ y0 y1 y2 y3 y4 y5 y6, LeO (spec_l15Level.l0 k y0 y1 y2 y3 y4 y5 y6) (spec_l15Level.l0 (k + 1) y0 y1 y2 y3 y4 y5 y6))
  | 0 => ⟨fun _ _ _ _ r h => by simp [spec_l15Level.f] at h, fun _ _ _ _ _ r h => by simp [spec_l15Level.j0] at h, fun _ _ _ _ _ _ _ r h => by simp [spec_l15Level.l0] at h⟩
  | k + 1 => by
    obtain ⟨ih0, ih1, ih2⟩ := spec_l15Level.mono_l k; refine ⟨?_, ?_, ?_⟩
    · intro y0 y1 y2 y3
      unfold spec_l15Level.f
      repeat' first | (with_reducible first | exact ih0 _ _ _ _ | exact ih1 _ _ _ _ _ | exact ih2 _ _ _ _ _ _ _ | exact LeO.refl _ | exact LeO.none _ | refine LeO.ite ?_ ?_ | refine LeO.bind ?_ (fun _ => ?_)) | exact ih0 _ _ _ _ | exact ih1 _ _ _ _ _ | exact ih2 _ _ _ _ _ _ _ | exact LeO.none _ | refine LeO.ite ?_ ?_ | refine LeO.bind ?_ (fun _ => ?_)
    · intro y0 y1 y2 y3 y4
      unfold spec_l15Level.j0
      repeat' first | (with_reducible first | exact ih0 _ _ _ _ | exact ih1 _ _ _ _ _ | exact ih2 _ _ _ _ _ _ _ | exact LeO.refl _ | exact LeO.none _ | refine LeO.ite ?_ ?_ | refine LeO.bind ?_ (fun _ => ?_)) | exact ih0 _ _ _ _ | exact ih1 _ _ _ _ _ | exact ih2 _ _ _ _ _ _ _ | exact LeO.none _ | refine LeO.ite ?_ ?_ | refine LeO.bind ?_ (fun _ => ?_)
    · intro y0 y1 y2 y3 y4 y5 y6
      unfold spec_l15Level.l0
      repeat' first | (with_reducible first | exact ih0 _ _ _ _ | exact ih1 _ _ _ _ _ | exact ih2 _ _ _ _ _ _ _ | exact LeO.refl _ | exact LeO.none _ | refine LeO.ite ?_ ?_ | refine LeO.bind ?_ (fun _ => ?_)) | exact ih0 _ _ _ _ | exact ih1 _ _ _ _ _ | exact ih2 _ _ _ _ _ _ _ | exact LeO.none _ | refine LeO.ite ?_ ?_ | refine LeO.bind ?_ (fun _ => ?_)
theorem spec_l15Level.mono : ∀ a0 a1 a2 a3 k, LeO (spec_l15Level.f k a0 a1 a2 a3) (spec_l15Level.f (k + 1) a0 a1 a2 a3) := by
  intro a0 a1 a2 a3 k
  obtain ⟨ih0, ih1, ih2⟩ := spec_l15Level.mono_l k; exact ih0 a0 a1 a2 a3
def spec_l15Level.T10 : Bool × List (List Nat × List Nat) := (true, [([], []), ([], []), ([], []), ([2], [2]), ([], []), ([3, 4], [3, 4]), ([5], [5]), ([6], [6]), ([], []), ([8], [8]), ([1, 7, 9], [1, 7, 9]), ([0, 10, 10], [0, 10]), ([11, 11, 0, 1, 2, 3, 4, 5, 6, 7, 8, 9, 10, 11], [0, 11])])
def spec_l15Level.B10 : List Nat := [0, 0, 0, 4, 0, 28, 60, 124, 0, 256, 1022, 2047, 4095]
theorem spec_l15Level.tab10 : rtab .any (opsOf Try.f104 10) = spec_l15Level.T10 := by kernel_rfl
theorem spec_l15Level.bits10 : waitsOk spec_l15Level.T10.2 spec_l15Level.B10 = true := by kernel_rfl
set_option maxHeartbeats 8000000 in
set_option maxRecDepth 100000 in
theorem spec_l15Level.calls (k : Nat) : ∀ (a0_0 : Int) (A0_1 : Option Addr) (c0_1 : Nat) (l0_1 : List (S90)) (a1 : Int) (a2 : Int) (r : List Int) (w : World) (hr0_1 : Kd.C k90 w A0_1 l0_1.length l0_1) (hc0_1 : l0_1.length ≤ c0_1) (h : spec_l15Level.f k a0_0 l0_1 a1 a2 = some r),
    Calls Try.prog 104 #[.agg #[.int .i64 a0_0, .slice A0_1 l0_1.length c0_1], .int .i64 a1, .int .i64 a2] w fun e w' => ∃ v0_ : Value, e = .returned (v0_) ∧ Kd.R (Kd.int .i64) 3 w' w.heap.size (fun _ => True) v0_ r ∧ Below w.heap.size w w' := by
  induction k using Nat.strongRecOn with
  | _ k ih =>
  intro a0_0 A0_1 c0_1 l0_1 a1 a2 r w hr0_1 hc0_1 h
  cases k with
  | zero => exact absurd h (by simp [spec_l15Level.f])
  | succ k =>
  simp only [spec_l15Level.f] at h
  have hu49 := Try.underlying49; have hu54 := Try.underlying54; have HR0_1 := Aside0.mk hr0_1; have HC0_1 := Aside0.mk hc0_1; clear hr0_1 hc0_1; have HB := Aside0.mk (Below.refl w.heap.size w); have H : ((spec_l1In.f a1 0 (wrap64 ((l0_1.length : Int) - 1))).bind fun t985 => (if t985 = true then (if 0 ≤ a1 then (if a1 < (l0_1.length : Int) then (if ((rd_T90 l0_1 a1).f0 = true) then (spec_l15Level.j0 k a1 a2 (decide (a2 > 12)) a0_0 l0_1) else (spec_l15Level.j0 k a1 a2 true a0_0 l0_1)) else (none)) else (none)) else (spec_l15Level.j0 k a1 a2 true a0_0 l0_1))) = some r := h; clear h; have HC4 := Aside0.mk H; clear H
  go_enter Try.func104, Try.ntmps104
  go_upto_region 1 with (first | ((with_reducible refine gate_dst (N := 3) rfl ?_); refine box_event ?hg (N := 3) ?hd (cs := #[.int .i64 a0_0, .slice A0_1 l0_1.length c0_1]) (t := 49) ?hr ?_; (case hd => rfl); (case hg => rfl); (case hr => first | (go_simp; done) | (go_simp; rfl)); intro gb984 hg w5 hbox hb; have n0_ := Aside0.mk (below_step (bz HB.out) hb); have n1_ := Aside0.mk (hbox); have n2_ := Aside0.mk ((by rw [hg]; exact (below_size (bz HB.out)) : w.heap.size ≤ gb984)); have n3_ := Aside0.mk ((by rw [hg]; exact (below_size (bz HB.out)) : w.heap.size ≤ gb984)); clear HB; have HB := n0_; have BK984 := n1_; have GW984 := n2_; have GE984 := n3_; clear n0_ n1_ n2_ n3_; clear hb hbox hg))
  (try simp only [Act.put, List.setIfInBounds_toArray, List.set_cons_zero, List.set_cons_succ])
  go_cut [29] (fun v29 wc => ∃ (kq : Nat) (x29_3 : Bool), v29 = .bool x29_3 ∧ Aside0 (spec_l15Level.j0 kq a1 a2 x29_3 a0_0 l0_1 = some r) ∧ Aside0 (kq ≤ k) ∧ Aside0 (wc.heap[gb984]? = some (.cells #[.int .i64 a0_0, (.slice A0_1 l0_1.length c0_1)] 49 (0, 0))) ∧ Aside0 (Below w.heap.size w wc))
  case first =>
    have H := HC4.out; clear HC4; replace H := Option.bind_eq_some_iff.mp H; obtain ⟨t985, A60, H⟩ := H; replace H : (if t985 = true then (if 0 ≤ a1 then (if a1 < (l0_1.length : Int) then (if ((rd_T90 l0_1 a1).f0 = true) then (spec_l15Level.j0 k a1 a2 (decide (a2 > 12)) a0_0 l0_1) else (spec_l15Level.j0 k a1 a2 true a0_0 l0_1)) else (none)) else (none)) else (spec_l15Level.j0 k a1 a2 true a0_0 l0_1)) = some r := H; have A6 := Aside0.mk A60; clear A60
    by_cases c7 : t985 = true
    · subst c7
      replace H : (if 0 ≤ a1 then (if a1 < (l0_1.length : Int) then (if ((rd_T90 l0_1 a1).f0 = true) then (spec_l15Level.j0 k a1 a2 (decide (a2 > 12)) a0_0 l0_1) else (spec_l15Level.j0 k a1 a2 true a0_0 l0_1)) else (none)) else (none)) = some r := (by rw [if_pos rfl] at H; exact H)
      by_cases c8 : 0 ≤ a1
      · rw [if_pos c8] at H
        have c8b0 : decide (0 ≤ a1) = true := decide_eq_true c8; clear c8
        (first | rw [c8b0] | (simp only [i64_w, i32_w]; rw [c8b0]) | skip)
        by_cases c9 : a1 < (l0_1.length : Int)
        · rw [if_pos c9] at H
          have c9b0 : decide (a1 < (l0_1.length : Int)) = true := decide_eq_true c9; clear c9; obtain ⟨bq10, hbq10⟩ : ∃ b_ : Bool, b_ = ((rd_T90 l0_1 a1).f0) := ⟨_, rfl⟩
          replace H : (if (bq10 = true) then (spec_l15Level.j0 k a1 a2 (decide (a2 > 12)) a0_0 l0_1) else (spec_l15Level.j0 k a1 a2 true a0_0 l0_1)) = some r := by rw [← hbq10] at H; exact H
          have Nbq10 := Aside0.mk hbq10; clear hbq10
          by_cases c11 : (bq10 = true)
          · subst c11
            replace H : (spec_l15Level.j0 k a1 a2 (decide (a2 > 12)) a0_0 l0_1) = some r := (by rw [if_pos rfl] at H; exact H); have H' := Aside0.mk H; clear H; have hcz12_0 := fz BK984.out 0 (.int .i64 a0_0); have hcz12_1 := fz BK984.out 1 (.slice A0_1 l0_1.length c0_1); have hfz12_0 := blk_frozen BK984.out 0; have hfz12_1 := blk_frozen BK984.out 1
            go_wp2_with (first | ((with_reducible refine gate_callee (f := 72) rfl ?_); refine goesL_ (some 15) rfl rfl Try.func72 (by kernel_rfl) rfl #[.int .i64 a1, .int .i64 0, .int .i64 (wrap64 ((l0_1.length : Int) - 1))] rfl dz ?_; (with_reducible refine (spec_l1In.calls a1 0 (wrap64 ((l0_1.length : Int) - 1)) true _ A6.out).mono ?_); rintro e w' ⟨rfl, ⟨nd, rfl⟩⟩; refine ⟨_, rfl, ?_⟩; have p986 : 0 ≤ (a1 : Int) := of_decide_eq_true uz; have q986 : a1 < (l0_1.length : Int) := of_decide_eq_true uz; obtain ⟨ad986, A986_2, c986_2, e986, hx986_0, hx986_1, hx986_2, hl986_2, hi986_2⟩ := at_T90 HR0_1.out a1 p986 q986; (try rw [← Nbq10.out] at hx986_0); (try rw [← Nbq10.out] at hx986_1); cases e986; replace hx986_0 := cz HB.out hx986_0; replace hx986_1 := cz HB.out hx986_1; replace hx986_2 := cz HB.out hx986_2; have HR986_2 := Aside0.mk hi986_2; have HC986_2 := Aside0.mk hl986_2; clear hi986_2 hl986_2; replace p986 := eq_true p986; replace q986 := eq_true q986))
            go_meet
            case rel => exact ⟨_, (decide (a2 > 12)), az, H', ⟨lz⟩, ⟨kz BK984.out⟩, ⟨b1 GE984.out HB.out⟩⟩
          · replace c11 := Bool.eq_false_iff.mpr c11
            subst c11; replace H : (spec_l15Level.j0 k a1 a2 true a0_0 l0_1) = some r := (by rw [if_neg (show ¬ (false = true) by decide)] at H; exact H); have H' := Aside0.mk H; clear H; have hcz13_0 := fz BK984.out 0 (.int .i64 a0_0); have hcz13_1 := fz BK984.out 1 (.slice A0_1 l0_1.length c0_1); have hfz13_0 := blk_frozen BK984.out 0; have hfz13_1 := blk_frozen BK984.out 1
            go_wp2_with (first | ((with_reducible refine gate_callee (f := 72) rfl ?_); refine goesL_ (some 15) rfl rfl Try.func72 (by kernel_rfl) rfl #[.int .i64 a1, .int .i64 0, .int .i64 (wrap64 ((l0_1.length : Int) - 1))] rfl dz ?_; (with_reducible refine (spec_l1In.calls a1 0 (wrap64 ((l0_1.length : Int) - 1)) true _ A6.out).mono ?_); rintro e w' ⟨rfl, ⟨nd, rfl⟩⟩; refine ⟨_, rfl, ?_⟩; have p986 : 0 ≤ (a1 : Int) := of_decide_eq_true uz; have q986 : a1 < (l0_1.length : Int) := of_decide_eq_true uz; obtain ⟨ad986, A986_2, c986_2, e986, hx986_0, hx986_1, hx986_2, hl986_2, hi986_2⟩ := at_T90 HR0_1.out a1 p986 q986; (try rw [← Nbq10.out] at hx986_0); (try rw [← Nbq10.out] at hx986_1); cases e986; replace hx986_0 := cz HB.out hx986_0; replace hx986_1 := cz HB.out hx986_1; replace hx986_2 := cz HB.out hx986_2; have HR986_2 := Aside0.mk hi986_2; have HC986_2 := Aside0.mk hl986_2; clear hi986_2 hl986_2; replace p986 := eq_true p986; replace q986 := eq_true q986))
            go_meet
            case rel => exact ⟨_, (true), az, H', ⟨lz⟩, ⟨kz BK984.out⟩, ⟨b1 GE984.out HB.out⟩⟩
        · rw [if_neg c9] at H
          exact absurd H (by simp)
      · rw [if_neg c8] at H
        exact absurd H (by simp)
    · replace c7 := Bool.eq_false_iff.mpr c7
      subst c7; replace H : (spec_l15Level.j0 k a1 a2 true a0_0 l0_1) = some r := (by rw [if_neg (show ¬ (false = true) by decide)] at H; exact H); have H' := Aside0.mk H; clear H; have hcz14_0 := fz BK984.out 0 (.int .i64 a0_0); have hcz14_1 := fz BK984.out 1 (.slice A0_1 l0_1.length c0_1); have hfz14_0 := blk_frozen BK984.out 0; have hfz14_1 := blk_frozen BK984.out 1
      go_wp2_with (first | ((with_reducible refine gate_callee (f := 72) rfl ?_); refine goesL_ (some 15) rfl rfl Try.func72 (by kernel_rfl) rfl #[.int .i64 a1, .int .i64 0, .int .i64 (wrap64 ((l0_1.length : Int) - 1))] rfl dz ?_; (with_reducible refine (spec_l1In.calls a1 0 (wrap64 ((l0_1.length : Int) - 1)) false _ A6.out).mono ?_); rintro e w' ⟨rfl, ⟨nd, rfl⟩⟩; refine ⟨_, rfl, ?_⟩))
      go_meet
      case rel => exact ⟨_, (true), az, H', ⟨lz⟩, ⟨kz BK984.out⟩, ⟨b1 GE984.out HB.out⟩⟩
  case rest =>
    clear HC4; (try clear c1); (try clear q1); (try clear p2); (try clear p6); (try clear c7); (try clear c8); (try clear c8b0); (try clear c9); (try clear c9b0); (try clear p9); (try clear q9); (try clear hx9); (try clear c10); (try clear q10); (try clear c11); (try clear hcz12_0); (try clear hcz12_1); (try clear hcz13_0); (try clear hcz13_1); (try clear hcz14_0); (try clear hcz14_1); (try clear hfz12_0); (try clear hfz12_1); (try clear hfz13_0); (try clear hfz13_1); (try clear hfz14_0); (try clear hfz14_1); (try clear hx986_0); (try clear hx986_1); (try clear hx986_2); (try clear p986); (try clear q986); obtain ⟨kq, x29_3, rfl, HA, HJ3, BK984, HB⟩ := hcut
    cases kq with
    | zero => exact absurd HA.out (by simp [spec_l15Level.j0])
    | succ kj3 =>
      have H := HA.out; clear HA
      simp only [spec_l15Level.j0] at H
      by_cases c15 : x29_3 = true
      · subst c15
        replace H : (some (([] : List Int))) = some r := (by rw [if_pos rfl] at H; exact H); obtain ⟨y987, hy987⟩ : ∃ y_ : List Int, y_ = (([] : List Int)) := ⟨_, rfl⟩
        replace H : (some y987) = some r := by first | (rw [hy987]; with_reducible exact H) | (have H2_ := (Option.bind_some _ _).symm.trans H; rw [hy987]; with_reducible exact H2_) | (have H2_ := (Option.bind_some _ _).symm.trans H; with_reducible exact H2_) | with_reducible exact H | (rw [hy987]; exact H) | exact H
        have Ny987 := Aside0.mk hy987; clear hy987; obtain rfl := Option.some.inj H
        go_wp2_with (first | ((with_reducible refine gate_dst (N := 30) rfl ?_); refine Kd.R_lit (Kd.int .i64) _ 3 ?hg (N := 30) ?hd (xs := ([] : List Int)) (inner := []) (ok := fun _ => True) (okp := fun _ => True) ?hr ?hp (fun _ hk => hk) trivial (Below.refl _ _) (Nat.le_refl _) (by simp) ?_; (case hd => rfl); (case hg => rfl); (case hr => first | (go_simp; done) | (go_simp; rfl)); (case hp => exact (Reps.none _ _)); intro v988 w16 ho17 hb hg_ hnew_; clear hg_ hnew_; (first | rw [← Ny987.out] at ho17 | (simp only [Int.reduceToNat] at ho17; rw [← Ny987.out] at ho17)); have n0_ := Aside0.mk (Kd.R_lower ho17 (below_size (b1 GE984.out HB.out))); have n1_ := Aside0.mk (blk_below (g := gb984) (o := .cells #[.int .i64 a0_0, .slice A0_1 l0_1.length c0_1] 49 (0, 0)) (kz BK984.out) hb); have n2_ := Aside0.mk (below_step (b1 GE984.out HB.out) hb); clear BK984; clear HB; have HO989 := n0_; have BK984 := n1_; have HB := n2_; clear n0_ n1_ n2_; clear hb ho17))
        go_ret; exact ⟨_, by first | rfl | (simp [errW_none, errW_some] <;> rfl) | (simp [*, errW_none, errW_some] <;> rfl), by (with_reducible repeat (first | apply Kd.R_alloc | apply Kd.R_drewN | apply Kd.R_drew)); exact HO989.out, b1 GE984.out HB.out⟩
      · replace c15 := Bool.eq_false_iff.mpr c15
        subst c15; replace H : (if a2 = 1 then (some (([a1] : List Int))) else (if 0 ≤ a1 then (if a1 < (l0_1.length : Int) then (spec_l15Level.l0 kj3 a2 (([] : List Int)) 0 a0_0 l0_1 ((rd_T90 l0_1 a1).f1.f0) ((rd_T90 l0_1 a1).f1.f1)) else (none)) else (none))) = some r := (by rw [if_neg (show ¬ (false = true) by decide)] at H; exact H)
        by_cases c18 : a2 = 1
        · rw [if_pos c18] at H
          have c18b0 : (a2 == 1) = true := beq_iff_eq.mpr c18; have c18b1 : (a2 != 1) = false := bne_eq_false_iff_eq.mpr c18; clear c18; obtain ⟨y990, hy990⟩ : ∃ y_ : List Int, y_ = (([a1] : List Int)) := ⟨_, rfl⟩
          replace H : (some y990) = some r := by first | (rw [hy990]; with_reducible exact H) | (have H2_ := (Option.bind_some _ _).symm.trans H; rw [hy990]; with_reducible exact H2_) | (have H2_ := (Option.bind_some _ _).symm.trans H; with_reducible exact H2_) | with_reducible exact H | (rw [hy990]; exact H) | exact H
          have Ny990 := Aside0.mk hy990; clear hy990; obtain rfl := Option.some.inj H
          go_wp2_with (first | ((with_reducible refine gate_dst (N := 34) rfl ?_); refine Kd.R_lit (Kd.int .i64) _ 3 ?hg (N := 34) ?hd (xs := ([a1] : List Int)) (inner := [.int .i64 a1]) (ok := fun _ => True) (okp := fun _ => True) ?hr ?hp (fun _ hk => hk) trivial (Below.refl _ _) (Nat.le_refl _) (by simp) ?_; (case hd => rfl); (case hg => rfl); (case hr => first | (go_simp; done) | (go_simp; rfl)); (case hp => exact (Reps.one (show Kd.M (Kd.int .i64) _ _ _ a1 [.int .i64 a1] from rfl) (Reps.none _ _))); intro v991 w19 ho20 hb hg_ hnew_; clear hg_ hnew_; (first | rw [← Ny990.out] at ho20 | (simp only [Int.reduceToNat] at ho20; rw [← Ny990.out] at ho20)); have n0_ := Aside0.mk (Kd.R_lower ho20 (below_size (b1 GE984.out HB.out))); have n1_ := Aside0.mk (blk_below (g := gb984) (o := .cells #[.int .i64 a0_0, .slice A0_1 l0_1.length c0_1] 49 (0, 0)) (kz BK984.out) hb); have n2_ := Aside0.mk (below_step (b1 GE984.out HB.out) hb); clear BK984; clear HB; have HO992 := n0_; have BK984 := n1_; have HB := n2_; clear n0_ n1_ n2_; clear hb ho20))
          go_ret; exact ⟨_, by first | rfl | (simp [errW_none, errW_some] <;> rfl) | (simp [*, errW_none, errW_some] <;> rfl), by (with_reducible repeat (first | apply Kd.R_alloc | apply Kd.R_drewN | apply Kd.R_drew)); exact HO992.out, b1 GE984.out HB.out⟩
        · rw [if_neg c18] at H
          have c18b0 : (a2 == 1) = false := beq_eq_false_iff_ne.mpr c18; have c18b1 : (a2 != 1) = true := bne_iff_ne.mpr c18; obtain ⟨y993, hy993⟩ : ∃ y_ : List Int, y_ = (([] : List Int)) := ⟨_, rfl⟩
          replace H : (if 0 ≤ a1 then (if a1 < (l0_1.length : Int) then (spec_l15Level.l0 kj3 a2 y993 0 a0_0 l0_1 ((rd_T90 l0_1 a1).f1.f0) ((rd_T90 l0_1 a1).f1.f1)) else (none)) else (none)) = some r := by first | (rw [hy993]; with_reducible exact H) | (have H2_ := (Option.bind_some _ _).symm.trans H; rw [hy993]; with_reducible exact H2_) | (have H2_ := (Option.bind_some _ _).symm.trans H; with_reducible exact H2_) | with_reducible exact H | (rw [hy993]; exact H) | exact H
          have Ny993 := Aside0.mk hy993; clear hy993
          by_cases c21 : 0 ≤ a1
          · rw [if_pos c21] at H
            have c21b0 : decide (0 ≤ a1) = true := decide_eq_true c21; clear c21
            by_cases c22 : a1 < (l0_1.length : Int)
            · rw [if_pos c22] at H
              have c22b0 : decide (a1 < (l0_1.length : Int)) = true := decide_eq_true c22; clear c22; have H' := Aside0.mk H; clear H
              go_wp2_with (first | ((with_reducible refine gate_dst (N := 35) rfl ?_); refine Kd.R_lit (Kd.int .i64) _ 3 ?hg (N := 35) ?hd (xs := ([] : List Int)) (inner := []) (ok := fun _ => True) (okp := fun _ => True) ?hr ?hp (fun _ hk => hk) trivial (Below.refl _ _) (Nat.le_refl _) (by simp) ?_; (case hd => rfl); (case hg => rfl); (case hr => first | (go_simp; done) | (go_simp; rfl)); (case hp => exact (Reps.none _ _)); intro v994 w23 ho24 hb hg_ hnew_; clear hg_ hnew_; (first | rw [← Ny993.out] at ho24 | (simp only [Int.reduceToNat] at ho24; rw [← Ny993.out] at ho24)); have n0_ := Aside0.mk (Kd.R_lower ho24 (below_size (b1 GE984.out HB.out))); have n1_ := Aside0.mk (blk_below (g := gb984) (o := .cells #[.int .i64 a0_0, .slice A0_1 l0_1.length c0_1] 49 (0, 0)) (kz BK984.out) hb); have n2_ := Aside0.mk (below_step (b1 GE984.out HB.out) hb); clear BK984; clear HB; have HO995 := n0_; have BK984 := n1_; have HB := n2_; clear n0_ n1_ n2_; clear hb ho24; have hcz25_0 := fz BK984.out 0 (.int .i64 a0_0); have hcz25_1 := fz BK984.out 1 (.slice A0_1 l0_1.length c0_1); have hfz25_0 := blk_frozen BK984.out 0; have hfz25_1 := blk_frozen BK984.out 1; have p996 : 0 ≤ (a1 : Int) := of_decide_eq_true uz; have q996 : a1 < (l0_1.length : Int) := of_decide_eq_true uz; obtain ⟨ad996, A996_2, c996_2, e996, hx996_0, hx996_1, hx996_2, hl996_2, hi996_2⟩ := at_T90 HR0_1.out a1 p996 q996; cases e996; replace hx996_0 := cz HB.out hx996_0; replace hx996_1 := cz HB.out hx996_1; replace hx996_2 := cz HB.out hx996_2; have HR996_2 := Aside0.mk hi996_2; have HC996_2 := Aside0.mk hl996_2; clear hi996_2 hl996_2; replace p996 := eq_true p996; replace q996 := eq_true q996) | ((with_reducible refine gate_dst (N := 8) rfl ?_); refine box_event ?hg (N := 8) ?hd (cs := #[.bool false, .slice none 0 0]) (t := 54) ?hr ?_; (case hd => rfl); (case hg => rfl); (case hr => first | (go_simp; done) | (go_simp; rfl)); intro gb997 hg w26 hbox hb; have n0_ := Aside0.mk (Kd.R_below (rz HO995.out) hb); have n1_ := Aside0.mk (blk_below (g := gb984) (o := .cells #[.int .i64 a0_0, .slice (some ad996) l0_1.length c0_1] 49 (0, 0)) (kz BK984.out) hb); have n2_ := Aside0.mk (below_step (b1 GE984.out HB.out) hb); have n3_ := Aside0.mk (hbox); have n4_ := Aside0.mk ((by rw [hg]; exact (below_size (b1 GE984.out HB.out)) : w.heap.size ≤ gb997)); have n5_ := Aside0.mk ((by rw [hg]; exact (below_size (b1 GE984.out HB.out)) : w.heap.size ≤ gb997)); have n6_ := Aside0.mk ((by rw [hg]; exact Nat.ne_of_lt (blk_lt (g := gb984) (o := .cells #[.int .i64 a0_0, .slice (some ad996) l0_1.length c0_1] 49 (0, 0)) (kz BK984.out)) : gb984 ≠ gb997)); have n7_ := Aside0.mk ((by rw [hg]; exact Nat.ne_of_gt (blk_lt (g := gb984) (o := .cells #[.int .i64 a0_0, .slice (some ad996) l0_1.length c0_1] 49 (0, 0)) (kz BK984.out)) : gb997 ≠ gb984)); clear HO995; clear BK984; clear HB; have HO995 := n0_; have BK984 := n1_; have HB := n2_; have BK997 := n3_; have GW997 := n4_; have GE997 := n5_; have NB984_997 := n6_; have NB997_984 := n7_; clear n0_ n1_ n2_ n3_ n4_ n5_ n6_ n7_; clear hb hbox hg; have hnb27 := NB997_984.out; have hnc27 := NB984_997.out; have hcz28_0 := fz BK997.out 0 (.bool false); have hcz28_1 := fz BK997.out 1 (.slice none 0 0); have hfz28_0 := blk_frozen BK997.out 0; have hfz28_1 := blk_frozen BK997.out 1))
              go_loopg [7, 9] kj3 (fun kq v7 v9 w' => ∃ (x7_2 : List Int) (x9_2 : Int), v9 = .int .i64 x9_2 ∧ Aside0 (spec_l15Level.l0 kq a2 x7_2 x9_2 a0_0 l0_1 ((rd_T90 l0_1 a1).f1.f0) ((rd_T90 l0_1 a1).f1.f1) = some r) ∧ Aside0 (kq ≤ kj3) ∧ Aside0 (Kd.R (Kd.int .i64) 3 w' w.heap.size (fun _ => True) v7 x7_2) ∧ Aside0 (w'.heap[gb984]? = some (.cells #[.int .i64 a0_0, (.slice (some ad996) l0_1.length c0_1)] 49 (0, 0))) ∧ Aside0 (w'.heap[gb997]? = some (.cells #[.bool ((rd_T90 l0_1 a1).f1.f0), (.slice A996_2 ((rd_T90 l0_1 a1).f1.f1).length c996_2)] 54 (0, 0))) ∧ Aside0 (Below w.heap.size w w'))
              case atStart => exact ⟨(y993), (0), az, H', ⟨Nat.le_refl _⟩, ⟨by (with_reducible repeat (first | apply Kd.R_alloc | apply Kd.R_drewN | apply Kd.R_drew)); exact Kd.R_mono (Kd.R_far (p := ⟨gb997, 1, none⟩) (Kd.R_far (p := ⟨gb997, 0, none⟩) (Kd.R_types HO995.out BK997.out (by decide)) (fun _ hk => hk.2) (.bool ((rd_T90 l0_1 a1).f1.f0))) (fun _ hk => hk.2) (.slice A996_2 ((rd_T90 l0_1 a1).f1.f1).length c996_2)) (fun _ hk => trivial)⟩, ⟨by (with_reducible repeat (first | refine blk_drewN ?_ _ | refine blk_drew ?_ | refine blk_alloc ?_ _)); refine blk_far ?_ NB984_997.out _; (with_reducible repeat (first | refine blk_drewN ?_ _ | refine blk_drew ?_ | refine blk_alloc ?_ _)); refine blk_far ?_ NB984_997.out _; (with_reducible repeat (first | refine blk_drewN ?_ _ | refine blk_drew ?_ | refine blk_alloc ?_ _)); exact BK984.out⟩, ⟨by (with_reducible repeat (first | refine blk_drewN ?_ _ | refine blk_drew ?_ | refine blk_alloc ?_ _)); refine blk_put (cs := #[.bool ((rd_T90 l0_1 a1).f1.f0), .slice none 0 0]) ?_ 1 _ rfl; (with_reducible repeat (first | refine blk_drewN ?_ _ | refine blk_drew ?_ | refine blk_alloc ?_ _)); refine blk_put (cs := #[.bool false, .slice none 0 0]) ?_ 0 _ rfl; (with_reducible repeat (first | refine blk_drewN ?_ _ | refine blk_drew ?_ | refine blk_alloc ?_ _)); exact BK997.out⟩, ⟨b2 GE984.out GE997.out HB.out⟩⟩
              case round =>
                clear H'; (try clear c1); (try clear q1); (try clear c2); (try clear p2); (try clear p6); (try clear c7); (try clear c8); (try clear c8b0); (try clear c9); (try clear c9b0); (try clear p9); (try clear q9); (try clear hx9); (try clear c10); (try clear q10); (try clear c11); (try clear c15); (try clear c18); (try clear c18b0); (try clear c18b1); (try clear c21); (try clear c21b0); (try clear c22); (try clear c22b0); (try clear c27); (try clear hcz12_0); (try clear hcz12_1); (try clear hcz13_0); (try clear hcz13_1); (try clear hcz14_0); (try clear hcz14_1); (try clear hcz25_0); (try clear hcz25_1); (try clear hcz28_0); (try clear hcz28_1); (try clear hfz12_0); (try clear hfz12_1); (try clear hfz13_0); (try clear hfz13_1); (try clear hfz14_0); (try clear hfz14_1); (try clear hfz25_0); (try clear hfz25_1); (try clear hfz28_0); (try clear hfz28_1); (try clear hx986_0); (try clear hx986_1); (try clear hx986_2); (try clear hx996_0); (try clear hx996_1); (try clear hx996_2); (try clear p2); (try clear p6); (try clear p9); (try clear p986); (try clear p996); (try clear q1); (try clear q10); (try clear q9); (try clear q986); (try clear q996); obtain ⟨x7_2, x9_2, rfl, HA, HK2, HO_7, BK984, BK997, HB⟩ := hrel
                cases gk with
                | zero => exact absurd HA.out (by simp [spec_l15Level.l0])
                | succ k2 =>
                  have H := HA.out; clear HA
                  simp only [spec_l15Level.l0] at H
                  by_cases c29 : x9_2 < (((rd_T90 l0_1 a1).f1.f1).length : Int)
                  · rw [if_pos c29] at H
                    have c29b0 : decide (x9_2 < (((rd_T90 l0_1 a1).f1.f1).length : Int)) = true := decide_eq_true c29; clear c29
                    by_cases c30 : ((rd_T90 l0_1 a1).f1.f0) = true
                    · rw [if_pos c30] at H
                      have c30b0 : ((rd_T90 l0_1 a1).f1.f0) = true := c30; clear c30; obtain rfl := Option.some.inj H; have hnb31 := NB997_984.out; have hnc31 := NB984_997.out; have hcz32_0 : wr.cell? ⟨gb997, 0, none⟩ = some (.bool ((rd_T90 l0_1 a1).f1.f0)) := (blk_cell BK997.out 0).trans rfl; have hcz32_1 : wr.cell? ⟨gb997, 1, none⟩ = some (.slice A996_2 ((rd_T90 l0_1 a1).f1.f1).length c996_2) := (blk_cell BK997.out 1).trans rfl; have hfz32_0 := blk_frozen BK997.out 0; have hfz32_1 := blk_frozen BK997.out 1; go_wp2; go_ret; exact ⟨_, by first | rfl | (simp [errW_none, errW_some] <;> rfl) | (simp [*, errW_none, errW_some] <;> rfl), by (with_reducible repeat (first | apply Kd.R_alloc | apply Kd.R_drewN | apply Kd.R_drew)); exact HO_7.out, b2 GE984.out GE997.out HB.out⟩
                    · rw [if_neg c30] at H
                      have c30b0 : ((rd_T90 l0_1 a1).f1.f0) = false := by simpa using c30
                      clear c30
                      by_cases c33 : 0 ≤ x9_2
                      · rw [if_pos c33] at H
                        have c33b0 : decide (0 ≤ x9_2) = true := decide_eq_true c33; clear c33; replace H := Option.bind_eq_some_iff.mp H; obtain ⟨t999, A340, H⟩ := H; replace H : (if x7_2.length + t999.length < 17592186044416 then (spec_l15Level.l0 k2 a2 (x7_2 ++ t999) (wrap64 (x9_2 + 1)) a0_0 l0_1 ((rd_T90 l0_1 a1).f1.f0) ((rd_T90 l0_1 a1).f1.f1)) else (none)) = some r := H; have A34 := Aside0.mk A340; clear A340
                        by_cases c35 : x7_2.length + t999.length < 17592186044416
                        · rw [if_pos c35] at H
                          have LMc35 := Aside0.mk c35; clear c35; obtain ⟨y1002, hy1002⟩ : ∃ y_ : List Int, y_ = (x7_2 ++ t999) := ⟨_, rfl⟩
                          replace H : (spec_l15Level.l0 k2 a2 y1002 (wrap64 (x9_2 + 1)) a0_0 l0_1 ((rd_T90 l0_1 a1).f1.f0) ((rd_T90 l0_1 a1).f1.f1)) = some r := by first | (rw [hy1002]; with_reducible exact H) | (have H2_ := (Option.bind_some _ _).symm.trans H; rw [hy1002]; with_reducible exact H2_) | (have H2_ := (Option.bind_some _ _).symm.trans H; with_reducible exact H2_) | with_reducible exact H | (rw [hy1002]; exact H) | exact H
                          have Ny1002 := Aside0.mk hy1002; clear hy1002; have H' := Aside0.mk H; clear H; have hnb36 := NB997_984.out; have hnc36 := NB984_997.out; have hcz37_0 : wr.cell? ⟨gb997, 0, none⟩ = some (.bool ((rd_T90 l0_1 a1).f1.f0)) := (blk_cell BK997.out 0).trans rfl; have hcz37_1 : wr.cell? ⟨gb997, 1, none⟩ = some (.slice A996_2 ((rd_T90 l0_1 a1).f1.f1).length c996_2) := (blk_cell BK997.out 1).trans rfl; have hfz37_0 := blk_frozen BK997.out 0; have hfz37_1 := blk_frozen BK997.out 1
                          try go_wp2
                          have n0_ := Aside0.mk (Kd.R_drew HO_7.out); have n1_ := Aside0.mk (blk_drew BK984.out); have n2_ := Aside0.mk (blk_drew BK997.out); have n3_ := Aside0.mk (below_drew1 HB.out); clear HO_7; clear BK984; clear BK997; clear HB; have HO_7 := n0_; have BK984 := n1_; have BK997 := n2_; have HB := n3_; clear n0_ n1_ n2_ n3_; have p998 : 0 ≤ (x9_2 : Int) := of_decide_eq_true uz; have q998 : x9_2 < (((rd_T90 l0_1 a1).f1.f1).length : Int) := of_decide_eq_true uz; obtain ⟨ad998, e998, hx998_0, hx998_1, hx998_2, hx998_3, hx998_4⟩ := at_T103 HR996_2.out x9_2 p998 q998; have hw998_4 := hx998_4; have hw998_3 := hx998_3; have hw998_2 := hx998_2; have hw998_1 := hx998_1; have hw998_0 := hx998_0
                          cases e998
                          replace hx998_0 := cz HB.out hx998_0; replace hx998_1 := cz HB.out hx998_1; replace hx998_2 := cz HB.out hx998_2; replace hx998_3 := cz HB.out hx998_3; replace hx998_4 := cz HB.out hx998_4; replace p998 := eq_true p998; replace q998 := eq_true q998
                          refine start_ (n := 13) (S := fun w' => w'.cell? ⟨gb984, 0, none⟩ = some (.int .i64 a0_0) ∧ w'.cell? ⟨gb984, 1, none⟩ = some (.slice (some ad996) l0_1.length c0_1) ∧ w'.cell? ⟨gb997, 0, none⟩ = some (.bool ((rd_T90 l0_1 a1).f1.f0)) ∧ w'.cell? ⟨gb997, 1, none⟩ = some (.slice (some ad998) ((rd_T90 l0_1 a1).f1.f1).length c996_2) ∧ w'.cell? (ad998.add ((x9_2).toNat * 5)) = some (.int .i64 ((rd_T103 ((rd_T90 l0_1 a1).f1.f1) x9_2).f0)) ∧ w'.cell? ⟨(ad998.add ((x9_2).toNat * 5)).block, (ad998.add ((x9_2).toNat * 5)).off + 1, none⟩ = some (.int .i64 ((rd_T103 ((rd_T90 l0_1 a1).f1.f1) x9_2).f1.f0)) ∧ w'.cell? ⟨(ad998.add ((x9_2).toNat * 5)).block, (ad998.add ((x9_2).toNat * 5)).off + 2, none⟩ = some (.int .i64 ((rd_T103 ((rd_T90 l0_1 a1).f1.f1) x9_2).f1.f1)) ∧ w'.cell? ⟨(ad998.add ((x9_2).toNat * 5)).block, (ad998.add ((x9_2).toNat * 5)).off + 3, none⟩ = some (.int .i64 ((rd_T103 ((rd_T90 l0_1 a1).f1.f1) x9_2).f1.f2)) ∧ w'.cell? ⟨(ad998.add ((x9_2).toNat * 5)).block, (ad998.add ((x9_2).toNat * 5)).off + 4, none⟩ = some (.int .i64 ((rd_T103 ((rd_T90 l0_1 a1).f1.f1) x9_2).f1.f3))) (ds := []) #[false, false, false, false, false, false, false, false, false, false, false, false, false] (by kernel_rfl) rfl rfl ⟨(blk_cell BK984.out 0).trans rfl, (blk_cell BK984.out 1).trans rfl, (blk_cell BK997.out 0).trans rfl, (blk_cell BK997.out 1).trans rfl, (cz HB.out hw998_0 :), (cz HB.out hw998_1 :), (cz HB.out hw998_2 :), (cz HB.out hw998_3 :), (cz HB.out hw998_4 :)⟩ (fun hHeld => ?_); refine with_tabW spec_l15Level.tab10 spec_l15Level.bits10 (fun HT_ HW_ => ?_)
                          generalize wr.drew = w38 at HO_7 BK984 BK997 HB hx998_0 hx998_1 hx998_2 hx998_3 hx998_4 hHeld ⊢
                          refine pure_ (i := 0) (N := some 54) (v := ?_) (a' := ?_) #[true, false, false, false, false, false, false, false, false, false, false, false, false] rfl rfl (any_of HT_.out (by kernel_rfl)) (fun _ _ _ h => h) (Or.inl ⟨by rfl, ?_⟩) ?_ ?_; rotate_left
                          · intro w'
                            go_simp
                            with_reducible rfl
                          rotate_left
                          · exact pz
                          refine pure_ (i := 2) (N := some 56) (v := ?_) (a' := ?_) #[true, false, true, false, false, false, false, false, false, false, false, false, false] rfl rfl (any_of HT_.out (by kernel_rfl)) (fun _ _ _ h => h) (Or.inl ⟨by rfl, ?_⟩) ?_ ?_; rotate_left
                          · intro w'
                            go_simp
                            with_reducible rfl
                          rotate_left
                          · exact pz
                          refine pure_ (i := 4) (N := some 58) (v := ?_) (a' := ?_) #[true, false, true, false, true, false, false, false, false, false, false, false, false] rfl rfl (any_of HT_.out (by kernel_rfl)) (fun _ _ _ h => h) (Or.inl ⟨by rfl, ?_⟩) ?_ ?_; rotate_left
                          · intro w'
                            go_simp
                            with_reducible rfl
                          rotate_left
                          · exact pz
                          refine pure_ (i := 8) (N := some 62) (v := ?_) (a' := ?_) #[true, false, true, false, true, false, false, false, true, false, false, false, false] rfl rfl (any_of HT_.out (by kernel_rfl)) (fun _ _ _ h => h) (Or.inl ⟨by rfl, ?_⟩) ?_ ?_; rotate_left
                          · intro w'
                            go_simp
                            with_reducible rfl
                          rotate_left
                          · exact pz
                          refine pure_ (i := 9) (N := some 63) (v := ?_) (a' := ?_) #[true, false, true, false, true, false, false, false, true, true, false, false, false] rfl rfl (any_of HT_.out (by kernel_rfl)) (fun _ _ _ h => h) (Or.inl ⟨by rfl, ?_⟩) ?_ ?_; rotate_left
                          · intro w'
                            go_simp
                            with_reducible rfl
                          rotate_left
                          · exact pz
                          refine take_ (i := 1) (N := some 55) (v := ?_) (a' := ?_) #[true, true, true, false, true, false, false, false, true, true, false, false, false] rfl rfl (take_ofW HT_.out HW_.out (by kernel_rfl)) (fun _ _ _ h => h) (Or.inl ⟨by rfl, ?_⟩) hHeld ?_ ?_; rotate_left
                          · rintro w' ⟨s0, s1, s2, s3, s4, s5, s6, s7, s8⟩
                            go_simp
                            with_reducible rfl
                          rotate_left
                          · exact pz
                          refine take_ (i := 3) (N := some 57) (v := ?_) (a' := ?_) #[true, true, true, true, true, false, false, false, true, true, false, false, false] rfl rfl (take_ofW HT_.out HW_.out (by kernel_rfl)) (fun _ _ _ h => h) (Or.inl ⟨by rfl, ?_⟩) hHeld ?_ ?_; rotate_left
                          · rintro w' ⟨s0, s1, s2, s3, s4, s5, s6, s7, s8⟩
                            go_simp
                            with_reducible rfl
                          rotate_left
                          · exact pz
                          refine pure_ (i := 5) (N := some 59) (v := ?_) (a' := ?_) #[true, true, true, true, true, true, false, false, true, true, false, false, false] rfl rfl (any_of HT_.out (by kernel_rfl)) (fun _ _ _ h => h) (Or.inl ⟨by rfl, ?_⟩) ?_ ?_; rotate_left
                          · intro w'
                            go_simp
                            with_reducible rfl
                          rotate_left
                          · exact pz
                          refine pure_ (i := 6) (N := some 60) (v := ?_) (a' := ?_) #[true, true, true, true, true, true, true, false, true, true, false, false, false] rfl rfl (any_of HT_.out (by kernel_rfl)) (fun _ _ _ h => h) (Or.inl ⟨by rfl, ?_⟩) ?_ ?_; rotate_left
                          · intro w'
                            go_simp
                            with_reducible rfl
                          rotate_left
                          · exact pz
                          refine take_ (i := 7) (N := some 61) (v := ?_) (a' := ?_) #[true, true, true, true, true, true, true, true, true, true, false, false, false] rfl rfl (take_ofW HT_.out HW_.out (by kernel_rfl)) (fun _ _ _ h => h) (Or.inl ⟨by rfl, ?_⟩) hHeld ?_ ?_; rotate_left
                          · rintro w' ⟨s0, s1, s2, s3, s4, s5, s6, s7, s8⟩
                            go_simp
                            with_reducible rfl
                          rotate_left
                          · exact pz
                          refine one_ (i := 10) (N := some 64) #[true, true, true, true, true, true, true, true, true, true, true, false, false] rfl rfl (one_of HT_.out (by kernel_rfl)) (by decide) (fun K hK => ?_); refine goes_ Try.func104 (by kernel_rfl) rfl #[.agg #[.int .i64 a0_0, .slice (some ad996) l0_1.length c0_1], .int .i64 ((rd_T103 ((rd_T90 l0_1 a1).f1.f1) x9_2).f0), .int .i64 (wrap64 (a2 - 1))] (by rfl) rfl rfl dz ?_
                          with_reducible refine (ih k2 (by have := HJ3.out; have := HK2.out; omega) a0_0 _ _ l0_1 ((rd_T103 ((rd_T90 l0_1 a1).f1.f1) x9_2).f0) (wrap64 (a2 - 1)) t999 _ ?side1 ?side2 A34.out).mono ?_
                          (case side1 => exact sz HR0_1.out HB.out)
                          (case side2 => exact HC0_1.out)
                          rintro e w39 ⟨v1000, rfl, ho0, hb⟩
                          refine ⟨_, rfl, ?_⟩; have n0_ := Aside0.mk (Kd.R_elder' (rz HO_7.out) (Kd.R_base ho0) hb); have n1_ := Aside0.mk (Kd.R_lower (Kd.R_new' ho0 (Kd.R_lt (rz HO_7.out))) (below_size (b2 GE984.out GE997.out HB.out))); have n2_ := Aside0.mk (blk_below (g := gb984) (o := .cells #[.int .i64 a0_0, .slice (some ad996) l0_1.length c0_1] 49 (0, 0)) (kz BK984.out) hb); have n3_ := Aside0.mk (blk_below (g := gb997) (o := .cells #[.bool ((rd_T90 l0_1 a1).f1.f0), .slice (some ad998) ((rd_T90 l0_1 a1).f1.f1).length c996_2] 54 (0, 0)) (kz BK997.out) hb); have n4_ := Aside0.mk (below_step (b2 GE984.out GE997.out HB.out) hb); clear HO_7; clear BK984; clear BK997; clear HB; have HO_7 := n0_; have HO1001 := n1_; have BK984 := n2_; have BK997 := n3_; have HB := n4_; clear n0_ n1_ n2_ n3_ n4_
                          (try clear hb)
                          (try clear hb2)
                          (try clear hk)
                          (try clear hi)
                          (try clear ho0)
                          obtain ⟨Ao41, co41, eo41⟩ := Kd.R_slice HO1001.out
                          (first | subst eo41 | (injection eo41 with f1_ f2_ f3_; have f4_ := f1_.symm; have f5_ := f3_.symm; clear f1_ f2_ f3_; subst f4_; subst f5_))
                          refine hK.out _ _ ⟨(blk_cell BK984.out 0).trans rfl, (blk_cell BK984.out 1).trans rfl, (blk_cell BK997.out 0).trans rfl, (blk_cell BK997.out 1).trans rfl, (cz HB.out hw998_0 :), (cz HB.out hw998_1 :), (cz HB.out hw998_2 :), (cz HB.out hw998_3 :), (cz HB.out hw998_4 :)⟩ (fun hHeld => ?_); clear hK K; refine norm_ (a' := ?_) ?_ ?_; rotate_left
                          · show Act.put _ (some 64) _ = _
                            simp only [Act.put, List.setIfInBounds_toArray, List.set_cons_zero, List.set_cons_succ, i64_w, i32_w]
                            rfl
                          refine one_ (i := 11) (N := some 65) #[true, true, true, true, true, true, true, true, true, true, true, true, false] rfl rfl (one_of HT_.out (by kernel_rfl)) (by decide) (fun K hK => ?_); refine Kd.R_append_rows_step (Kd.int .i64) (w0 := w) w.heap.size (by rfl) (.tmp 54) (.tmp 64) 64 3 (.int .i64 0) 8 rfl Try.underlying64 info3 rfl (by decide) (by omega) u7 x7_2 t999 _ _ _ (fun k_ => some k_ ≠ (.slice Ao41 t999.length co41 : Value).ownBlock) (fun _ => False) rfl rfl ?aO ?aR (fun _ _ h => h) (fun _ h => h.elim) ?aF ?aB ?aS ?aL ?_
                          (case aR => repeat (first | exact (Kd.R_reads' HO1001.out).2.2 | (with_reducible refine Kd.C_alloc ?_ _) | (with_reducible refine Kd.C_drewN ?_ _) | (with_reducible refine Kd.C_drew ?_)))
                          (case aB => exact (b2 GE984.out GE997.out HB.out))
                          (case aF => exact (fun k_ hk => Kd.fresh' (Kd.R_lt (rz HO1001.out)) k_ hk))
                          (case aO => exact (by (with_reducible repeat (first | apply Kd.R_alloc | apply Kd.R_drewN | apply Kd.R_drew)); exact Kd.R_mono HO_7.out (fun _ hk => hk.2)))
                          (case aS => exact (below_size (b2 GE984.out GE997.out HB.out)))
                          (case aL => have := LMc35.out; omega)
                          intro v1003 w40 ho hb hg hat
                          rw [← Ny1002.out] at ho; have n0_ := Aside0.mk (blk_grown (g := gb984) (o := .cells #[.int .i64 a0_0, .slice (some ad996) l0_1.length c0_1] 49 (0, 0)) (kz BK984.out) hg (Kd.R_ne HO_7.out BK984.out (by decide))); have n1_ := Aside0.mk (blk_grown (g := gb997) (o := .cells #[.bool ((rd_T90 l0_1 a1).f1.f0), .slice (some ad998) ((rd_T90 l0_1 a1).f1.f1).length c996_2] 54 (0, 0)) (kz BK997.out) hg (Kd.R_ne HO_7.out BK997.out (by decide))); have n2_ := Aside0.mk (Kd.R_after (ok := (fun _ => True)) (rz HO1001.out) hg hat); have n3_ := Aside0.mk (hb); have n4_ := Aside0.mk (ho); clear BK984; clear BK997; clear HO1001; clear HB; clear HO_7; have BK984 := n0_; have BK997 := n1_; have HO1001 := n2_; have HB := n3_; have HO1004 := n4_; clear n0_ n1_ n2_ n3_ n4_; clear ho hb hg hat; refine hK.out _ _ ⟨(blk_cell BK984.out 0).trans rfl, (blk_cell BK984.out 1).trans rfl, (blk_cell BK997.out 0).trans rfl, (blk_cell BK997.out 1).trans rfl, (cz HB.out hw998_0 :), (cz HB.out hw998_1 :), (cz HB.out hw998_2 :), (cz HB.out hw998_3 :), (cz HB.out hw998_4 :)⟩ (fun hHeld => ?_); clear hK K; refine norm_ (a' := ?_) ?_ ?_; rotate_left
                          · show Act.put _ (some 65) _ = _
                            simp only [Act.put, List.setIfInBounds_toArray, List.set_cons_zero, List.set_cons_succ, i64_w, i32_w]
                            rfl
                          refine pure_ (i := 12) (N := some 7) (v := ?_) (a' := ?_) #[true, true, true, true, true, true, true, true, true, true, true, true, true] rfl rfl (any_of HT_.out (by kernel_rfl)) (fun _ _ _ h => h) (Or.inl ⟨by rfl, ?_⟩) ?_ ?_; rotate_left
                          · intro w'
                            go_simp
                            with_reducible rfl
                          rotate_left
                          · exact pz
                          refine done_ (done_of HT_.out (by kernel_rfl)) ?_
                          try go_wp2
                          go_roundg k2
                          case measure => have := HJ3.out; have := HK2.out; omega
                          case rel => exact ⟨(y1002), (wrap64 (x9_2 + 1)), az, H', ⟨by have := HJ3.out; have := HK2.out; omega⟩, ⟨by (with_reducible repeat (first | apply Kd.R_alloc | apply Kd.R_drewN | apply Kd.R_drew)); exact Kd.R_mono HO1004.out (fun _ hk => trivial)⟩, ⟨kz BK984.out⟩, ⟨kz BK997.out⟩, ⟨b2 GE984.out GE997.out HB.out⟩⟩
                        · rw [if_neg c35] at H
                          exact absurd H (by simp)
                      · rw [if_neg c33] at H
                        exact absurd H (by simp)
                  · rw [if_neg c29] at H
                    have c29b0 : decide (x9_2 < (((rd_T90 l0_1 a1).f1.f1).length : Int)) = false := decide_eq_false c29; clear c29; obtain rfl := Option.some.inj H; have hnb42 := NB997_984.out; have hnc42 := NB984_997.out; have hcz43_0 : wr.cell? ⟨gb997, 0, none⟩ = some (.bool ((rd_T90 l0_1 a1).f1.f0)) := (blk_cell BK997.out 0).trans rfl; have hcz43_1 : wr.cell? ⟨gb997, 1, none⟩ = some (.slice A996_2 ((rd_T90 l0_1 a1).f1.f1).length c996_2) := (blk_cell BK997.out 1).trans rfl; have hfz43_0 := blk_frozen BK997.out 0; have hfz43_1 := blk_frozen BK997.out 1; go_wp2; go_ret; exact ⟨_, by first | rfl | (simp [errW_none, errW_some] <;> rfl) | (simp [*, errW_none, errW_some] <;> rfl), by (with_reducible repeat (first | apply Kd.R_alloc | apply Kd.R_drewN | apply Kd.R_drew)); exact HO_7.out, b2 GE984.out GE997.out HB.out⟩
            · rw [if_neg c22] at H
              exact absurd H (by simp)
          · rw [if_neg c21] at H
            exact absurd H (by simp)

attribute [local go_sem] max2_int min2_int max_two min_two max_three min_three max_four min_four 
set_option linter.unusedVariables false
set_option linter.unusedSimpArgs false

/-! ### spec_Middle: function 156 -/
def spec_Middle.f (a0_0 : Int) (a0_1 : Int) (a0_2 : Int) (a0_3 : Int) : Option (Int × Int) := some (wrap64 (Int.tdiv (wrap64 (a0_0 + a0_2)) 2), wrap64 (Int.tdiv (wrap64 (a0_1 + a0_3)) 2))
set_option maxHeartbeats 8000000 in
set_option maxRecDepth 100000 in
theorem spec_Middle.calls (a0_0 : Int) (a0_1 : Int) (a0_2 : Int) (a0_3 : Int) (r1 : Int) (r2 : Int) (w : World) (h : spec_Middle.f a0_0 a0_1 a0_2 a0_3 = some (r1, r2)) :
    Calls Try.prog 156 #[.agg #[.int .i64 a0_0, .int .i64 a0_1, .int .i64 a0_2, .int .i64 a0_3]] w fun e w' => e = .returned (.tuple #[.int .i64 r1, .int .i64 r2]) ∧ Below w.heap.size w w' := by
  have hu32 := Try.underlying32; have HB := Aside0.mk (Below.refl w.heap.size w); have H : (some (wrap64 (Int.tdiv (wrap64 (a0_0 + a0_2)) 2), wrap64 (Int.tdiv (wrap64 (a0_1 + a0_3)) 2))) = some (r1, r2) := h; clear h
  simp only [Option.some.injEq, Prod.mk.injEq] at H
  obtain ⟨rfl, rfl⟩ := H
  go_enter Try.func156, Try.ntmps156
  go_wp2_with (first | ((with_reducible refine gate_dst (N := 1) rfl ?_); refine box_event ?hg (N := 1) ?hd (cs := #[.int .i64 a0_0, .int .i64 a0_1, .int .i64 a0_2, .int .i64 a0_3]) (t := 32) ?hr ?_; (case hd => rfl); (case hg => rfl); (case hr => first | (go_simp; done) | (go_simp; rfl)); intro gb1005 hg w2 hbox hb; have n0_ := Aside0.mk (below_step (bz HB.out) hb); have n1_ := Aside0.mk (hbox); have n2_ := Aside0.mk ((by rw [hg]; exact (below_size (bz HB.out)) : w.heap.size ≤ gb1005)); have n3_ := Aside0.mk ((by rw [hg]; exact (below_size (bz HB.out)) : w.heap.size ≤ gb1005)); clear HB; have HB := n0_; have BK1005 := n1_; have GW1005 := n2_; have GE1005 := n3_; clear n0_ n1_ n2_ n3_; clear hb hbox hg; have hcz3_0 := fz BK1005.out 0 (.int .i64 a0_0); have hcz3_1 := fz BK1005.out 1 (.int .i64 a0_1); have hcz3_2 := fz BK1005.out 2 (.int .i64 a0_2); have hcz3_3 := fz BK1005.out 3 (.int .i64 a0_3); have hfz3_0 := blk_frozen BK1005.out 0; have hfz3_1 := blk_frozen BK1005.out 1; have hfz3_2 := blk_frozen BK1005.out 2; have hfz3_3 := blk_frozen BK1005.out 3))
  repeat (go_quiet (first | ((with_reducible refine gate_dst (N := 1) rfl ?_); refine box_event ?hg (N := 1) ?hd (cs := #[.int .i64 a0_0, .int .i64 a0_1, .int .i64 a0_2, .int .i64 a0_3]) (t := 32) ?hr ?_; (case hd => rfl); (case hg => rfl); (case hr => first | (go_simp; done) | (go_simp; rfl)); intro gb1005 hg w2 hbox hb; have n0_ := Aside0.mk (below_step (bz HB.out) hb); have n1_ := Aside0.mk (hbox); have n2_ := Aside0.mk ((by rw [hg]; exact (below_size (bz HB.out)) : w.heap.size ≤ gb1005)); have n3_ := Aside0.mk ((by rw [hg]; exact (below_size (bz HB.out)) : w.heap.size ≤ gb1005)); clear HB; have HB := n0_; have BK1005 := n1_; have GW1005 := n2_; have GE1005 := n3_; clear n0_ n1_ n2_ n3_; clear hb hbox hg; have hcz3_0 := fz BK1005.out 0 (.int .i64 a0_0); have hcz3_1 := fz BK1005.out 1 (.int .i64 a0_1); have hcz3_2 := fz BK1005.out 2 (.int .i64 a0_2); have hcz3_3 := fz BK1005.out 3 (.int .i64 a0_3); have hfz3_0 := blk_frozen BK1005.out 0; have hfz3_1 := blk_frozen BK1005.out 1; have hfz3_2 := blk_frozen BK1005.out 2; have hfz3_3 := blk_frozen BK1005.out 3)); try go_wp2_with (first | ((with_reducible refine gate_dst (N := 1) rfl ?_); refine box_event ?hg (N := 1) ?hd (cs := #[.int .i64 a0_0, .int .i64 a0_1, .int .i64 a0_2, .int .i64 a0_3]) (t := 32) ?hr ?_; (case hd => rfl); (case hg => rfl); (case hr => first | (go_simp; done) | (go_simp; rfl)); intro gb1005 hg w2 hbox hb; have n0_ := Aside0.mk (below_step (bz HB.out) hb); have n1_ := Aside0.mk (hbox); have n2_ := Aside0.mk ((by rw [hg]; exact (below_size (bz HB.out)) : w.heap.size ≤ gb1005)); have n3_ := Aside0.mk ((by rw [hg]; exact (below_size (bz HB.out)) : w.heap.size ≤ gb1005)); clear HB; have HB := n0_; have BK1005 := n1_; have GW1005 := n2_; have GE1005 := n3_; clear n0_ n1_ n2_ n3_; clear hb hbox hg; have hcz3_0 := fz BK1005.out 0 (.int .i64 a0_0); have hcz3_1 := fz BK1005.out 1 (.int .i64 a0_1); have hcz3_2 := fz BK1005.out 2 (.int .i64 a0_2); have hcz3_3 := fz BK1005.out 3 (.int .i64 a0_3); have hfz3_0 := blk_frozen BK1005.out 0; have hfz3_1 := blk_frozen BK1005.out 1; have hfz3_2 := blk_frozen BK1005.out 2; have hfz3_3 := blk_frozen BK1005.out 3)))
  go_ret2
  exact ⟨ez, b1 GE1005.out HB.out⟩

attribute [local go_sem] max2_int min2_int max_two min_two max_three min_three max_four min_four 
set_option linter.unusedVariables false
set_option linter.unusedSimpArgs false

/-! ### spec_Along: function 157 -/
mutual
def spec_Along.j0 : Nat → Int → Int → Bool → Option (Int)
  | 0, _, _, _ => none
  | k + 1, x0, x1, x16 => if x16 = true then (some (-1)) else (spec_Along.l0 k x0 x1 0 128)
def spec_Along.l0 : Nat → Int → Int → Int → Int → Option (Int)
  | 0, _, _, _, _ => none
  | k + 1, x0, x1, x5, x6 => if x6 > 0 then (if x6 = 0 then (none) else (if (Int.tmod (wrap64 (Int.tdiv x1 x6)) 2) = 0 then (if (Int.tmod (wrap64 (Int.tdiv x0 x6)) 2) = 1 then (spec_Along.l0 k (wrap64 (255 - x1)) (wrap64 (255 - x0)) (wrap64 (x5 + (wrap64 ((wrap64 (x6 * x6)) * (Go.bits .xor .i64 (wrap64 (3 * (Int.tmod (wrap64 (Int.tdiv x0 x6)) 2))) (Int.tmod (wrap64 (Int.tdiv x1 x6)) 2)))))) (wrap64 (Int.tdiv x6 2))) else (spec_Along.l0 k x1 x0 (wrap64 (x5 + (wrap64 ((wrap64 (x6 * x6)) * (Go.bits .xor .i64 (wrap64 (3 * (Int.tmod (wrap64 (Int.tdiv x0 x6)) 2))) (Int.tmod (wrap64 (Int.tdiv x1 x6)) 2)))))) (wrap64 (Int.tdiv x6 2)))) else (spec_Along.l0 k x0 x1 (wrap64 (x5 + (wrap64 ((wrap64 (x6 * x6)) * (Go.bits .xor .i64 (wrap64 (3 * (Int.tmod (wrap64 (Int.tdiv x0 x6)) 2))) (Int.tmod (wrap64 (Int.tdiv x1 x6)) 2)))))) (wrap64 (Int.tdiv x6 2))))) else (some x5)
end
def spec_Along.f (k : Nat) (a0 : Int) (a1 : Int) : Option (Int) := (spec_l1In.f a0 0 255).bind fun t1006 => (if t1006 = true then ((spec_l1In.f a1 0 255).bind fun t1007 => (spec_Along.j0 k a0 a1 (!t1007))) else (spec_Along.j0 k a0 a1 true))
theorem spec_Along.mono_l : ∀ k, (∀ y0 y1 y2, LeO (spec_Along.j0 k y0 y1 y2) (spec_Along.j0 (k + 1) y0 y1 y2)) ∧ (∀ y0 y1 y2 y3, LeO (spec_Along.l0 k y0 y1 y2 y3) (spec_Along.l0 (k + 1) y0 y1 y2 y3))
  | 0 => ⟨fun _ _ _ r h => by simp [spec_Along.j0] at h, fun _ _ _ _ r h => by simp [spec_Along.l0] at h⟩
  | k + 1 => by
    obtain ⟨ih0, ih1⟩ := spec_Along.mono_l k; refine ⟨?_, ?_⟩
    · intro y0 y1 y2
      unfold spec_Along.j0
      repeat' first | (with_reducible first | exact ih0 _ _ _ | exact ih1 _ _ _ _ | exact LeO.refl _ | exact LeO.none _ | refine LeO.ite ?_ ?_ | refine LeO.bind ?_ (fun _ => ?_)) | exact ih0 _ _ _ | exact ih1 _ _ _ _ | exact LeO.none _ | refine LeO.ite ?_ ?_ | refine LeO.bind ?_ (fun _ => ?_)
    · intro y0 y1 y2 y3
      unfold spec_Along.l0
      repeat' first | (with_reducible first | exact ih0 _ _ _ | exact ih1 _ _ _ _ | exact LeO.refl _ | exact LeO.none _ | refine LeO.ite ?_ ?_ | refine LeO.bind ?_ (fun _ => ?_)) | exact ih0 _ _ _ | exact ih1 _ _ _ _ | exact LeO.none _ | refine LeO.ite ?_ ?_ | refine LeO.bind ?_ (fun _ => ?_)
theorem spec_Along.mono : ∀ a0 a1 k, LeO (spec_Along.f k a0 a1) (spec_Along.f (k + 1) a0 a1) := by
  intro a0 a1 k
  obtain ⟨ih0, ih1⟩ := spec_Along.mono_l k; unfold spec_Along.f
  repeat' first | (with_reducible first | exact ih0 _ _ _ | exact ih1 _ _ _ _ | exact LeO.refl _ | exact LeO.none _ | refine LeO.ite ?_ ?_ | refine LeO.bind ?_ (fun _ => ?_)) | exact ih0 _ _ _ | exact ih1 _ _ _ _ | exact LeO.none _ | refine LeO.ite ?_ ?_ | refine LeO.bind ?_ (fun _ => ?_)
set_option maxHeartbeats 8000000 in
set_option maxRecDepth 100000 in
theorem spec_Along.calls (k : Nat) (a0 : Int) (a1 : Int) (r : Int) (w : World) (h : spec_Along.f k a0 a1 = some r) :
    Calls Try.prog 157 #[.int .i64 a0, .int .i64 a1] w fun e w' => e = .returned (.int .i64 r) ∧ Drawn0 w w' := by
  have H : ((spec_l1In.f a0 0 255).bind fun t1006 => (if t1006 = true then ((spec_l1In.f a1 0 255).bind fun t1007 => (spec_Along.j0 k a0 a1 (!t1007))) else (spec_Along.j0 k a0 a1 true))) = some r := h; clear h; have HC3 := Aside0.mk H; clear H
  go_enter Try.func157, Try.ntmps157
  go_upto_region 1 with (fail)
  go_cut [16] (fun v16 wc => ∃ (kq : Nat) (x16_2 : Bool), v16 = .bool x16_2 ∧ Aside0 (spec_Along.j0 kq a0 a1 x16_2 = some r) ∧ Aside0 (kq ≤ k) ∧ Drawn0 w wc)
  case first =>
    have H := HC3.out; clear HC3; replace H := Option.bind_eq_some_iff.mp H; obtain ⟨t1006, A40, H⟩ := H; replace H : (if t1006 = true then ((spec_l1In.f a1 0 255).bind fun t1007 => (spec_Along.j0 k a0 a1 (!t1007))) else (spec_Along.j0 k a0 a1 true)) = some r := H; have A4 := Aside0.mk A40; clear A40
    by_cases c5 : t1006 = true
    · subst c5
      replace H : ((spec_l1In.f a1 0 255).bind fun t1007 => (spec_Along.j0 k a0 a1 (!t1007))) = some r := (by rw [if_pos rfl] at H; exact H); replace H := Option.bind_eq_some_iff.mp H; obtain ⟨t1007, A60, H⟩ := H; replace H : (spec_Along.j0 k a0 a1 (!t1007)) = some r := H; have A6 := Aside0.mk A60; clear A60; have H' := Aside0.mk H; clear H
      go_wp2_with (first | ((with_reducible refine gate_callee (f := 72) rfl ?_); refine goesL_ (some 10) rfl rfl Try.func72 (by kernel_rfl) rfl #[.int .i64 a0, .int .i64 0, .int .i64 255] rfl dz ?_; (with_reducible refine (spec_l1In.calls a0 0 255 true _ A4.out).mono ?_); rintro e w' ⟨rfl, ⟨nd, rfl⟩⟩; refine ⟨_, rfl, ?_⟩) | (go_at_call 72; (with_reducible refine (spec_l1In.calls a1 0 255 t1007 _ A6.out).mono ?_); rintro e w' ⟨rfl, ⟨nd, rfl⟩⟩))
      go_meet
      case rel => exact ⟨_, (!t1007), az, H', ⟨lz⟩, by repeat (first | exact Drawn0.refl _ | apply Drawn0.step)⟩
    · replace c5 := Bool.eq_false_iff.mpr c5
      subst c5; replace H : (spec_Along.j0 k a0 a1 true) = some r := (by rw [if_neg (show ¬ (false = true) by decide)] at H; exact H); have H' := Aside0.mk H; clear H
      go_wp2_with (first | ((with_reducible refine gate_callee (f := 72) rfl ?_); refine goesL_ (some 10) rfl rfl Try.func72 (by kernel_rfl) rfl #[.int .i64 a0, .int .i64 0, .int .i64 255] rfl dz ?_; (with_reducible refine (spec_l1In.calls a0 0 255 false _ A4.out).mono ?_); rintro e w' ⟨rfl, ⟨nd, rfl⟩⟩; refine ⟨_, rfl, ?_⟩))
      go_meet
      case rel => exact ⟨_, (true), az, H', ⟨lz⟩, by repeat (first | exact Drawn0.refl _ | apply Drawn0.step)⟩
  case rest =>
    clear HC3; (try clear c1); (try clear p2); (try clear c5); obtain ⟨kq, x16_2, rfl, HA, HJ2, ⟨mc2, rfl⟩⟩ := hcut
    cases kq with
    | zero => exact absurd HA.out (by simp [spec_Along.j0])
    | succ kj2 =>
      have H := HA.out; clear HA
      simp only [spec_Along.j0] at H
      by_cases c7 : x16_2 = true
      · subst c7
        replace H : (some (-1)) = some r := (by rw [if_pos rfl] at H; exact H); obtain rfl := Option.some.inj H; go_wp2; go_ret; exact ⟨by first | rfl | (simp; done) | (simp [*]; done), by repeat (first | exact Drawn0.refl _ | apply Drawn0.step)⟩
      · replace c7 := Bool.eq_false_iff.mpr c7
        subst c7; replace H : (spec_Along.l0 kj2 a0 a1 0 128) = some r := (by rw [if_neg (show ¬ (false = true) by decide)] at H; exact H); have H' := Aside0.mk H; clear H; go_wp2
        go_loopg [0, 1, 5, 6] kj2 (fun kq v0 v1 v5 v6 w' => ∃ (x0_2 : Int) (x1_2 : Int) (x5_2 : Int) (x6_2 : Int), v0 = .int .i64 x0_2 ∧ v1 = .int .i64 x1_2 ∧ v5 = .int .i64 x5_2 ∧ v6 = .int .i64 x6_2 ∧ Aside0 (spec_Along.l0 kq x0_2 x1_2 x5_2 x6_2 = some r) ∧ Aside0 (kq ≤ kj2) ∧ Drawn0 w w')
        case atStart => exact ⟨(a0), (a1), (0), (128), az, az, az, az, H', ⟨Nat.le_refl _⟩, by repeat (first | exact Drawn0.refl _ | apply Drawn0.step)⟩
        case round =>
          clear H'; (try clear c1); (try clear c2); (try clear p2); (try clear c5); (try clear c7); (try clear p2); obtain ⟨x0_2, x1_2, x5_2, x6_2, rfl, rfl, rfl, rfl, HA, HK2, ⟨m2, rfl⟩⟩ := hrel
          cases gk with
          | zero => exact absurd HA.out (by simp [spec_Along.l0])
          | succ k2 =>
            have H := HA.out; clear HA
            simp only [spec_Along.l0] at H
            by_cases c8 : x6_2 > 0
            · rw [if_pos c8] at H
              have c8b0 : decide (0 < x6_2) = true := decide_eq_true c8; clear c8
              by_cases c9 : x6_2 = 0
              · rw [if_pos c9] at H
                exact absurd H (by simp)
              · rw [if_neg c9] at H
                have c9b0 : (x6_2 == 0) = false := beq_eq_false_iff_ne.mpr c9; have c9b1 : (x6_2 != 0) = true := bne_iff_ne.mpr c9
                by_cases c10 : (Int.tmod (wrap64 (Int.tdiv x1_2 x6_2)) 2) = 0
                · rw [if_pos c10] at H
                  have c10b0 : ((Int.tmod (wrap64 (Int.tdiv x1_2 x6_2)) 2) == 0) = true := beq_iff_eq.mpr c10; have c10b1 : ((Int.tmod (wrap64 (Int.tdiv x1_2 x6_2)) 2) != 0) = false := bne_eq_false_iff_eq.mpr c10; clear c10
                  by_cases c11 : (Int.tmod (wrap64 (Int.tdiv x0_2 x6_2)) 2) = 1
                  · rw [if_pos c11] at H
                    have c11b0 : ((Int.tmod (wrap64 (Int.tdiv x0_2 x6_2)) 2) == 1) = true := beq_iff_eq.mpr c11; have c11b1 : ((Int.tmod (wrap64 (Int.tdiv x0_2 x6_2)) 2) != 1) = false := bne_eq_false_iff_eq.mpr c11; clear c11; have H' := Aside0.mk H; clear H; go_wp2; go_roundg k2
                    case measure => have := HJ2.out; have := HK2.out; omega
                    case rel => exact ⟨(wrap64 (255 - x1_2)), (wrap64 (255 - x0_2)), (wrap64 (x5_2 + (wrap64 ((wrap64 (x6_2 * x6_2)) * (Go.bits .xor .i64 (wrap64 (3 * (Int.tmod (wrap64 (Int.tdiv x0_2 x6_2)) 2))) (Int.tmod (wrap64 (Int.tdiv x1_2 x6_2)) 2)))))), (wrap64 (Int.tdiv x6_2 2)), az, az, az, az, H', ⟨by have := HJ2.out; have := HK2.out; omega⟩, by repeat (first | exact Drawn0.refl _ | apply Drawn0.step)⟩
                  · rw [if_neg c11] at H
                    have c11b0 : ((Int.tmod (wrap64 (Int.tdiv x0_2 x6_2)) 2) == 1) = false := beq_eq_false_iff_ne.mpr c11; have c11b1 : ((Int.tmod (wrap64 (Int.tdiv x0_2 x6_2)) 2) != 1) = true := bne_iff_ne.mpr c11; have H' := Aside0.mk H; clear H; go_wp2; go_roundg k2
                    case measure => have := HJ2.out; have := HK2.out; omega
                    case rel => exact ⟨(x1_2), (x0_2), (wrap64 (x5_2 + (wrap64 ((wrap64 (x6_2 * x6_2)) * (Go.bits .xor .i64 (wrap64 (3 * (Int.tmod (wrap64 (Int.tdiv x0_2 x6_2)) 2))) (Int.tmod (wrap64 (Int.tdiv x1_2 x6_2)) 2)))))), (wrap64 (Int.tdiv x6_2 2)), az, az, az, az, H', ⟨by have := HJ2.out; have := HK2.out; omega⟩, by repeat (first | exact Drawn0.refl _ | apply Drawn0.step)⟩
                · rw [if_neg c10] at H
                  have c10b0 : ((Int.tmod (wrap64 (Int.tdiv x1_2 x6_2)) 2) == 0) = false := beq_eq_false_iff_ne.mpr c10; have c10b1 : ((Int.tmod (wrap64 (Int.tdiv x1_2 x6_2)) 2) != 0) = true := bne_iff_ne.mpr c10; have H' := Aside0.mk H; clear H; go_wp2; go_roundg k2
                  case measure => have := HJ2.out; have := HK2.out; omega
                  case rel => exact ⟨(x0_2), (x1_2), (wrap64 (x5_2 + (wrap64 ((wrap64 (x6_2 * x6_2)) * (Go.bits .xor .i64 (wrap64 (3 * (Int.tmod (wrap64 (Int.tdiv x0_2 x6_2)) 2))) (Int.tmod (wrap64 (Int.tdiv x1_2 x6_2)) 2)))))), (wrap64 (Int.tdiv x6_2 2)), az, az, az, az, H', ⟨by have := HJ2.out; have := HK2.out; omega⟩, by repeat (first | exact Drawn0.refl _ | apply Drawn0.step)⟩
            · rw [if_neg c8] at H
              have c8b0 : decide (0 < x6_2) = false := decide_eq_false c8; clear c8; obtain rfl := Option.some.inj H; go_wp2; go_ret; exact ⟨by first | rfl | (simp; done) | (simp [*]; done), by repeat (first | exact Drawn0.refl _ | apply Drawn0.step)⟩

attribute [local go_sem] max2_int min2_int max_two min_two max_three min_three max_four min_four 
set_option linter.unusedVariables false
set_option linter.unusedSimpArgs false

/-! ### spec_KeyOf: function 147 -/
def spec_KeyOf.f (k : Nat) (a0_0 : Int) (a0_1 : Int) (a0_2 : Int) (a0_3 : Int) : Option (Int) := (spec_Middle.f a0_0 a0_1 a0_2 a0_3).bind fun bt1009 => ((spec_Along.f k bt1009.1 bt1009.2).bind fun t1011 => (some t1011))
theorem spec_KeyOf.mono : ∀ a0 a1 a2 a3 k, LeO (spec_KeyOf.f k a0 a1 a2 a3) (spec_KeyOf.f (k + 1) a0 a1 a2 a3) := by
  intro a0 a1 a2 a3 k
  unfold spec_KeyOf.f
  repeat' first | (with_reducible first | exact spec_Along.mono _ _ _ | exact LeO.refl _ | exact LeO.none _ | refine LeO.ite ?_ ?_ | refine LeO.bind ?_ (fun _ => ?_)) | exact spec_Along.mono _ _ _ | exact LeO.none _ | refine LeO.ite ?_ ?_ | refine LeO.bind ?_ (fun _ => ?_)
set_option maxHeartbeats 8000000 in
set_option maxRecDepth 100000 in
theorem spec_KeyOf.calls (k : Nat) (a0_0 : Int) (a0_1 : Int) (a0_2 : Int) (a0_3 : Int) (r : Int) (w : World) (h : spec_KeyOf.f k a0_0 a0_1 a0_2 a0_3 = some r) :
    Calls Try.prog 147 #[.agg #[.int .i64 a0_0, .int .i64 a0_1, .int .i64 a0_2, .int .i64 a0_3]] w fun e w' => e = .returned (.int .i64 r) ∧ Below w.heap.size w w' := by
  have hu32 := Try.underlying32; have HB := Aside0.mk (Below.refl w.heap.size w); have H : ((spec_Middle.f a0_0 a0_1 a0_2 a0_3).bind fun bt1009 => ((spec_Along.f k bt1009.1 bt1009.2).bind fun t1011 => (some t1011))) = some r := h; clear h; replace H := Option.bind_eq_some_iff.mp H; obtain ⟨⟨t1009, t1010⟩, A20, H⟩ := H; replace H : ((spec_Along.f k t1009 t1010).bind fun t1011 => (some t1011)) = some r := H; have A2 := Aside0.mk A20; clear A20; replace H := Option.bind_eq_some_iff.mp H; obtain ⟨t1011, A30, H⟩ := H; replace H : (some t1011) = some r := H; have A3 := Aside0.mk A30; clear A30; obtain rfl := Option.some.inj H
  go_enter Try.func147, Try.ntmps147
  go_wp2_with (first | ((with_reducible refine gate_dst (N := 1) rfl ?_); refine box_event ?hg (N := 1) ?hd (cs := #[.int .i64 a0_0, .int .i64 a0_1, .int .i64 a0_2, .int .i64 a0_3]) (t := 32) ?hr ?_; (case hd => rfl); (case hg => rfl); (case hr => first | (go_simp; done) | (go_simp; rfl)); intro gb1008 hg w4 hbox hb; have n0_ := Aside0.mk (below_step (bz HB.out) hb); have n1_ := Aside0.mk (hbox); have n2_ := Aside0.mk ((by rw [hg]; exact (below_size (bz HB.out)) : w.heap.size ≤ gb1008)); have n3_ := Aside0.mk ((by rw [hg]; exact (below_size (bz HB.out)) : w.heap.size ≤ gb1008)); clear HB; have HB := n0_; have BK1008 := n1_; have GW1008 := n2_; have GE1008 := n3_; clear n0_ n1_ n2_ n3_; clear hb hbox hg; have hcz5_0 := fz BK1008.out 0 (.int .i64 a0_0); have hcz5_1 := fz BK1008.out 1 (.int .i64 a0_1); have hcz5_2 := fz BK1008.out 2 (.int .i64 a0_2); have hcz5_3 := fz BK1008.out 3 (.int .i64 a0_3); have hfz5_0 := blk_frozen BK1008.out 0; have hfz5_1 := blk_frozen BK1008.out 1; have hfz5_2 := blk_frozen BK1008.out 2; have hfz5_3 := blk_frozen BK1008.out 3) | ((with_reducible refine gate_callee (f := 156) rfl ?_); refine goesL_ (some 7) rfl rfl Try.func156 (by kernel_rfl) rfl #[.agg #[.int .i64 a0_0, .int .i64 a0_1, .int .i64 a0_2, .int .i64 a0_3]] rfl dz ?_; (with_reducible refine (spec_Middle.calls a0_0 a0_1 a0_2 a0_3 t1009 t1010 _ A2.out).mono ?_); rintro e w6 ⟨rfl, hb⟩; refine ⟨_, rfl, ?_⟩; have n0_ := Aside0.mk (blk_below (g := gb1008) (o := .cells #[.int .i64 a0_0, .int .i64 a0_1, .int .i64 a0_2, .int .i64 a0_3] 32 (0, 0)) (kz BK1008.out) hb); have n1_ := Aside0.mk (below_step (b1 GE1008.out HB.out) hb); clear BK1008; clear HB; have BK1008 := n0_; have HB := n1_; clear n0_ n1_; (try clear hb); (try clear hb2); (try clear hk); (try clear hi)) | ((with_reducible refine gate_callee (f := 157) rfl ?_); refine goesL_ (some 12) rfl rfl Try.func157 (by kernel_rfl) rfl #[.int .i64 t1009, .int .i64 t1010] rfl dz ?_; (with_reducible refine (spec_Along.calls k t1009 t1010 t1011 _ A3.out).mono ?_); rintro e w' ⟨rfl, ⟨nd, rfl⟩⟩; refine ⟨_, rfl, ?_⟩))
  go_ret; exact ⟨ez, b1 GE1008.out HB.out⟩

attribute [local go_sem] max2_int min2_int max_two min_two max_three min_three max_four min_four 
set_option linter.unusedVariables false
set_option linter.unusedSimpArgs false

/-! ### spec_Ahead: function 135 -/
def spec_Ahead.f (k : Nat) (a0_0 : Int) (a0_1 : Int) (a0_2 : Int) (a0_3 : Int) (a0_4 : Int) (a1_0 : Int) (a1_1 : Int) (a1_2 : Int) (a1_3 : Int) (a1_4 : Int) : Option (Bool) := (spec_KeyOf.f k a0_1 a0_2 a0_3 a0_4).bind fun t1014 => ((spec_KeyOf.f k a1_1 a1_2 a1_3 a1_4).bind fun t1015 => (if t1014 < t1015 then (some true) else (if t1014 = t1015 then (some (decide (a0_0 < a1_0))) else (some false))))
theorem spec_Ahead.mono : ∀ a0 a1 a2 a3 a4 a5 a6 a7 a8 a9 k, LeO (spec_Ahead.f k a0 a1 a2 a3 a4 a5 a6 a7 a8 a9) (spec_Ahead.f (k + 1) a0 a1 a2 a3 a4 a5 a6 a7 a8 a9) := by
  intro a0 a1 a2 a3 a4 a5 a6 a7 a8 a9 k
  unfold spec_Ahead.f
  repeat' first | (with_reducible first | exact spec_KeyOf.mono _ _ _ _ _ | exact LeO.refl _ | exact LeO.none _ | refine LeO.ite ?_ ?_ | refine LeO.bind ?_ (fun _ => ?_)) | exact spec_KeyOf.mono _ _ _ _ _ | exact LeO.none _ | refine LeO.ite ?_ ?_ | refine LeO.bind ?_ (fun _ => ?_)
set_option maxHeartbeats 8000000 in
set_option maxRecDepth 100000 in
theorem spec_Ahead.calls (k : Nat) (a0_0 : Int) (a0_1 : Int) (a0_2 : Int) (a0_3 : Int) (a0_4 : Int) (a1_0 : Int) (a1_1 : Int) (a1_2 : Int) (a1_3 : Int) (a1_4 : Int) (r : Bool) (w : World) (h : spec_Ahead.f k a0_0 a0_1 a0_2 a0_3 a0_4 a1_0 a1_1 a1_2 a1_3 a1_4 = some r) :
    Calls Try.prog 135 #[.agg #[.int .i64 a0_0, .int .i64 a0_1, .int .i64 a0_2, .int .i64 a0_3, .int .i64 a0_4], .agg #[.int .i64 a1_0, .int .i64 a1_1, .int .i64 a1_2, .int .i64 a1_3, .int .i64 a1_4]] w fun e w' => e = .returned (.bool r) ∧ Below w.heap.size w w' := by
  have hu34 := Try.underlying34; have hu32 := Try.underlying32; have HB := Aside0.mk (Below.refl w.heap.size w); have H : ((spec_KeyOf.f k a0_1 a0_2 a0_3 a0_4).bind fun t1014 => ((spec_KeyOf.f k a1_1 a1_2 a1_3 a1_4).bind fun t1015 => (if t1014 < t1015 then (some true) else (if t1014 = t1015 then (some (decide (a0_0 < a1_0))) else (some false))))) = some r := h; clear h; replace H := Option.bind_eq_some_iff.mp H; obtain ⟨t1014, A30, H⟩ := H; replace H : ((spec_KeyOf.f k a1_1 a1_2 a1_3 a1_4).bind fun t1015 => (if t1014 < t1015 then (some true) else (if t1014 = t1015 then (some (decide (a0_0 < a1_0))) else (some false)))) = some r := H; have A3 := Aside0.mk A30; clear A30; replace H := Option.bind_eq_some_iff.mp H; obtain ⟨t1015, A40, H⟩ := H; replace H : (if t1014 < t1015 then (some true) else (if t1014 = t1015 then (some (decide (a0_0 < a1_0))) else (some false))) = some r := H; have A4 := Aside0.mk A40; clear A40
  by_cases c5 : t1014 < t1015
  · rw [if_pos c5] at H
    have c5b0 : decide (t1014 < t1015) = true := decide_eq_true c5; clear c5; obtain rfl := Option.some.inj H
    go_enter Try.func135, Try.ntmps135
    go_wp2_with (first | ((with_reducible refine gate_dst (N := 2) rfl ?_); refine box_event ?hg (N := 2) ?hd (cs := #[.int .i64 a0_0, .int .i64 a0_1, .int .i64 a0_2, .int .i64 a0_3, .int .i64 a0_4]) (t := 34) ?hr ?_; (case hd => rfl); (case hg => rfl); (case hr => first | (go_simp; done) | (go_simp; rfl)); intro gb1012 hg w6 hbox hb; have n0_ := Aside0.mk (below_step (bz HB.out) hb); have n1_ := Aside0.mk (hbox); have n2_ := Aside0.mk ((by rw [hg]; exact (below_size (bz HB.out)) : w.heap.size ≤ gb1012)); have n3_ := Aside0.mk ((by rw [hg]; exact (below_size (bz HB.out)) : w.heap.size ≤ gb1012)); clear HB; have HB := n0_; have BK1012 := n1_; have GW1012 := n2_; have GE1012 := n3_; clear n0_ n1_ n2_ n3_; clear hb hbox hg) | ((with_reducible refine gate_dst (N := 3) rfl ?_); refine box_event ?hg (N := 3) ?hd (cs := #[.int .i64 a1_0, .int .i64 a1_1, .int .i64 a1_2, .int .i64 a1_3, .int .i64 a1_4]) (t := 34) ?hr ?_; (case hd => rfl); (case hg => rfl); (case hr => first | (go_simp; done) | (go_simp; rfl)); intro gb1013 hg w7 hbox hb; have n0_ := Aside0.mk (blk_below (g := gb1012) (o := .cells #[.int .i64 a0_0, .int .i64 a0_1, .int .i64 a0_2, .int .i64 a0_3, .int .i64 a0_4] 34 (0, 0)) (kz BK1012.out) hb); have n1_ := Aside0.mk (below_step (b1 GE1012.out HB.out) hb); have n2_ := Aside0.mk (hbox); have n3_ := Aside0.mk ((by rw [hg]; exact (below_size (b1 GE1012.out HB.out)) : w.heap.size ≤ gb1013)); have n4_ := Aside0.mk ((by rw [hg]; exact (below_size (b1 GE1012.out HB.out)) : w.heap.size ≤ gb1013)); have n5_ := Aside0.mk ((by rw [hg]; exact Nat.ne_of_lt (blk_lt (g := gb1012) (o := .cells #[.int .i64 a0_0, .int .i64 a0_1, .int .i64 a0_2, .int .i64 a0_3, .int .i64 a0_4] 34 (0, 0)) (kz BK1012.out)) : gb1012 ≠ gb1013)); have n6_ := Aside0.mk ((by rw [hg]; exact Nat.ne_of_gt (blk_lt (g := gb1012) (o := .cells #[.int .i64 a0_0, .int .i64 a0_1, .int .i64 a0_2, .int .i64 a0_3, .int .i64 a0_4] 34 (0, 0)) (kz BK1012.out)) : gb1013 ≠ gb1012)); clear BK1012; clear HB; have BK1012 := n0_; have HB := n1_; have BK1013 := n2_; have GW1013 := n3_; have GE1013 := n4_; have NB1012_1013 := n5_; have NB1013_1012 := n6_; clear n0_ n1_ n2_ n3_ n4_ n5_ n6_; clear hb hbox hg; have hnb8 := NB1012_1013.out; have hnc8 := NB1013_1012.out; have hcz9_0 := fz BK1012.out 0 (.int .i64 a0_0); have hcz9_1 := fz BK1012.out 1 (.int .i64 a0_1); have hcz9_2 := fz BK1012.out 2 (.int .i64 a0_2); have hcz9_3 := fz BK1012.out 3 (.int .i64 a0_3); have hcz9_4 := fz BK1012.out 4 (.int .i64 a0_4); have hfz9_0 := blk_frozen BK1012.out 0; have hfz9_1 := blk_frozen BK1012.out 1; have hfz9_2 := blk_frozen BK1012.out 2; have hfz9_3 := blk_frozen BK1012.out 3; have hfz9_4 := blk_frozen BK1012.out 4) | ((with_reducible refine gate_callee (f := 147) rfl ?_); refine goesL_ (some 9) rfl rfl Try.func147 (by kernel_rfl) rfl #[.agg #[.int .i64 a0_1, .int .i64 a0_2, .int .i64 a0_3, .int .i64 a0_4]] rfl dz ?_; (with_reducible refine (spec_KeyOf.calls k a0_1 a0_2 a0_3 a0_4 t1014 _ A3.out).mono ?_); rintro e w10 ⟨rfl, hb⟩; refine ⟨_, rfl, ?_⟩; have n0_ := Aside0.mk (blk_below (g := gb1012) (o := .cells #[.int .i64 a0_0, .int .i64 a0_1, .int .i64 a0_2, .int .i64 a0_3, .int .i64 a0_4] 34 (0, 0)) (kz BK1012.out) hb); have n1_ := Aside0.mk (blk_below (g := gb1013) (o := .cells #[.int .i64 a1_0, .int .i64 a1_1, .int .i64 a1_2, .int .i64 a1_3, .int .i64 a1_4] 34 (0, 0)) (kz BK1013.out) hb); have n2_ := Aside0.mk (below_step (b2 GE1012.out GE1013.out HB.out) hb); clear BK1012; clear BK1013; clear HB; have BK1012 := n0_; have BK1013 := n1_; have HB := n2_; clear n0_ n1_ n2_; (try clear hb); (try clear hb2); (try clear hk); (try clear hi); have hcz11_0 := fz BK1013.out 0 (.int .i64 a1_0); have hcz11_1 := fz BK1013.out 1 (.int .i64 a1_1); have hcz11_2 := fz BK1013.out 2 (.int .i64 a1_2); have hcz11_3 := fz BK1013.out 3 (.int .i64 a1_3); have hcz11_4 := fz BK1013.out 4 (.int .i64 a1_4); have hfz11_0 := blk_frozen BK1013.out 0; have hfz11_1 := blk_frozen BK1013.out 1; have hfz11_2 := blk_frozen BK1013.out 2; have hfz11_3 := blk_frozen BK1013.out 3; have hfz11_4 := blk_frozen BK1013.out 4) | ((with_reducible refine gate_callee (f := 147) rfl ?_); refine goesL_ (some 12) rfl rfl Try.func147 (by kernel_rfl) rfl #[.agg #[.int .i64 a1_1, .int .i64 a1_2, .int .i64 a1_3, .int .i64 a1_4]] rfl dz ?_; (with_reducible refine (spec_KeyOf.calls k a1_1 a1_2 a1_3 a1_4 t1015 _ A4.out).mono ?_); rintro e w12 ⟨rfl, hb⟩; refine ⟨_, rfl, ?_⟩; have n0_ := Aside0.mk (blk_below (g := gb1012) (o := .cells #[.int .i64 a0_0, .int .i64 a0_1, .int .i64 a0_2, .int .i64 a0_3, .int .i64 a0_4] 34 (0, 0)) (kz BK1012.out) hb); have n1_ := Aside0.mk (blk_below (g := gb1013) (o := .cells #[.int .i64 a1_0, .int .i64 a1_1, .int .i64 a1_2, .int .i64 a1_3, .int .i64 a1_4] 34 (0, 0)) (kz BK1013.out) hb); have n2_ := Aside0.mk (below_step (b2 GE1012.out GE1013.out HB.out) hb); clear BK1012; clear BK1013; clear HB; have BK1012 := n0_; have BK1013 := n1_; have HB := n2_; clear n0_ n1_ n2_; (try clear hb); (try clear hb2); (try clear hk); (try clear hi)))
    go_ret; exact ⟨ez, b2 GE1012.out GE1013.out HB.out⟩
  · rw [if_neg c5] at H
    have c5b0 : decide (t1014 < t1015) = false := decide_eq_false c5; clear c5
    by_cases c13 : t1014 = t1015
    · rw [if_pos c13] at H
      have c13b0 : (t1014 == t1015) = true := beq_iff_eq.mpr c13; have c13b1 : (t1014 != t1015) = false := bne_eq_false_iff_eq.mpr c13; clear c13; obtain rfl := Option.some.inj H
      go_enter Try.func135, Try.ntmps135
      go_wp2_with (first | ((with_reducible refine gate_dst (N := 2) rfl ?_); refine box_event ?hg (N := 2) ?hd (cs := #[.int .i64 a0_0, .int .i64 a0_1, .int .i64 a0_2, .int .i64 a0_3, .int .i64 a0_4]) (t := 34) ?hr ?_; (case hd => rfl); (case hg => rfl); (case hr => first | (go_simp; done) | (go_simp; rfl)); intro gb1012 hg w14 hbox hb; have n0_ := Aside0.mk (below_step (bz HB.out) hb); have n1_ := Aside0.mk (hbox); have n2_ := Aside0.mk ((by rw [hg]; exact (below_size (bz HB.out)) : w.heap.size ≤ gb1012)); have n3_ := Aside0.mk ((by rw [hg]; exact (below_size (bz HB.out)) : w.heap.size ≤ gb1012)); clear HB; have HB := n0_; have BK1012 := n1_; have GW1012 := n2_; have GE1012 := n3_; clear n0_ n1_ n2_ n3_; clear hb hbox hg) | ((with_reducible refine gate_dst (N := 3) rfl ?_); refine box_event ?hg (N := 3) ?hd (cs := #[.int .i64 a1_0, .int .i64 a1_1, .int .i64 a1_2, .int .i64 a1_3, .int .i64 a1_4]) (t := 34) ?hr ?_; (case hd => rfl); (case hg => rfl); (case hr => first | (go_simp; done) | (go_simp; rfl)); intro gb1013 hg w15 hbox hb; have n0_ := Aside0.mk (blk_below (g := gb1012) (o := .cells #[.int .i64 a0_0, .int .i64 a0_1, .int .i64 a0_2, .int .i64 a0_3, .int .i64 a0_4] 34 (0, 0)) (kz BK1012.out) hb); have n1_ := Aside0.mk (below_step (b1 GE1012.out HB.out) hb); have n2_ := Aside0.mk (hbox); have n3_ := Aside0.mk ((by rw [hg]; exact (below_size (b1 GE1012.out HB.out)) : w.heap.size ≤ gb1013)); have n4_ := Aside0.mk ((by rw [hg]; exact (below_size (b1 GE1012.out HB.out)) : w.heap.size ≤ gb1013)); have n5_ := Aside0.mk ((by rw [hg]; exact Nat.ne_of_lt (blk_lt (g := gb1012) (o := .cells #[.int .i64 a0_0, .int .i64 a0_1, .int .i64 a0_2, .int .i64 a0_3, .int .i64 a0_4] 34 (0, 0)) (kz BK1012.out)) : gb1012 ≠ gb1013)); have n6_ := Aside0.mk ((by rw [hg]; exact Nat.ne_of_gt (blk_lt (g := gb1012) (o := .cells #[.int .i64 a0_0, .int .i64 a0_1, .int .i64 a0_2, .int .i64 a0_3, .int .i64 a0_4] 34 (0, 0)) (kz BK1012.out)) : gb1013 ≠ gb1012)); clear BK1012; clear HB; have BK1012 := n0_; have HB := n1_; have BK1013 := n2_; have GW1013 := n3_; have GE1013 := n4_; have NB1012_1013 := n5_; have NB1013_1012 := n6_; clear n0_ n1_ n2_ n3_ n4_ n5_ n6_; clear hb hbox hg; have hnb16 := NB1012_1013.out; have hnc16 := NB1013_1012.out; have hcz17_0 := fz BK1012.out 0 (.int .i64 a0_0); have hcz17_1 := fz BK1012.out 1 (.int .i64 a0_1); have hcz17_2 := fz BK1012.out 2 (.int .i64 a0_2); have hcz17_3 := fz BK1012.out 3 (.int .i64 a0_3); have hcz17_4 := fz BK1012.out 4 (.int .i64 a0_4); have hfz17_0 := blk_frozen BK1012.out 0; have hfz17_1 := blk_frozen BK1012.out 1; have hfz17_2 := blk_frozen BK1012.out 2; have hfz17_3 := blk_frozen BK1012.out 3; have hfz17_4 := blk_frozen BK1012.out 4) | ((with_reducible refine gate_callee (f := 147) rfl ?_); refine goesL_ (some 9) rfl rfl Try.func147 (by kernel_rfl) rfl #[.agg #[.int .i64 a0_1, .int .i64 a0_2, .int .i64 a0_3, .int .i64 a0_4]] rfl dz ?_; (with_reducible refine (spec_KeyOf.calls k a0_1 a0_2 a0_3 a0_4 t1014 _ A3.out).mono ?_); rintro e w18 ⟨rfl, hb⟩; refine ⟨_, rfl, ?_⟩; have n0_ := Aside0.mk (blk_below (g := gb1012) (o := .cells #[.int .i64 a0_0, .int .i64 a0_1, .int .i64 a0_2, .int .i64 a0_3, .int .i64 a0_4] 34 (0, 0)) (kz BK1012.out) hb); have n1_ := Aside0.mk (blk_below (g := gb1013) (o := .cells #[.int .i64 a1_0, .int .i64 a1_1, .int .i64 a1_2, .int .i64 a1_3, .int .i64 a1_4] 34 (0, 0)) (kz BK1013.out) hb); have n2_ := Aside0.mk (below_step (b2 GE1012.out GE1013.out HB.out) hb); clear BK1012; clear BK1013; clear HB; have BK1012 := n0_; have BK1013 := n1_; have HB := n2_; clear n0_ n1_ n2_; (try clear hb); (try clear hb2); (try clear hk); (try clear hi); have hcz19_0 := fz BK1013.out 0 (.int .i64 a1_0); have hcz19_1 := fz BK1013.out 1 (.int .i64 a1_1); have hcz19_2 := fz BK1013.out 2 (.int .i64 a1_2); have hcz19_3 := fz BK1013.out 3 (.int .i64 a1_3); have hcz19_4 := fz BK1013.out 4 (.int .i64 a1_4); have hfz19_0 := blk_frozen BK1013.out 0; have hfz19_1 := blk_frozen BK1013.out 1; have hfz19_2 := blk_frozen BK1013.out 2; have hfz19_3 := blk_frozen BK1013.out 3; have hfz19_4 := blk_frozen BK1013.out 4) | ((with_reducible refine gate_callee (f := 147) rfl ?_); refine goesL_ (some 12) rfl rfl Try.func147 (by kernel_rfl) rfl #[.agg #[.int .i64 a1_1, .int .i64 a1_2, .int .i64 a1_3, .int .i64 a1_4]] rfl dz ?_; (with_reducible refine (spec_KeyOf.calls k a1_1 a1_2 a1_3 a1_4 t1015 _ A4.out).mono ?_); rintro e w20 ⟨rfl, hb⟩; refine ⟨_, rfl, ?_⟩; have n0_ := Aside0.mk (blk_below (g := gb1012) (o := .cells #[.int .i64 a0_0, .int .i64 a0_1, .int .i64 a0_2, .int .i64 a0_3, .int .i64 a0_4] 34 (0, 0)) (kz BK1012.out) hb); have n1_ := Aside0.mk (blk_below (g := gb1013) (o := .cells #[.int .i64 a1_0, .int .i64 a1_1, .int .i64 a1_2, .int .i64 a1_3, .int .i64 a1_4] 34 (0, 0)) (kz BK1013.out) hb); have n2_ := Aside0.mk (below_step (b2 GE1012.out GE1013.out HB.out) hb); clear BK1012; clear BK1013; clear HB; have BK1012 := n0_; have BK1013 := n1_; have HB := n2_; clear n0_ n1_ n2_; (try clear hb); (try clear hb2); (try clear hk); (try clear hi); have hcz21_0 := fz BK1012.out 0 (.int .i64 a0_0); have hcz21_1 := fz BK1012.out 1 (.int .i64 a0_1); have hcz21_2 := fz BK1012.out 2 (.int .i64 a0_2); have hcz21_3 := fz BK1012.out 3 (.int .i64 a0_3); have hcz21_4 := fz BK1012.out 4 (.int .i64 a0_4); have hfz21_0 := blk_frozen BK1012.out 0; have hfz21_1 := blk_frozen BK1012.out 1; have hfz21_2 := blk_frozen BK1012.out 2; have hfz21_3 := blk_frozen BK1012.out 3; have hfz21_4 := blk_frozen BK1012.out 4; have hcz22_0 := fz BK1013.out 0 (.int .i64 a1_0); have hcz22_1 := fz BK1013.out 1 (.int .i64 a1_1); have hcz22_2 := fz BK1013.out 2 (.int .i64 a1_2); have hcz22_3 := fz BK1013.out 3 (.int .i64 a1_3); have hcz22_4 := fz BK1013.out 4 (.int .i64 a1_4); have hfz22_0 := blk_frozen BK1013.out 0; have hfz22_1 := blk_frozen BK1013.out 1; have hfz22_2 := blk_frozen BK1013.out 2; have hfz22_3 := blk_frozen BK1013.out 3; have hfz22_4 := blk_frozen BK1013.out 4))
      go_ret; exact ⟨ez, b2 GE1012.out GE1013.out HB.out⟩
    · rw [if_neg c13] at H
      have c13b0 : (t1014 == t1015) = false := beq_eq_false_iff_ne.mpr c13; have c13b1 : (t1014 != t1015) = true := bne_iff_ne.mpr c13; obtain rfl := Option.some.inj H
      go_enter Try.func135, Try.ntmps135
      go_wp2_with (first | ((with_reducible refine gate_dst (N := 2) rfl ?_); refine box_event ?hg (N := 2) ?hd (cs := #[.int .i64 a0_0, .int .i64 a0_1, .int .i64 a0_2, .int .i64 a0_3, .int .i64 a0_4]) (t := 34) ?hr ?_; (case hd => rfl); (case hg => rfl); (case hr => first | (go_simp; done) | (go_simp; rfl)); intro gb1012 hg w23 hbox hb; have n0_ := Aside0.mk (below_step (bz HB.out) hb); have n1_ := Aside0.mk (hbox); have n2_ := Aside0.mk ((by rw [hg]; exact (below_size (bz HB.out)) : w.heap.size ≤ gb1012)); have n3_ := Aside0.mk ((by rw [hg]; exact (below_size (bz HB.out)) : w.heap.size ≤ gb1012)); clear HB; have HB := n0_; have BK1012 := n1_; have GW1012 := n2_; have GE1012 := n3_; clear n0_ n1_ n2_ n3_; clear hb hbox hg) | ((with_reducible refine gate_dst (N := 3) rfl ?_); refine box_event ?hg (N := 3) ?hd (cs := #[.int .i64 a1_0, .int .i64 a1_1, .int .i64 a1_2, .int .i64 a1_3, .int .i64 a1_4]) (t := 34) ?hr ?_; (case hd => rfl); (case hg => rfl); (case hr => first | (go_simp; done) | (go_simp; rfl)); intro gb1013 hg w24 hbox hb; have n0_ := Aside0.mk (blk_below (g := gb1012) (o := .cells #[.int .i64 a0_0, .int .i64 a0_1, .int .i64 a0_2, .int .i64 a0_3, .int .i64 a0_4] 34 (0, 0)) (kz BK1012.out) hb); have n1_ := Aside0.mk (below_step (b1 GE1012.out HB.out) hb); have n2_ := Aside0.mk (hbox); have n3_ := Aside0.mk ((by rw [hg]; exact (below_size (b1 GE1012.out HB.out)) : w.heap.size ≤ gb1013)); have n4_ := Aside0.mk ((by rw [hg]; exact (below_size (b1 GE1012.out HB.out)) : w.heap.size ≤ gb1013)); have n5_ := Aside0.mk ((by rw [hg]; exact Nat.ne_of_lt (blk_lt (g := gb1012) (o := .cells #[.int .i64 a0_0, .int .i64 a0_1, .int .i64 a0_2, .int .i64 a0_3, .int .i64 a0_4] 34 (0, 0)) (kz BK1012.out)) : gb1012 ≠ gb1013)); have n6_ := Aside0.mk ((by rw [hg]; exact Nat.ne_of_gt (blk_lt (g := gb1012) (o := .cells #[.int .i64 a0_0, .int .i64 a0_1, .int .i64 a0_2, .int .i64 a0_3, .int .i64 a0_4] 34 (0, 0)) (kz BK1012.out)) : gb1013 ≠ gb1012)); clear BK1012; clear HB; have BK1012 := n0_; have HB := n1_; have BK1013 := n2_; have GW1013 := n3_; have GE1013 := n4_; have NB1012_1013 := n5_; have NB1013_1012 := n6_; clear n0_ n1_ n2_ n3_ n4_ n5_ n6_; clear hb hbox hg; have hnb25 := NB1012_1013.out; have hnc25 := NB1013_1012.out; have hcz26_0 := fz BK1012.out 0 (.int .i64 a0_0); have hcz26_1 := fz BK1012.out 1 (.int .i64 a0_1); have hcz26_2 := fz BK1012.out 2 (.int .i64 a0_2); have hcz26_3 := fz BK1012.out 3 (.int .i64 a0_3); have hcz26_4 := fz BK1012.out 4 (.int .i64 a0_4); have hfz26_0 := blk_frozen BK1012.out 0; have hfz26_1 := blk_frozen BK1012.out 1; have hfz26_2 := blk_frozen BK1012.out 2; have hfz26_3 := blk_frozen BK1012.out 3; have hfz26_4 := blk_frozen BK1012.out 4) | ((with_reducible refine gate_callee (f := 147) rfl ?_); refine goesL_ (some 9) rfl rfl Try.func147 (by kernel_rfl) rfl #[.agg #[.int .i64 a0_1, .int .i64 a0_2, .int .i64 a0_3, .int .i64 a0_4]] rfl dz ?_; (with_reducible refine (spec_KeyOf.calls k a0_1 a0_2 a0_3 a0_4 t1014 _ A3.out).mono ?_); rintro e w27 ⟨rfl, hb⟩; refine ⟨_, rfl, ?_⟩; have n0_ := Aside0.mk (blk_below (g := gb1012) (o := .cells #[.int .i64 a0_0, .int .i64 a0_1, .int .i64 a0_2, .int .i64 a0_3, .int .i64 a0_4] 34 (0, 0)) (kz BK1012.out) hb); have n1_ := Aside0.mk (blk_below (g := gb1013) (o := .cells #[.int .i64 a1_0, .int .i64 a1_1, .int .i64 a1_2, .int .i64 a1_3, .int .i64 a1_4] 34 (0, 0)) (kz BK1013.out) hb); have n2_ := Aside0.mk (below_step (b2 GE1012.out GE1013.out HB.out) hb); clear BK1012; clear BK1013; clear HB; have BK1012 := n0_; have BK1013 := n1_; have HB := n2_; clear n0_ n1_ n2_; (try clear hb); (try clear hb2); (try clear hk); (try clear hi); have hcz28_0 := fz BK1013.out 0 (.int .i64 a1_0); have hcz28_1 := fz BK1013.out 1 (.int .i64 a1_1); have hcz28_2 := fz BK1013.out 2 (.int .i64 a1_2); have hcz28_3 := fz BK1013.out 3 (.int .i64 a1_3); have hcz28_4 := fz BK1013.out 4 (.int .i64 a1_4); have hfz28_0 := blk_frozen BK1013.out 0; have hfz28_1 := blk_frozen BK1013.out 1; have hfz28_2 := blk_frozen BK1013.out 2; have hfz28_3 := blk_frozen BK1013.out 3; have hfz28_4 := blk_frozen BK1013.out 4) | ((with_reducible refine gate_callee (f := 147) rfl ?_); refine goesL_ (some 12) rfl rfl Try.func147 (by kernel_rfl) rfl #[.agg #[.int .i64 a1_1, .int .i64 a1_2, .int .i64 a1_3, .int .i64 a1_4]] rfl dz ?_; (with_reducible refine (spec_KeyOf.calls k a1_1 a1_2 a1_3 a1_4 t1015 _ A4.out).mono ?_); rintro e w29 ⟨rfl, hb⟩; refine ⟨_, rfl, ?_⟩; have n0_ := Aside0.mk (blk_below (g := gb1012) (o := .cells #[.int .i64 a0_0, .int .i64 a0_1, .int .i64 a0_2, .int .i64 a0_3, .int .i64 a0_4] 34 (0, 0)) (kz BK1012.out) hb); have n1_ := Aside0.mk (blk_below (g := gb1013) (o := .cells #[.int .i64 a1_0, .int .i64 a1_1, .int .i64 a1_2, .int .i64 a1_3, .int .i64 a1_4] 34 (0, 0)) (kz BK1013.out) hb); have n2_ := Aside0.mk (below_step (b2 GE1012.out GE1013.out HB.out) hb); clear BK1012; clear BK1013; clear HB; have BK1012 := n0_; have BK1013 := n1_; have HB := n2_; clear n0_ n1_ n2_; (try clear hb); (try clear hb2); (try clear hk); (try clear hi)))
      go_ret; exact ⟨ez, b2 GE1012.out GE1013.out HB.out⟩

attribute [local go_sem] max2_int min2_int max_two min_two max_three min_three max_four min_four 
set_option linter.unusedVariables false
set_option linter.unusedSimpArgs false

/-! ### spec_InOrder: function 105 -/
def spec_InOrder.l0 : Nat → List (S34) → Int → Option (Bool)
  | 0, _, _ => none
  | k + 1, x0, x3 => if x3 < (x0.length : Int) then (if 0 ≤ x3 then (if 0 ≤ (wrap64 (x3 - 1)) then (if (wrap64 (x3 - 1)) < (x0.length : Int) then ((spec_Ahead.f k ((rd_T34 x0 x3).f0) ((rd_T34 x0 x3).f1.f0) ((rd_T34 x0 x3).f1.f1) ((rd_T34 x0 x3).f1.f2) ((rd_T34 x0 x3).f1.f3) ((rd_T34 x0 (wrap64 (x3 - 1))).f0) ((rd_T34 x0 (wrap64 (x3 - 1))).f1.f0) ((rd_T34 x0 (wrap64 (x3 - 1))).f1.f1) ((rd_T34 x0 (wrap64 (x3 - 1))).f1.f2) ((rd_T34 x0 (wrap64 (x3 - 1))).f1.f3)).bind fun t1018 => (if t1018 = true then (some false) else (spec_InOrder.l0 k x0 (wrap64 (x3 + 1))))) else (none)) else (none)) else (none)) else (some true)
def spec_InOrder.f (k : Nat) (l0 : List (S34)) : Option (Bool) := spec_InOrder.l0 k l0 1
theorem spec_InOrder.mono_l : ∀ k, (∀ y0 y1, LeO (spec_InOrder.l0 k y0 y1) (spec_InOrder.l0 (k + 1) y0 y1))
  | 0 => fun _ _ r h => by simp [spec_InOrder.l0] at h
  | k + 1 => by
    have ih0 := spec_InOrder.mono_l k
    · intro y0 y1
      unfold spec_InOrder.l0
      repeat' first | (with_reducible first | exact ih0 _ _ | exact spec_Ahead.mono _ _ _ _ _ _ _ _ _ _ _ | exact LeO.refl _ | exact LeO.none _ | refine LeO.ite ?_ ?_ | refine LeO.bind ?_ (fun _ => ?_)) | exact ih0 _ _ | exact spec_Ahead.mono _ _ _ _ _ _ _ _ _ _ _ | exact LeO.none _ | refine LeO.ite ?_ ?_ | refine LeO.bind ?_ (fun _ => ?_)
theorem spec_InOrder.mono : ∀ a0 k, LeO (spec_InOrder.f k a0) (spec_InOrder.f (k + 1) a0) := by
  intro a0 k
  have ih0 := spec_InOrder.mono_l k; unfold spec_InOrder.f
  repeat' first | (with_reducible first | exact ih0 _ _ | exact spec_Ahead.mono _ _ _ _ _ _ _ _ _ _ _ | exact LeO.refl _ | exact LeO.none _ | refine LeO.ite ?_ ?_ | refine LeO.bind ?_ (fun _ => ?_)) | exact ih0 _ _ | exact spec_Ahead.mono _ _ _ _ _ _ _ _ _ _ _ | exact LeO.none _ | refine LeO.ite ?_ ?_ | refine LeO.bind ?_ (fun _ => ?_)
def spec_InOrder.T4 : Bool × List (List Nat × List Nat) := (true, [([], []), ([], []), ([0, 1], [0, 1]), ([2], [2]), ([], []), ([], []), ([5], [5]), ([4, 6], [4, 6]), ([7], [7]), ([3, 8], [3, 8])])
def spec_InOrder.B4 : List Nat := [0, 0, 3, 7, 0, 0, 32, 112, 240, 511]
theorem spec_InOrder.tab4 : rtab .any (opsOf Try.f105 4) = spec_InOrder.T4 := by kernel_rfl
theorem spec_InOrder.bits4 : waitsOk spec_InOrder.T4.2 spec_InOrder.B4 = true := by kernel_rfl
set_option maxHeartbeats 8000000 in
set_option maxRecDepth 100000 in
theorem spec_InOrder.calls (k : Nat) (A0 : Option Addr) (c0 : Nat) (l0 : List (S34)) (r : Bool) (w : World) (hr0 : Kd.C k34 w A0 l0.length l0) (hc0 : l0.length ≤ c0) (h : spec_InOrder.f k l0 = some r) :
    Calls Try.prog 105 #[.slice A0 l0.length c0] w fun e w' => e = .returned (.bool r) ∧ Below w.heap.size w w' := by
  have hu34 := Try.underlying34; have HR0 := Aside0.mk hr0; have HC0 := Aside0.mk hc0; clear hr0 hc0; have HB := Aside0.mk (Below.refl w.heap.size w); have H : (spec_InOrder.l0 k l0 1) = some r := h; clear h; have H' := Aside0.mk H; clear H
  go_enter Try.func105, Try.ntmps105
  go_wp2
  go_loopg [3] k (fun kq v3 w' => ∃ (x3_1 : Int), v3 = .int .i64 x3_1 ∧ Aside0 (spec_InOrder.l0 kq l0 x3_1 = some r) ∧ Aside0 (kq ≤ k) ∧ Aside0 (Below w.heap.size w w'))
  case atStart => exact ⟨(1), az, H', ⟨Nat.le_refl _⟩, ⟨bz HB.out⟩⟩
  case round =>
    clear H'; (try clear c1); obtain ⟨x3_1, rfl, HA, HK1, HB⟩ := hrel
    cases gk with
    | zero => exact absurd HA.out (by simp [spec_InOrder.l0])
    | succ k1 =>
      have H := HA.out; clear HA
      simp only [spec_InOrder.l0] at H
      by_cases c2 : x3_1 < (l0.length : Int)
      · rw [if_pos c2] at H
        have c2b0 : decide (x3_1 < (l0.length : Int)) = true := decide_eq_true c2; clear c2
        by_cases c3 : 0 ≤ x3_1
        · rw [if_pos c3] at H
          have c3b0 : decide (0 ≤ x3_1) = true := decide_eq_true c3; clear c3; obtain ⟨ji4, hji4⟩ : ∃ j_ : Int, (wrap64 (x3_1 - 1)) = j_ := ⟨_, rfl⟩
          replace H : (if 0 ≤ (ji4) then (if (ji4) < (l0.length : Int) then ((spec_Ahead.f k1 ((rd_T34 l0 x3_1).f0) ((rd_T34 l0 x3_1).f1.f0) ((rd_T34 l0 x3_1).f1.f1) ((rd_T34 l0 x3_1).f1.f2) ((rd_T34 l0 x3_1).f1.f3) ((rd_T34 l0 (ji4)).f0) ((rd_T34 l0 (ji4)).f1.f0) ((rd_T34 l0 (ji4)).f1.f1) ((rd_T34 l0 (ji4)).f1.f2) ((rd_T34 l0 (ji4)).f1.f3)).bind fun t1018 => (if t1018 = true then (some false) else (spec_InOrder.l0 k1 l0 (wrap64 (x3_1 + 1))))) else (none)) else (none)) = some r := by first | (rw [hji4] at H; exact H) | (simp only [hji4] at H ⊢; exact H)
          have hji4w : (IntKind.i64.wrap (x3_1 - 1)) = ji4 := (i64_w _).trans hji4
          by_cases c5 : 0 ≤ (ji4)
          · rw [if_pos c5] at H
            have c5b0 : decide (0 ≤ (ji4)) = true := decide_eq_true c5; clear c5
            by_cases c6 : (ji4) < (l0.length : Int)
            · rw [if_pos c6] at H
              have c6b0 : decide ((ji4) < (l0.length : Int)) = true := decide_eq_true c6; clear c6; replace H := Option.bind_eq_some_iff.mp H; obtain ⟨t1018, A70, H⟩ := H; replace H : (if t1018 = true then (some false) else (spec_InOrder.l0 k1 l0 (wrap64 (x3_1 + 1)))) = some r := H; have A7 := Aside0.mk A70; clear A70
              by_cases c8 : t1018 = true
              · subst c8
                replace H : (some false) = some r := (by rw [if_pos rfl] at H; exact H); obtain rfl := Option.some.inj H
                try go_wp2
                have n0_ := Aside0.mk (below_drew1 HB.out); clear HB; have HB := n0_; clear n0_; have p1016 : 0 ≤ (x3_1 : Int) := of_decide_eq_true uz; have q1016 : x3_1 < (l0.length : Int) := of_decide_eq_true uz; obtain ⟨ad1016, e1016, hx1016_0, hx1016_1, hx1016_2, hx1016_3, hx1016_4⟩ := at_T34 HR0.out x3_1 p1016 q1016; have hw1016_4 := hx1016_4; have hw1016_3 := hx1016_3; have hw1016_2 := hx1016_2; have hw1016_1 := hx1016_1; have hw1016_0 := hx1016_0
                cases e1016
                replace hx1016_0 := cz HB.out hx1016_0; replace hx1016_1 := cz HB.out hx1016_1; replace hx1016_2 := cz HB.out hx1016_2; replace hx1016_3 := cz HB.out hx1016_3; replace hx1016_4 := cz HB.out hx1016_4; replace p1016 := eq_true p1016; replace q1016 := eq_true q1016; have p1017 : 0 ≤ ((ji4) : Int) := of_decide_eq_true uz; have q1017 : (ji4) < (l0.length : Int) := of_decide_eq_true uz; obtain ⟨ad1017, e1017, hx1017_0, hx1017_1, hx1017_2, hx1017_3, hx1017_4⟩ := at_T34 HR0.out (ji4) p1017 q1017; have hw1017_4 := hx1017_4; have hw1017_3 := hx1017_3; have hw1017_2 := hx1017_2; have hw1017_1 := hx1017_1; have hw1017_0 := hx1017_0; obtain rfl : ad1016 = ad1017 := (by injection e1017); replace hx1017_0 := cz HB.out hx1017_0; replace hx1017_1 := cz HB.out hx1017_1; replace hx1017_2 := cz HB.out hx1017_2; replace hx1017_3 := cz HB.out hx1017_3; replace hx1017_4 := cz HB.out hx1017_4; replace p1017 := eq_true p1017; replace q1017 := eq_true q1017
                refine start_ (n := 10) (S := fun w' => w'.cell? (ad1016.add ((x3_1).toNat * 5)) = some (.int .i64 ((rd_T34 l0 x3_1).f0)) ∧ w'.cell? ⟨(ad1016.add ((x3_1).toNat * 5)).block, (ad1016.add ((x3_1).toNat * 5)).off + 1, none⟩ = some (.int .i64 ((rd_T34 l0 x3_1).f1.f0)) ∧ w'.cell? ⟨(ad1016.add ((x3_1).toNat * 5)).block, (ad1016.add ((x3_1).toNat * 5)).off + 2, none⟩ = some (.int .i64 ((rd_T34 l0 x3_1).f1.f1)) ∧ w'.cell? ⟨(ad1016.add ((x3_1).toNat * 5)).block, (ad1016.add ((x3_1).toNat * 5)).off + 3, none⟩ = some (.int .i64 ((rd_T34 l0 x3_1).f1.f2)) ∧ w'.cell? ⟨(ad1016.add ((x3_1).toNat * 5)).block, (ad1016.add ((x3_1).toNat * 5)).off + 4, none⟩ = some (.int .i64 ((rd_T34 l0 x3_1).f1.f3)) ∧ w'.cell? (ad1016.add (((ji4)).toNat * 5)) = some (.int .i64 ((rd_T34 l0 (ji4)).f0)) ∧ w'.cell? ⟨(ad1016.add (((ji4)).toNat * 5)).block, (ad1016.add (((ji4)).toNat * 5)).off + 1, none⟩ = some (.int .i64 ((rd_T34 l0 (ji4)).f1.f0)) ∧ w'.cell? ⟨(ad1016.add (((ji4)).toNat * 5)).block, (ad1016.add (((ji4)).toNat * 5)).off + 2, none⟩ = some (.int .i64 ((rd_T34 l0 (ji4)).f1.f1)) ∧ w'.cell? ⟨(ad1016.add (((ji4)).toNat * 5)).block, (ad1016.add (((ji4)).toNat * 5)).off + 3, none⟩ = some (.int .i64 ((rd_T34 l0 (ji4)).f1.f2)) ∧ w'.cell? ⟨(ad1016.add (((ji4)).toNat * 5)).block, (ad1016.add (((ji4)).toNat * 5)).off + 4, none⟩ = some (.int .i64 ((rd_T34 l0 (ji4)).f1.f3))) (ds := []) #[false, false, false, false, false, false, false, false, false, false] (by kernel_rfl) rfl rfl ⟨(cz HB.out hw1016_0 :), (cz HB.out hw1016_1 :), (cz HB.out hw1016_2 :), (cz HB.out hw1016_3 :), (cz HB.out hw1016_4 :), (cz HB.out hw1017_0 :), (cz HB.out hw1017_1 :), (cz HB.out hw1017_2 :), (cz HB.out hw1017_3 :), (cz HB.out hw1017_4 :)⟩ (fun hHeld => ?_); refine with_tabW spec_InOrder.tab4 spec_InOrder.bits4 (fun HT_ HW_ => ?_)
                generalize wr.drew = w9 at HB hx1016_0 hx1016_1 hx1016_2 hx1016_3 hx1016_4 hx1017_0 hx1017_1 hx1017_2 hx1017_3 hx1017_4 hHeld ⊢
                refine pure_ (i := 0) (N := some 10) (v := ?_) (a' := ?_) #[true, false, false, false, false, false, false, false, false, false] rfl rfl (any_of HT_.out (by kernel_rfl)) (fun _ _ _ h => h) (Or.inl ⟨by rfl, ?_⟩) ?_ ?_; rotate_left
                · intro w'
                  go_simp
                  with_reducible rfl
                rotate_left
                · exact pz
                refine pure_ (i := 1) (N := some 11) (v := ?_) (a' := ?_) #[true, true, false, false, false, false, false, false, false, false] rfl rfl (any_of HT_.out (by kernel_rfl)) (fun _ _ _ h => h) (Or.inl ⟨by rfl, ?_⟩) ?_ ?_; rotate_left
                · intro w'
                  go_simp
                  with_reducible rfl
                rotate_left
                · exact pz
                refine pure_ (i := 2) (N := some 12) (v := ?_) (a' := ?_) #[true, true, true, false, false, false, false, false, false, false] rfl rfl (any_of HT_.out (by kernel_rfl)) (fun _ _ _ h => h) (Or.inl ⟨by rfl, ?_⟩) ?_ ?_; rotate_left
                · intro w'
                  go_simp
                  with_reducible rfl
                rotate_left
                · exact pz
                refine pure_ (i := 4) (N := some 14) (v := ?_) (a' := ?_) #[true, true, true, false, true, false, false, false, false, false] rfl rfl (any_of HT_.out (by kernel_rfl)) (fun _ _ _ h => h) (Or.inl ⟨by rfl, ?_⟩) ?_ ?_; rotate_left
                · intro w'
                  go_simp
                  with_reducible rfl
                rotate_left
                · exact pz
                refine pure_ (i := 5) (N := some 15) (v := ?_) (a' := ?_) #[true, true, true, false, true, true, false, false, false, false] rfl rfl (any_of HT_.out (by kernel_rfl)) (fun _ _ _ h => h) (Or.inl ⟨by rfl, ?_⟩) ?_ ?_; rotate_left
                · intro w'
                  go_simp
                  with_reducible rfl
                rotate_left
                · exact pz
                refine pure_ (i := 6) (N := some 16) (v := ?_) (a' := ?_) #[true, true, true, false, true, true, true, false, false, false] rfl rfl (any_of HT_.out (by kernel_rfl)) (fun _ _ _ h => h) (Or.inl ⟨by rfl, ?_⟩) ?_ ?_; rotate_left
                · intro w'
                  go_simp
                  with_reducible rfl
                rotate_left
                · exact pz
                refine pure_ (i := 7) (N := some 17) (v := ?_) (a' := ?_) #[true, true, true, false, true, true, true, true, false, false] rfl rfl (any_of HT_.out (by kernel_rfl)) (fun _ _ _ h => h) (Or.inl ⟨by rfl, ?_⟩) ?_ ?_; rotate_left
                · intro w'
                  go_simp
                  with_reducible rfl
                rotate_left
                · exact pz
                refine take_ (i := 3) (N := some 13) (v := ?_) (a' := ?_) #[true, true, true, true, true, true, true, true, false, false] rfl rfl (take_ofW HT_.out HW_.out (by kernel_rfl)) (fun _ _ _ h => h) (Or.inl ⟨by rfl, ?_⟩) hHeld ?_ ?_; rotate_left
                · rintro w' ⟨s0, s1, s2, s3, s4, s5, s6, s7, s8, s9⟩
                  go_simp
                  with_reducible rfl
                rotate_left
                · exact pz
                refine take_ (i := 8) (N := some 18) (v := ?_) (a' := ?_) #[true, true, true, true, true, true, true, true, true, false] rfl rfl (take_ofW HT_.out HW_.out (by kernel_rfl)) (fun _ _ _ h => h) (Or.inl ⟨by rfl, ?_⟩) hHeld ?_ ?_; rotate_left
                · rintro w' ⟨s0, s1, s2, s3, s4, s5, s6, s7, s8, s9⟩
                  go_simp
                  with_reducible rfl
                rotate_left
                · exact pz
                refine one_ (i := 9) (N := some 19) #[true, true, true, true, true, true, true, true, true, true] rfl rfl (one_of HT_.out (by kernel_rfl)) (by decide) (fun K hK => ?_); refine goes_ Try.func135 (by kernel_rfl) rfl #[.agg #[.int .i64 ((rd_T34 l0 x3_1).f0), .int .i64 ((rd_T34 l0 x3_1).f1.f0), .int .i64 ((rd_T34 l0 x3_1).f1.f1), .int .i64 ((rd_T34 l0 x3_1).f1.f2), .int .i64 ((rd_T34 l0 x3_1).f1.f3)], .agg #[.int .i64 ((rd_T34 l0 (ji4)).f0), .int .i64 ((rd_T34 l0 (ji4)).f1.f0), .int .i64 ((rd_T34 l0 (ji4)).f1.f1), .int .i64 ((rd_T34 l0 (ji4)).f1.f2), .int .i64 ((rd_T34 l0 (ji4)).f1.f3)]] (by rfl) rfl rfl (by (try simp only [List.map_toArray, List.map_cons, List.map_nil]); first | done | (simp only [hji4]; rfl) | rfl | (simp only [List.length_drop, List.length_take]; rfl)) ?_
                with_reducible refine (spec_Ahead.calls k1 ((rd_T34 l0 x3_1).f0) ((rd_T34 l0 x3_1).f1.f0) ((rd_T34 l0 x3_1).f1.f1) ((rd_T34 l0 x3_1).f1.f2) ((rd_T34 l0 x3_1).f1.f3) ((rd_T34 l0 (ji4)).f0) ((rd_T34 l0 (ji4)).f1.f0) ((rd_T34 l0 (ji4)).f1.f1) ((rd_T34 l0 (ji4)).f1.f2) ((rd_T34 l0 (ji4)).f1.f3) true _ A7.out).mono ?_
                rintro e w10 ⟨rfl, hb⟩
                refine ⟨_, rfl, ?_⟩; have n0_ := Aside0.mk (below_step (bz HB.out) hb); clear HB; have HB := n0_; clear n0_
                (try clear hb)
                (try clear hb2)
                (try clear hk)
                (try clear hi)
                refine hK.out _ _ ⟨(cz HB.out hw1016_0 :), (cz HB.out hw1016_1 :), (cz HB.out hw1016_2 :), (cz HB.out hw1016_3 :), (cz HB.out hw1016_4 :), (cz HB.out hw1017_0 :), (cz HB.out hw1017_1 :), (cz HB.out hw1017_2 :), (cz HB.out hw1017_3 :), (cz HB.out hw1017_4 :)⟩ (fun hHeld => ?_); clear hK K; refine norm_ (a' := ?_) ?_ ?_; rotate_left
                · show Act.put _ (some 19) _ = _
                  simp only [Act.put, List.setIfInBounds_toArray, List.set_cons_zero, List.set_cons_succ, i64_w, i32_w]
                  rfl
                refine done_ (done_of HT_.out (by kernel_rfl)) ?_
                try go_wp2
                go_ret; exact ⟨by first | rfl | (simp [errW_none, errW_some] <;> rfl) | (simp only [← hji4]; first | rfl | (simp [errW_none, errW_some] <;> rfl)) | (simp [*, errW_none, errW_some] <;> rfl), bz HB.out⟩
              · replace c8 := Bool.eq_false_iff.mpr c8
                subst c8; replace H : (spec_InOrder.l0 k1 l0 (wrap64 (x3_1 + 1))) = some r := (by rw [if_neg (show ¬ (false = true) by decide)] at H; exact H); have H' := Aside0.mk H; clear H
                try go_wp2
                have n0_ := Aside0.mk (below_drew1 HB.out); clear HB; have HB := n0_; clear n0_; have p1016 : 0 ≤ (x3_1 : Int) := of_decide_eq_true uz; have q1016 : x3_1 < (l0.length : Int) := of_decide_eq_true uz; obtain ⟨ad1016, e1016, hx1016_0, hx1016_1, hx1016_2, hx1016_3, hx1016_4⟩ := at_T34 HR0.out x3_1 p1016 q1016; have hw1016_4 := hx1016_4; have hw1016_3 := hx1016_3; have hw1016_2 := hx1016_2; have hw1016_1 := hx1016_1; have hw1016_0 := hx1016_0
                cases e1016
                replace hx1016_0 := cz HB.out hx1016_0; replace hx1016_1 := cz HB.out hx1016_1; replace hx1016_2 := cz HB.out hx1016_2; replace hx1016_3 := cz HB.out hx1016_3; replace hx1016_4 := cz HB.out hx1016_4; replace p1016 := eq_true p1016; replace q1016 := eq_true q1016; have p1017 : 0 ≤ ((ji4) : Int) := of_decide_eq_true uz; have q1017 : (ji4) < (l0.length : Int) := of_decide_eq_true uz; obtain ⟨ad1017, e1017, hx1017_0, hx1017_1, hx1017_2, hx1017_3, hx1017_4⟩ := at_T34 HR0.out (ji4) p1017 q1017; have hw1017_4 := hx1017_4; have hw1017_3 := hx1017_3; have hw1017_2 := hx1017_2; have hw1017_1 := hx1017_1; have hw1017_0 := hx1017_0; obtain rfl : ad1016 = ad1017 := (by injection e1017); replace hx1017_0 := cz HB.out hx1017_0; replace hx1017_1 := cz HB.out hx1017_1; replace hx1017_2 := cz HB.out hx1017_2; replace hx1017_3 := cz HB.out hx1017_3; replace hx1017_4 := cz HB.out hx1017_4; replace p1017 := eq_true p1017; replace q1017 := eq_true q1017
                refine start_ (n := 10) (S := fun w' => w'.cell? (ad1016.add ((x3_1).toNat * 5)) = some (.int .i64 ((rd_T34 l0 x3_1).f0)) ∧ w'.cell? ⟨(ad1016.add ((x3_1).toNat * 5)).block, (ad1016.add ((x3_1).toNat * 5)).off + 1, none⟩ = some (.int .i64 ((rd_T34 l0 x3_1).f1.f0)) ∧ w'.cell? ⟨(ad1016.add ((x3_1).toNat * 5)).block, (ad1016.add ((x3_1).toNat * 5)).off + 2, none⟩ = some (.int .i64 ((rd_T34 l0 x3_1).f1.f1)) ∧ w'.cell? ⟨(ad1016.add ((x3_1).toNat * 5)).block, (ad1016.add ((x3_1).toNat * 5)).off + 3, none⟩ = some (.int .i64 ((rd_T34 l0 x3_1).f1.f2)) ∧ w'.cell? ⟨(ad1016.add ((x3_1).toNat * 5)).block, (ad1016.add ((x3_1).toNat * 5)).off + 4, none⟩ = some (.int .i64 ((rd_T34 l0 x3_1).f1.f3)) ∧ w'.cell? (ad1016.add (((ji4)).toNat * 5)) = some (.int .i64 ((rd_T34 l0 (ji4)).f0)) ∧ w'.cell? ⟨(ad1016.add (((ji4)).toNat * 5)).block, (ad1016.add (((ji4)).toNat * 5)).off + 1, none⟩ = some (.int .i64 ((rd_T34 l0 (ji4)).f1.f0)) ∧ w'.cell? ⟨(ad1016.add (((ji4)).toNat * 5)).block, (ad1016.add (((ji4)).toNat * 5)).off + 2, none⟩ = some (.int .i64 ((rd_T34 l0 (ji4)).f1.f1)) ∧ w'.cell? ⟨(ad1016.add (((ji4)).toNat * 5)).block, (ad1016.add (((ji4)).toNat * 5)).off + 3, none⟩ = some (.int .i64 ((rd_T34 l0 (ji4)).f1.f2)) ∧ w'.cell? ⟨(ad1016.add (((ji4)).toNat * 5)).block, (ad1016.add (((ji4)).toNat * 5)).off + 4, none⟩ = some (.int .i64 ((rd_T34 l0 (ji4)).f1.f3))) (ds := []) #[false, false, false, false, false, false, false, false, false, false] (by kernel_rfl) rfl rfl ⟨(cz HB.out hw1016_0 :), (cz HB.out hw1016_1 :), (cz HB.out hw1016_2 :), (cz HB.out hw1016_3 :), (cz HB.out hw1016_4 :), (cz HB.out hw1017_0 :), (cz HB.out hw1017_1 :), (cz HB.out hw1017_2 :), (cz HB.out hw1017_3 :), (cz HB.out hw1017_4 :)⟩ (fun hHeld => ?_); refine with_tabW spec_InOrder.tab4 spec_InOrder.bits4 (fun HT_ HW_ => ?_)
                generalize wr.drew = w11 at HB hx1016_0 hx1016_1 hx1016_2 hx1016_3 hx1016_4 hx1017_0 hx1017_1 hx1017_2 hx1017_3 hx1017_4 hHeld ⊢
                refine pure_ (i := 0) (N := some 10) (v := ?_) (a' := ?_) #[true, false, false, false, false, false, false, false, false, false] rfl rfl (any_of HT_.out (by kernel_rfl)) (fun _ _ _ h => h) (Or.inl ⟨by rfl, ?_⟩) ?_ ?_; rotate_left
                · intro w'
                  go_simp
                  with_reducible rfl
                rotate_left
                · exact pz
                refine pure_ (i := 1) (N := some 11) (v := ?_) (a' := ?_) #[true, true, false, false, false, false, false, false, false, false] rfl rfl (any_of HT_.out (by kernel_rfl)) (fun _ _ _ h => h) (Or.inl ⟨by rfl, ?_⟩) ?_ ?_; rotate_left
                · intro w'
                  go_simp
                  with_reducible rfl
                rotate_left
                · exact pz
                refine pure_ (i := 2) (N := some 12) (v := ?_) (a' := ?_) #[true, true, true, false, false, false, false, false, false, false] rfl rfl (any_of HT_.out (by kernel_rfl)) (fun _ _ _ h => h) (Or.inl ⟨by rfl, ?_⟩) ?_ ?_; rotate_left
                · intro w'
                  go_simp
                  with_reducible rfl
                rotate_left
                · exact pz
                refine pure_ (i := 4) (N := some 14) (v := ?_) (a' := ?_) #[true, true, true, false, true, false, false, false, false, false] rfl rfl (any_of HT_.out (by kernel_rfl)) (fun _ _ _ h => h) (Or.inl ⟨by rfl, ?_⟩) ?_ ?_; rotate_left
                · intro w'
                  go_simp
                  with_reducible rfl
                rotate_left
                · exact pz
                refine pure_ (i := 5) (N := some 15) (v := ?_) (a' := ?_) #[true, true, true, false, true, true, false, false, false, false] rfl rfl (any_of HT_.out (by kernel_rfl)) (fun _ _ _ h => h) (Or.inl ⟨by rfl, ?_⟩) ?_ ?_; rotate_left
                · intro w'
                  go_simp
                  with_reducible rfl
                rotate_left
                · exact pz
                refine pure_ (i := 6) (N := some 16) (v := ?_) (a' := ?_) #[true, true, true, false, true, true, true, false, false, false] rfl rfl (any_of HT_.out (by kernel_rfl)) (fun _ _ _ h => h) (Or.inl ⟨by rfl, ?_⟩) ?_ ?_; rotate_left
                · intro w'
                  go_simp
                  with_reducible rfl
                rotate_left
                · exact pz
                refine pure_ (i := 7) (N := some 17) (v := ?_) (a' := ?_) #[true, true, true, false, true, true, true, true, false, false] rfl rfl (any_of HT_.out (by kernel_rfl)) (fun _ _ _ h => h) (Or.inl ⟨by rfl, ?_⟩) ?_ ?_; rotate_left
                · intro w'
                  go_simp
                  with_reducible rfl
                rotate_left
                · exact pz
                refine take_ (i := 3) (N := some 13) (v := ?_) (a' := ?_) #[true, true, true, true, true, true, true, true, false, false] rfl rfl (take_ofW HT_.out HW_.out (by kernel_rfl)) (fun _ _ _ h => h) (Or.inl ⟨by rfl, ?_⟩) hHeld ?_ ?_; rotate_left
                · rintro w' ⟨s0, s1, s2, s3, s4, s5, s6, s7, s8, s9⟩
                  go_simp
                  with_reducible rfl
                rotate_left
                · exact pz
                refine take_ (i := 8) (N := some 18) (v := ?_) (a' := ?_) #[true, true, true, true, true, true, true, true, true, false] rfl rfl (take_ofW HT_.out HW_.out (by kernel_rfl)) (fun _ _ _ h => h) (Or.inl ⟨by rfl, ?_⟩) hHeld ?_ ?_; rotate_left
                · rintro w' ⟨s0, s1, s2, s3, s4, s5, s6, s7, s8, s9⟩
                  go_simp
                  with_reducible rfl
                rotate_left
                · exact pz
                refine one_ (i := 9) (N := some 19) #[true, true, true, true, true, true, true, true, true, true] rfl rfl (one_of HT_.out (by kernel_rfl)) (by decide) (fun K hK => ?_); refine goes_ Try.func135 (by kernel_rfl) rfl #[.agg #[.int .i64 ((rd_T34 l0 x3_1).f0), .int .i64 ((rd_T34 l0 x3_1).f1.f0), .int .i64 ((rd_T34 l0 x3_1).f1.f1), .int .i64 ((rd_T34 l0 x3_1).f1.f2), .int .i64 ((rd_T34 l0 x3_1).f1.f3)], .agg #[.int .i64 ((rd_T34 l0 (ji4)).f0), .int .i64 ((rd_T34 l0 (ji4)).f1.f0), .int .i64 ((rd_T34 l0 (ji4)).f1.f1), .int .i64 ((rd_T34 l0 (ji4)).f1.f2), .int .i64 ((rd_T34 l0 (ji4)).f1.f3)]] (by rfl) rfl rfl (by (try simp only [List.map_toArray, List.map_cons, List.map_nil]); first | done | (simp only [hji4]; rfl) | rfl | (simp only [List.length_drop, List.length_take]; rfl)) ?_
                with_reducible refine (spec_Ahead.calls k1 ((rd_T34 l0 x3_1).f0) ((rd_T34 l0 x3_1).f1.f0) ((rd_T34 l0 x3_1).f1.f1) ((rd_T34 l0 x3_1).f1.f2) ((rd_T34 l0 x3_1).f1.f3) ((rd_T34 l0 (ji4)).f0) ((rd_T34 l0 (ji4)).f1.f0) ((rd_T34 l0 (ji4)).f1.f1) ((rd_T34 l0 (ji4)).f1.f2) ((rd_T34 l0 (ji4)).f1.f3) false _ A7.out).mono ?_
                rintro e w12 ⟨rfl, hb⟩
                refine ⟨_, rfl, ?_⟩; have n0_ := Aside0.mk (below_step (bz HB.out) hb); clear HB; have HB := n0_; clear n0_
                (try clear hb)
                (try clear hb2)
                (try clear hk)
                (try clear hi)
                refine hK.out _ _ ⟨(cz HB.out hw1016_0 :), (cz HB.out hw1016_1 :), (cz HB.out hw1016_2 :), (cz HB.out hw1016_3 :), (cz HB.out hw1016_4 :), (cz HB.out hw1017_0 :), (cz HB.out hw1017_1 :), (cz HB.out hw1017_2 :), (cz HB.out hw1017_3 :), (cz HB.out hw1017_4 :)⟩ (fun hHeld => ?_); clear hK K; refine norm_ (a' := ?_) ?_ ?_; rotate_left
                · show Act.put _ (some 19) _ = _
                  simp only [Act.put, List.setIfInBounds_toArray, List.set_cons_zero, List.set_cons_succ, i64_w, i32_w]
                  rfl
                refine done_ (done_of HT_.out (by kernel_rfl)) ?_
                try go_wp2
                go_roundg k1
                case measure => have := HK1.out; omega
                case rel => exact ⟨(wrap64 (x3_1 + 1)), az, H', ⟨by have := HK1.out; omega⟩, ⟨bz HB.out⟩⟩
            · rw [if_neg c6] at H
              exact absurd H (by simp)
          · rw [if_neg c5] at H
            exact absurd H (by simp)
        · rw [if_neg c3] at H
          exact absurd H (by simp)
      · rw [if_neg c2] at H
        have c2b0 : decide (x3_1 < (l0.length : Int)) = false := decide_eq_false c2; clear c2; obtain rfl := Option.some.inj H; go_wp2; go_ret; exact ⟨ez, bz HB.out⟩

attribute [local go_sem] max2_int min2_int max_two min_two max_three min_three max_four min_four 
set_option linter.unusedVariables false
set_option linter.unusedSimpArgs false

/-! ### spec_Leaves: function 136 -/
def spec_Leaves.l0 : Nat → List Int → List Int → Int → Int → List (S90) → Option (List Int)
  | 0, _, _, _, _, _ => none
  | k + 1, x3, x4, x5, x1020000, x1020001 => if x5 < (x4.length : Int) then (if 0 ≤ x5 then (if 0 ≤ (rd x4 x5) then (if (rd x4 x5) < (x1020001.length : Int) then (if (rd_T90 x1020001 (rd x4 x5)).f1.f0 = true then (if x3.length < 17592186044416 then (spec_Leaves.l0 k (x3 ++ [rd x4 x5]) x4 (wrap64 (x5 + 1)) x1020000 x1020001) else (none)) else (spec_Leaves.l0 k x3 x4 (wrap64 (x5 + 1)) x1020000 x1020001)) else (none)) else (none)) else (none)) else (some x3)
def spec_Leaves.f (k : Nat) (a0_0 : Int) (l0_1 : List (S90)) : Option (List Int) := (spec_Reach.f k a0_0 l0_1).bind fun t1023 => (spec_Leaves.l0 k (([] : List Int)) t1023 0 a0_0 l0_1)
theorem spec_Leaves.mono_l : ∀ k, (∀ y0 y1 y2 y3 y4, LeO (spec_Leaves.l0 k y0 y1 y2 y3 y4) (spec_Leaves.l0 (k + 1) y0 y1 y2 y3 y4))
  | 0 => fun _ _ _ _ _ r h => by simp [spec_Leaves.l0] at h
  | k + 1 => by
    have ih0 := spec_Leaves.mono_l k
    · intro y0 y1 y2 y3 y4
      unfold spec_Leaves.l0
      repeat' first | (with_reducible first | exact ih0 _ _ _ _ _ | exact spec_Reach.mono _ _ _ | exact LeO.refl _ | exact LeO.none _ | refine LeO.ite ?_ ?_ | refine LeO.bind ?_ (fun _ => ?_)) | exact ih0 _ _ _ _ _ | exact spec_Reach.mono _ _ _ | exact LeO.none _ | refine LeO.ite ?_ ?_ | refine LeO.bind ?_ (fun _ => ?_)
theorem spec_Leaves.mono : ∀ a0 a1 k, LeO (spec_Leaves.f k a0 a1) (spec_Leaves.f (k + 1) a0 a1) := by
  intro a0 a1 k
  have ih0 := spec_Leaves.mono_l k; unfold spec_Leaves.f
  repeat' first | (with_reducible first | exact ih0 _ _ _ _ _ | exact spec_Reach.mono _ _ _ | exact LeO.refl _ | exact LeO.none _ | refine LeO.ite ?_ ?_ | refine LeO.bind ?_ (fun _ => ?_)) | exact ih0 _ _ _ _ _ | exact spec_Reach.mono _ _ _ | exact LeO.none _ | refine LeO.ite ?_ ?_ | refine LeO.bind ?_ (fun _ => ?_)
set_option maxHeartbeats 8000000 in
set_option maxRecDepth 100000 in
theorem spec_Leaves.calls (k : Nat) (a0_0 : Int) (A0_1 : Option Addr) (c0_1 : Nat) (l0_1 : List (S90)) (r : List Int) (w : World) (hr0_1 : Kd.C k90 w A0_1 l0_1.length l0_1) (hc0_1 : l0_1.length ≤ c0_1) (h : spec_Leaves.f k a0_0 l0_1 = some r) :
    Calls Try.prog 136 #[.agg #[.int .i64 a0_0, .slice A0_1 l0_1.length c0_1]] w fun e w' => ∃ v0_ : Value, e = .returned (v0_) ∧ Kd.R (Kd.int .i64) 3 w' w.heap.size (fun _ => True) v0_ r ∧ Below w.heap.size w w' := by
  have hu49 := Try.underlying49; have HR0_1 := Aside0.mk hr0_1; have HC0_1 := Aside0.mk hc0_1; clear hr0_1 hc0_1; have HB := Aside0.mk (Below.refl w.heap.size w); have H : ((spec_Reach.f k a0_0 l0_1).bind fun t1023 => (spec_Leaves.l0 k (([] : List Int)) t1023 0 a0_0 l0_1)) = some r := h; clear h; obtain ⟨y1020, hy1020⟩ : ∃ y_ : List Int, y_ = (([] : List Int)) := ⟨_, rfl⟩
  replace H : ((spec_Reach.f k a0_0 l0_1).bind fun t1023 => (spec_Leaves.l0 k y1020 t1023 0 a0_0 l0_1)) = some r := by first | (rw [hy1020]; with_reducible exact H) | (have H2_ := (Option.bind_some _ _).symm.trans H; rw [hy1020]; with_reducible exact H2_) | (have H2_ := (Option.bind_some _ _).symm.trans H; with_reducible exact H2_) | with_reducible exact H | (rw [hy1020]; exact H) | exact H
  have Ny1020 := Aside0.mk hy1020; clear hy1020; replace H := Option.bind_eq_some_iff.mp H; obtain ⟨t1023, A20, H⟩ := H; replace H : (spec_Leaves.l0 k y1020 t1023 0 a0_0 l0_1) = some r := H; have A2 := Aside0.mk A20; clear A20; have H' := Aside0.mk H; clear H
  go_enter Try.func136, Try.ntmps136
  go_wp2_with (first | ((with_reducible refine gate_dst (N := 1) rfl ?_); refine box_event ?hg (N := 1) ?hd (cs := #[.int .i64 a0_0, .slice A0_1 l0_1.length c0_1]) (t := 49) ?hr ?_; (case hd => rfl); (case hg => rfl); (case hr => first | (go_simp; done) | (go_simp; rfl)); intro gb1019 hg w3 hbox hb; have n0_ := Aside0.mk (below_step (bz HB.out) hb); have n1_ := Aside0.mk (hbox); have n2_ := Aside0.mk ((by rw [hg]; exact (below_size (bz HB.out)) : w.heap.size ≤ gb1019)); have n3_ := Aside0.mk ((by rw [hg]; exact (below_size (bz HB.out)) : w.heap.size ≤ gb1019)); clear HB; have HB := n0_; have BK1019 := n1_; have GW1019 := n2_; have GE1019 := n3_; clear n0_ n1_ n2_ n3_; clear hb hbox hg) | ((with_reducible refine gate_dst (N := 6) rfl ?_); refine Kd.R_lit (Kd.int .i64) _ 3 ?hg (N := 6) ?hd (xs := ([] : List Int)) (inner := []) (ok := fun _ => True) (okp := fun _ => True) ?hr ?hp (fun _ hk => hk) trivial (Below.refl _ _) (Nat.le_refl _) (by simp) ?_; (case hd => rfl); (case hg => rfl); (case hr => first | (go_simp; done) | (go_simp; rfl)); (case hp => exact (Reps.none _ _)); intro v1021 w4 ho5 hb hg_ hnew_; clear hg_ hnew_; (first | rw [← Ny1020.out] at ho5 | (simp only [Int.reduceToNat] at ho5; rw [← Ny1020.out] at ho5)); have n0_ := Aside0.mk (Kd.R_lower ho5 (below_size (b1 GE1019.out HB.out))); have n1_ := Aside0.mk (blk_below (g := gb1019) (o := .cells #[.int .i64 a0_0, .slice A0_1 l0_1.length c0_1] 49 (0, 0)) (kz BK1019.out) hb); have n2_ := Aside0.mk (below_step (b1 GE1019.out HB.out) hb); clear BK1019; clear HB; have HO1022 := n0_; have BK1019 := n1_; have HB := n2_; clear n0_ n1_ n2_; clear hb ho5; have hcz6_0 := fz BK1019.out 0 (.int .i64 a0_0); have hcz6_1 := fz BK1019.out 1 (.slice A0_1 l0_1.length c0_1); have hfz6_0 := blk_frozen BK1019.out 0; have hfz6_1 := blk_frozen BK1019.out 1) | (go_at_call 85; (with_reducible refine (spec_Reach.calls k a0_0 _ _ l0_1 t1023 _ ?side1 ?side2 A2.out).mono ?_); (case side1 => exact sz HR0_1.out HB.out); (case side2 => exact HC0_1.out); rintro e w7 ⟨v1024, rfl, ho0, hb⟩; have n0_ := Aside0.mk (Kd.R_elder' (rz HO1022.out) (Kd.R_base ho0) hb); have n1_ := Aside0.mk (Kd.R_lower (Kd.R_new' ho0 (Kd.R_lt (rz HO1022.out))) (below_size (b1 GE1019.out HB.out))); have n2_ := Aside0.mk (blk_below (g := gb1019) (o := .cells #[.int .i64 a0_0, .slice A0_1 l0_1.length c0_1] 49 (0, 0)) (kz BK1019.out) hb); have n3_ := Aside0.mk (below_step (b1 GE1019.out HB.out) hb); clear HO1022; clear BK1019; clear HB; have HO1022 := n0_; have HO1025 := n1_; have BK1019 := n2_; have HB := n3_; clear n0_ n1_ n2_ n3_; (try clear hb); (try clear hb2); (try clear hk); (try clear hi); (try clear ho0)))
  repeat (go_quiet (first | ((with_reducible refine gate_dst (N := 1) rfl ?_); refine box_event ?hg (N := 1) ?hd (cs := #[.int .i64 a0_0, .slice A0_1 l0_1.length c0_1]) (t := 49) ?hr ?_; (case hd => rfl); (case hg => rfl); (case hr => first | (go_simp; done) | (go_simp; rfl)); intro gb1019 hg w3 hbox hb; have n0_ := Aside0.mk (below_step (bz HB.out) hb); have n1_ := Aside0.mk (hbox); have n2_ := Aside0.mk ((by rw [hg]; exact (below_size (bz HB.out)) : w.heap.size ≤ gb1019)); have n3_ := Aside0.mk ((by rw [hg]; exact (below_size (bz HB.out)) : w.heap.size ≤ gb1019)); clear HB; have HB := n0_; have BK1019 := n1_; have GW1019 := n2_; have GE1019 := n3_; clear n0_ n1_ n2_ n3_; clear hb hbox hg) | ((with_reducible refine gate_dst (N := 6) rfl ?_); refine Kd.R_lit (Kd.int .i64) _ 3 ?hg (N := 6) ?hd (xs := ([] : List Int)) (inner := []) (ok := fun _ => True) (okp := fun _ => True) ?hr ?hp (fun _ hk => hk) trivial (Below.refl _ _) (Nat.le_refl _) (by simp) ?_; (case hd => rfl); (case hg => rfl); (case hr => first | (go_simp; done) | (go_simp; rfl)); (case hp => exact (Reps.none _ _)); intro v1021 w4 ho5 hb hg_ hnew_; clear hg_ hnew_; (first | rw [← Ny1020.out] at ho5 | (simp only [Int.reduceToNat] at ho5; rw [← Ny1020.out] at ho5)); have n0_ := Aside0.mk (Kd.R_lower ho5 (below_size (b1 GE1019.out HB.out))); have n1_ := Aside0.mk (blk_below (g := gb1019) (o := .cells #[.int .i64 a0_0, .slice A0_1 l0_1.length c0_1] 49 (0, 0)) (kz BK1019.out) hb); have n2_ := Aside0.mk (below_step (b1 GE1019.out HB.out) hb); clear BK1019; clear HB; have HO1022 := n0_; have BK1019 := n1_; have HB := n2_; clear n0_ n1_ n2_; clear hb ho5; have hcz6_0 := fz BK1019.out 0 (.int .i64 a0_0); have hcz6_1 := fz BK1019.out 1 (.slice A0_1 l0_1.length c0_1); have hfz6_0 := blk_frozen BK1019.out 0; have hfz6_1 := blk_frozen BK1019.out 1) | (go_at_call 85; (with_reducible refine (spec_Reach.calls k a0_0 _ _ l0_1 t1023 _ ?side1 ?side2 A2.out).mono ?_); (case side1 => exact sz HR0_1.out HB.out); (case side2 => exact HC0_1.out); rintro e w7 ⟨v1024, rfl, ho0, hb⟩; have n0_ := Aside0.mk (Kd.R_elder' (rz HO1022.out) (Kd.R_base ho0) hb); have n1_ := Aside0.mk (Kd.R_lower (Kd.R_new' ho0 (Kd.R_lt (rz HO1022.out))) (below_size (b1 GE1019.out HB.out))); have n2_ := Aside0.mk (blk_below (g := gb1019) (o := .cells #[.int .i64 a0_0, .slice A0_1 l0_1.length c0_1] 49 (0, 0)) (kz BK1019.out) hb); have n3_ := Aside0.mk (below_step (b1 GE1019.out HB.out) hb); clear HO1022; clear BK1019; clear HB; have HO1022 := n0_; have HO1025 := n1_; have BK1019 := n2_; have HB := n3_; clear n0_ n1_ n2_ n3_; (try clear hb); (try clear hb2); (try clear hk); (try clear hi); (try clear ho0))); try go_wp2_with (first | ((with_reducible refine gate_dst (N := 1) rfl ?_); refine box_event ?hg (N := 1) ?hd (cs := #[.int .i64 a0_0, .slice A0_1 l0_1.length c0_1]) (t := 49) ?hr ?_; (case hd => rfl); (case hg => rfl); (case hr => first | (go_simp; done) | (go_simp; rfl)); intro gb1019 hg w3 hbox hb; have n0_ := Aside0.mk (below_step (bz HB.out) hb); have n1_ := Aside0.mk (hbox); have n2_ := Aside0.mk ((by rw [hg]; exact (below_size (bz HB.out)) : w.heap.size ≤ gb1019)); have n3_ := Aside0.mk ((by rw [hg]; exact (below_size (bz HB.out)) : w.heap.size ≤ gb1019)); clear HB; have HB := n0_; have BK1019 := n1_; have GW1019 := n2_; have GE1019 := n3_; clear n0_ n1_ n2_ n3_; clear hb hbox hg) | ((with_reducible refine gate_dst (N := 6) rfl ?_); refine Kd.R_lit (Kd.int .i64) _ 3 ?hg (N := 6) ?hd (xs := ([] : List Int)) (inner := []) (ok := fun _ => True) (okp := fun _ => True) ?hr ?hp (fun _ hk => hk) trivial (Below.refl _ _) (Nat.le_refl _) (by simp) ?_; (case hd => rfl); (case hg => rfl); (case hr => first | (go_simp; done) | (go_simp; rfl)); (case hp => exact (Reps.none _ _)); intro v1021 w4 ho5 hb hg_ hnew_; clear hg_ hnew_; (first | rw [← Ny1020.out] at ho5 | (simp only [Int.reduceToNat] at ho5; rw [← Ny1020.out] at ho5)); have n0_ := Aside0.mk (Kd.R_lower ho5 (below_size (b1 GE1019.out HB.out))); have n1_ := Aside0.mk (blk_below (g := gb1019) (o := .cells #[.int .i64 a0_0, .slice A0_1 l0_1.length c0_1] 49 (0, 0)) (kz BK1019.out) hb); have n2_ := Aside0.mk (below_step (b1 GE1019.out HB.out) hb); clear BK1019; clear HB; have HO1022 := n0_; have BK1019 := n1_; have HB := n2_; clear n0_ n1_ n2_; clear hb ho5; have hcz6_0 := fz BK1019.out 0 (.int .i64 a0_0); have hcz6_1 := fz BK1019.out 1 (.slice A0_1 l0_1.length c0_1); have hfz6_0 := blk_frozen BK1019.out 0; have hfz6_1 := blk_frozen BK1019.out 1) | (go_at_call 85; (with_reducible refine (spec_Reach.calls k a0_0 _ _ l0_1 t1023 _ ?side1 ?side2 A2.out).mono ?_); (case side1 => exact sz HR0_1.out HB.out); (case side2 => exact HC0_1.out); rintro e w7 ⟨v1024, rfl, ho0, hb⟩; have n0_ := Aside0.mk (Kd.R_elder' (rz HO1022.out) (Kd.R_base ho0) hb); have n1_ := Aside0.mk (Kd.R_lower (Kd.R_new' ho0 (Kd.R_lt (rz HO1022.out))) (below_size (b1 GE1019.out HB.out))); have n2_ := Aside0.mk (blk_below (g := gb1019) (o := .cells #[.int .i64 a0_0, .slice A0_1 l0_1.length c0_1] 49 (0, 0)) (kz BK1019.out) hb); have n3_ := Aside0.mk (below_step (b1 GE1019.out HB.out) hb); clear HO1022; clear BK1019; clear HB; have HO1022 := n0_; have HO1025 := n1_; have BK1019 := n2_; have HB := n3_; clear n0_ n1_ n2_ n3_; (try clear hb); (try clear hb2); (try clear hk); (try clear hi); (try clear ho0))))
  go_loopg [3, 5] k (fun kq v3 v5 w' => ∃ (x3_1 : List Int) (x5_1 : Int), v5 = .int .i64 x5_1 ∧ Aside0 (spec_Leaves.l0 kq x3_1 t1023 x5_1 a0_0 l0_1 = some r) ∧ Aside0 (kq ≤ k) ∧ Aside0 (Kd.R (Kd.int .i64) 3 w' w.heap.size (fun k_ => some k_ ≠ (v1024 : Value).ownBlock) v3 x3_1) ∧ Aside0 (Kd.R (Kd.int .i64) 3 w' w.heap.size (fun k_ => some k_ ≠ (v3 : Value).ownBlock) v1024 t1023) ∧ Aside0 (w'.heap[gb1019]? = some (.cells #[.int .i64 a0_0, (.slice A0_1 l0_1.length c0_1)] 49 (0, 0))) ∧ Aside0 (Below w.heap.size w w'))
  case atStart => exact ⟨(y1020), (0), az, H', ⟨Nat.le_refl _⟩, ⟨by (with_reducible repeat (first | apply Kd.R_alloc | apply Kd.R_drewN | apply Kd.R_drew)); exact Kd.R_mono HO1022.out (fun _ hk => hk.2)⟩, ⟨by (with_reducible repeat (first | apply Kd.R_alloc | apply Kd.R_drewN | apply Kd.R_drew)); exact Kd.R_mono HO1025.out (fun _ hk => hk.2)⟩, ⟨kz BK1019.out⟩, ⟨b1 GE1019.out HB.out⟩⟩
  case round =>
    clear H'; (try clear c1); (try clear p2); (try clear hcz6_0); (try clear hcz6_1); (try clear hfz6_0); (try clear hfz6_1); obtain ⟨x3_1, x5_1, rfl, HA, HK1, HO_3, HO_4, BK1019, HB⟩ := hrel
    cases gk with
    | zero => exact absurd HA.out (by simp [spec_Leaves.l0])
    | succ k1 =>
      have H := HA.out; clear HA
      simp only [spec_Leaves.l0] at H
      by_cases c8 : x5_1 < (t1023.length : Int)
      · rw [if_pos c8] at H
        have c8b0 : decide (x5_1 < (t1023.length : Int)) = true := decide_eq_true c8; clear c8
        by_cases c9 : 0 ≤ x5_1
        · rw [if_pos c9] at H
          have c9b0 : decide (0 ≤ x5_1) = true := decide_eq_true c9; clear c9
          by_cases c10 : 0 ≤ (rd t1023 x5_1)
          · rw [if_pos c10] at H
            have c10b0 : decide (0 ≤ (rd t1023 x5_1)) = true := decide_eq_true c10; clear c10
            by_cases c11 : (rd t1023 x5_1) < (l0_1.length : Int)
            · rw [if_pos c11] at H
              have c11b0 : decide ((rd t1023 x5_1) < (l0_1.length : Int)) = true := decide_eq_true c11; clear c11; obtain ⟨bq12, hbq12⟩ : ∃ b_ : Bool, b_ = ((rd_T90 l0_1 (rd t1023 x5_1)).f1.f0) := ⟨_, rfl⟩
              replace H : (if bq12 = true then (if x3_1.length < 17592186044416 then (spec_Leaves.l0 k1 (x3_1 ++ [rd t1023 x5_1]) t1023 (wrap64 (x5_1 + 1)) a0_0 l0_1) else (none)) else (spec_Leaves.l0 k1 x3_1 t1023 (wrap64 (x5_1 + 1)) a0_0 l0_1)) = some r := by rw [← hbq12] at H; exact H
              have Nbq12 := Aside0.mk hbq12; clear hbq12
              by_cases c13 : bq12 = true
              · subst c13
                replace H : (if x3_1.length < 17592186044416 then (spec_Leaves.l0 k1 (x3_1 ++ [rd t1023 x5_1]) t1023 (wrap64 (x5_1 + 1)) a0_0 l0_1) else (none)) = some r := (by rw [if_pos rfl] at H; exact H)
                by_cases c14 : x3_1.length < 17592186044416
                · rw [if_pos c14] at H
                  have LMc14 := Aside0.mk c14; clear c14; obtain ⟨y1029, hy1029⟩ : ∃ y_ : List Int, y_ = (x3_1 ++ [rd t1023 x5_1]) := ⟨_, rfl⟩
                  replace H : (spec_Leaves.l0 k1 y1029 t1023 (wrap64 (x5_1 + 1)) a0_0 l0_1) = some r := by first | (rw [hy1029]; with_reducible exact H) | (have H2_ := (Option.bind_some _ _).symm.trans H; rw [hy1029]; with_reducible exact H2_) | (have H2_ := (Option.bind_some _ _).symm.trans H; with_reducible exact H2_) | with_reducible exact H | (rw [hy1029]; exact H) | exact H
                  have Ny1029 := Aside0.mk hy1029; clear hy1029; have H' := Aside0.mk H; clear H; obtain ⟨Ao15, co15, eo15⟩ := Kd.R_slice HO_4.out; subst eo15; have hcz16_0 := fz BK1019.out 0 (.int .i64 a0_0); have hcz16_1 := fz BK1019.out 1 (.slice A0_1 l0_1.length c0_1); have hfz16_0 := blk_frozen BK1019.out 0; have hfz16_1 := blk_frozen BK1019.out 1; have p1026 : 0 ≤ (x5_1 : Int) := of_decide_eq_true uz; have q1026 : x5_1 < (t1023.length : Int) := of_decide_eq_true uz; obtain ⟨ad1026, e1026, hx1026_0⟩ := Kd.at_int (Kd.R_reads' HO_4.out).2.2 x5_1 p1026 q1026
                  cases e1026
                  replace p1026 := eq_true p1026; replace q1026 := eq_true q1026; have p1027 : 0 ≤ ((rd t1023 x5_1) : Int) := of_decide_eq_true uz; have q1027 : (rd t1023 x5_1) < (l0_1.length : Int) := of_decide_eq_true uz; obtain ⟨ad1027, A1027_2, c1027_2, e1027, hx1027_0, hx1027_1, hx1027_2, hl1027_2, hi1027_2⟩ := at_T90 HR0_1.out (rd t1023 x5_1) p1027 q1027
                  (try rw [← Nbq12.out] at hx1027_0)
                  (try rw [← Nbq12.out] at hx1027_1)
                  cases e1027
                  replace hx1027_0 := cz HB.out hx1027_0; replace hx1027_1 := cz HB.out hx1027_1; replace hx1027_2 := cz HB.out hx1027_2; have HR1027_2 := Aside0.mk hi1027_2; have HC1027_2 := Aside0.mk hl1027_2; clear hi1027_2 hl1027_2; replace p1027 := eq_true p1027; replace q1027 := eq_true q1027; have p1028 : 0 ≤ (x5_1 : Int) := of_decide_eq_true uz; have q1028 : x5_1 < (t1023.length : Int) := of_decide_eq_true uz; obtain ⟨ad1028, e1028, hx1028_0⟩ := Kd.at_int (Kd.R_reads' HO_4.out).2.2 x5_1 p1028 q1028; obtain rfl : ad1026 = ad1028 := (by injection e1028); replace p1028 := eq_true p1028; replace q1028 := eq_true q1028
                  go_wp2_with (first | ((with_reducible refine gate_builtin (b := .append) (xs := #[.tmp 25, .tmp 30]) rfl ?_); at_builtin; refine Kd.R_append (Kd.int .i64) (w0 := w) w.heap.size rfl (.tmp 25) (.tmp 30) 64 3 (.int .i64 0) 8 rfl Try.underlying64 info3 rfl (by decide) (by omega) u3 x3_1 (rd t1023 x5_1) [.int .i64 (rd t1023 x5_1)] (fun k_ => some k_ ≠ (.slice (some ad1026) t1023.length co15 : Value).ownBlock) (fun _ => False) rfl rfl ?aP (fun _ hk => hk.elim) ?aF ?aO ?aB ?aS ?aL ?_; (case aP => exact rfl); (case aB => exact (b1 GE1019.out HB.out)); (case aF => exact (fun k_ hk => Kd.fresh' (Kd.R_lt (rz HO_4.out)) k_ hk)); (case aO => exact (rz HO_3.out)); (case aS => exact (below_size (b1 GE1019.out HB.out))); (case aL => have := LMc14.out; omega); intro v1030 w17 ho hb hg hat; rw [← Ny1029.out] at ho; have n0_ := Aside0.mk (Kd.R_after (ok := (fun _ => True)) (by (with_reducible repeat (first | apply Kd.R_alloc | apply Kd.R_drewN | apply Kd.R_drew)); exact Kd.R_mono HO_4.out (fun _ hk => ⟨trivial, hk⟩)) hg hat); have n1_ := Aside0.mk (blk_grown (g := gb1019) (o := .cells #[.int .i64 a0_0, .slice (some ad1027) l0_1.length c0_1] 49 (0, 0)) (kz BK1019.out) hg (Kd.R_ne HO_3.out BK1019.out (by decide))); have n2_ := Aside0.mk (hb); have n3_ := Aside0.mk (ho); clear HO_4; clear BK1019; clear HB; clear HO_3; have HO_4 := n0_; have BK1019 := n1_; have HB := n2_; have HO1031 := n3_; clear n0_ n1_ n2_ n3_; clear ho hb hg hat))
                  repeat (go_quiet (first | ((with_reducible refine gate_builtin (b := .append) (xs := #[.tmp 25, .tmp 30]) rfl ?_); at_builtin; refine Kd.R_append (Kd.int .i64) (w0 := w) w.heap.size rfl (.tmp 25) (.tmp 30) 64 3 (.int .i64 0) 8 rfl Try.underlying64 info3 rfl (by decide) (by omega) u3 x3_1 (rd t1023 x5_1) [.int .i64 (rd t1023 x5_1)] (fun k_ => some k_ ≠ (.slice (some ad1026) t1023.length co15 : Value).ownBlock) (fun _ => False) rfl rfl ?aP (fun _ hk => hk.elim) ?aF ?aO ?aB ?aS ?aL ?_; (case aP => exact rfl); (case aB => exact (b1 GE1019.out HB.out)); (case aF => exact (fun k_ hk => Kd.fresh' (Kd.R_lt (rz HO_4.out)) k_ hk)); (case aO => exact (rz HO_3.out)); (case aS => exact (below_size (b1 GE1019.out HB.out))); (case aL => have := LMc14.out; omega); intro v1030 w17 ho hb hg hat; rw [← Ny1029.out] at ho; have n0_ := Aside0.mk (Kd.R_after (ok := (fun _ => True)) (by (with_reducible repeat (first | apply Kd.R_alloc | apply Kd.R_drewN | apply Kd.R_drew)); exact Kd.R_mono HO_4.out (fun _ hk => ⟨trivial, hk⟩)) hg hat); have n1_ := Aside0.mk (blk_grown (g := gb1019) (o := .cells #[.int .i64 a0_0, .slice (some ad1027) l0_1.length c0_1] 49 (0, 0)) (kz BK1019.out) hg (Kd.R_ne HO_3.out BK1019.out (by decide))); have n2_ := Aside0.mk (hb); have n3_ := Aside0.mk (ho); clear HO_4; clear BK1019; clear HB; clear HO_3; have HO_4 := n0_; have BK1019 := n1_; have HB := n2_; have HO1031 := n3_; clear n0_ n1_ n2_ n3_; clear ho hb hg hat)); try go_wp2_with (first | ((with_reducible refine gate_builtin (b := .append) (xs := #[.tmp 25, .tmp 30]) rfl ?_); at_builtin; refine Kd.R_append (Kd.int .i64) (w0 := w) w.heap.size rfl (.tmp 25) (.tmp 30) 64 3 (.int .i64 0) 8 rfl Try.underlying64 info3 rfl (by decide) (by omega) u3 x3_1 (rd t1023 x5_1) [.int .i64 (rd t1023 x5_1)] (fun k_ => some k_ ≠ (.slice (some ad1026) t1023.length co15 : Value).ownBlock) (fun _ => False) rfl rfl ?aP (fun _ hk => hk.elim) ?aF ?aO ?aB ?aS ?aL ?_; (case aP => exact rfl); (case aB => exact (b1 GE1019.out HB.out)); (case aF => exact (fun k_ hk => Kd.fresh' (Kd.R_lt (rz HO_4.out)) k_ hk)); (case aO => exact (rz HO_3.out)); (case aS => exact (below_size (b1 GE1019.out HB.out))); (case aL => have := LMc14.out; omega); intro v1030 w17 ho hb hg hat; rw [← Ny1029.out] at ho; have n0_ := Aside0.mk (Kd.R_after (ok := (fun _ => True)) (by (with_reducible repeat (first | apply Kd.R_alloc | apply Kd.R_drewN | apply Kd.R_drew)); exact Kd.R_mono HO_4.out (fun _ hk => ⟨trivial, hk⟩)) hg hat); have n1_ := Aside0.mk (blk_grown (g := gb1019) (o := .cells #[.int .i64 a0_0, .slice (some ad1027) l0_1.length c0_1] 49 (0, 0)) (kz BK1019.out) hg (Kd.R_ne HO_3.out BK1019.out (by decide))); have n2_ := Aside0.mk (hb); have n3_ := Aside0.mk (ho); clear HO_4; clear BK1019; clear HB; clear HO_3; have HO_4 := n0_; have BK1019 := n1_; have HB := n2_; have HO1031 := n3_; clear n0_ n1_ n2_ n3_; clear ho hb hg hat)))
                  go_roundg k1
                  case measure => have := HK1.out; omega
                  case rel => exact ⟨(y1029), (wrap64 (x5_1 + 1)), az, H', ⟨by have := HK1.out; omega⟩, ⟨rz HO1031.out⟩, ⟨by (with_reducible repeat (first | apply Kd.R_alloc | apply Kd.R_drewN | apply Kd.R_drew)); exact Kd.R_mono HO_4.out (fun _ hk => hk.2)⟩, ⟨kz BK1019.out⟩, ⟨b1 GE1019.out HB.out⟩⟩
                · rw [if_neg c14] at H
                  exact absurd H (by simp)
              · replace c13 := Bool.eq_false_iff.mpr c13
                subst c13; replace H : (spec_Leaves.l0 k1 x3_1 t1023 (wrap64 (x5_1 + 1)) a0_0 l0_1) = some r := (by rw [if_neg (show ¬ (false = true) by decide)] at H; exact H); have H' := Aside0.mk H; clear H; obtain ⟨Ao18, co18, eo18⟩ := Kd.R_slice HO_4.out; subst eo18; have hcz19_0 := fz BK1019.out 0 (.int .i64 a0_0); have hcz19_1 := fz BK1019.out 1 (.slice A0_1 l0_1.length c0_1); have hfz19_0 := blk_frozen BK1019.out 0; have hfz19_1 := blk_frozen BK1019.out 1; have p1026 : 0 ≤ (x5_1 : Int) := of_decide_eq_true uz; have q1026 : x5_1 < (t1023.length : Int) := of_decide_eq_true uz; obtain ⟨ad1026, e1026, hx1026_0⟩ := Kd.at_int (Kd.R_reads' HO_4.out).2.2 x5_1 p1026 q1026
                cases e1026
                replace p1026 := eq_true p1026; replace q1026 := eq_true q1026; have p1027 : 0 ≤ ((rd t1023 x5_1) : Int) := of_decide_eq_true uz; have q1027 : (rd t1023 x5_1) < (l0_1.length : Int) := of_decide_eq_true uz; obtain ⟨ad1027, A1027_2, c1027_2, e1027, hx1027_0, hx1027_1, hx1027_2, hl1027_2, hi1027_2⟩ := at_T90 HR0_1.out (rd t1023 x5_1) p1027 q1027
                (try rw [← Nbq12.out] at hx1027_0)
                (try rw [← Nbq12.out] at hx1027_1)
                cases e1027
                replace hx1027_0 := cz HB.out hx1027_0; replace hx1027_1 := cz HB.out hx1027_1; replace hx1027_2 := cz HB.out hx1027_2; have HR1027_2 := Aside0.mk hi1027_2; have HC1027_2 := Aside0.mk hl1027_2; clear hi1027_2 hl1027_2; replace p1027 := eq_true p1027; replace q1027 := eq_true q1027; go_wp2
                repeat (go_quiet (fail); try go_wp2)
                go_roundg k1
                case measure => have := HK1.out; omega
                case rel => exact ⟨(x3_1), (wrap64 (x5_1 + 1)), az, H', ⟨by have := HK1.out; omega⟩, ⟨rz HO_3.out⟩, ⟨rz HO_4.out⟩, ⟨kz BK1019.out⟩, ⟨b1 GE1019.out HB.out⟩⟩
            · rw [if_neg c11] at H
              exact absurd H (by simp)
          · rw [if_neg c10] at H
            exact absurd H (by simp)
        · rw [if_neg c9] at H
          exact absurd H (by simp)
      · rw [if_neg c8] at H
        have c8b0 : decide (x5_1 < (t1023.length : Int)) = false := decide_eq_false c8; clear c8; obtain rfl := Option.some.inj H; obtain ⟨Ao20, co20, eo20⟩ := Kd.R_slice HO_4.out; subst eo20; go_wp2
        repeat (go_quiet (fail); try go_wp2)
        go_ret; exact ⟨_, by first | rfl | (simp [errW_none, errW_some] <;> rfl) | (simp [*, errW_none, errW_some] <;> rfl), by (with_reducible repeat (first | apply Kd.R_alloc | apply Kd.R_drewN | apply Kd.R_drew)); exact Kd.R_mono HO_3.out (fun _ hk => trivial), b1 GE1019.out HB.out⟩

attribute [local go_sem] max2_int min2_int max_two min_two max_three min_three max_four min_four 
set_option linter.unusedVariables false
set_option linter.unusedSimpArgs false

/-! ### spec_ItemsOf: function 137 -/
def spec_ItemsOf.l0 : Nat → List (S34) → Int → Bool → List (S103) → Option ((List (S34)))
  | 0, _, _, _, _ => none
  | k + 1, x3, x4, x1033000, x1033001 => if x4 < (x1033001.length : Int) then (if x1033000 = true then (if 0 ≤ x4 then (if x3.length < 3518437208883 then (spec_ItemsOf.l0 k (x3 ++ [(⟨(rd_T103 x1033001 x4).f0, (⟨(rd_T103 x1033001 x4).f1.f0, (rd_T103 x1033001 x4).f1.f1, (rd_T103 x1033001 x4).f1.f2, (rd_T103 x1033001 x4).f1.f3⟩ : S32)⟩ : S34)]) (wrap64 (x4 + 1)) x1033000 x1033001) else (none)) else (none)) else (some x3)) else (some x3)
def spec_ItemsOf.f (k : Nat) (a0_0 : Bool) (l0_1 : List (S103)) : Option ((List (S34))) := spec_ItemsOf.l0 k (([] : List (S34))) 0 a0_0 l0_1
theorem spec_ItemsOf.mono_l : ∀ k, (∀ y0 y1 y2 y3, LeO (spec_ItemsOf.l0 k y0 y1 y2 y3) (spec_ItemsOf.l0 (k + 1) y0 y1 y2 y3))
  | 0 => fun _ _ _ _ r h => by simp [spec_ItemsOf.l0] at h
  | k + 1 => by
    have ih0 := spec_ItemsOf.mono_l k
    · intro y0 y1 y2 y3
      unfold spec_ItemsOf.l0
      repeat' first | (with_reducible first | exact ih0 _ _ _ _ | exact LeO.refl _ | exact LeO.none _ | refine LeO.ite ?_ ?_ | refine LeO.bind ?_ (fun _ => ?_)) | exact ih0 _ _ _ _ | exact LeO.none _ | refine LeO.ite ?_ ?_ | refine LeO.bind ?_ (fun _ => ?_)
theorem spec_ItemsOf.mono : ∀ a0 a1 k, LeO (spec_ItemsOf.f k a0 a1) (spec_ItemsOf.f (k + 1) a0 a1) := by
  intro a0 a1 k
  have ih0 := spec_ItemsOf.mono_l k; unfold spec_ItemsOf.f
  repeat' first | (with_reducible first | exact ih0 _ _ _ _ | exact LeO.refl _ | exact LeO.none _ | refine LeO.ite ?_ ?_ | refine LeO.bind ?_ (fun _ => ?_)) | exact ih0 _ _ _ _ | exact LeO.none _ | refine LeO.ite ?_ ?_ | refine LeO.bind ?_ (fun _ => ?_)
def spec_ItemsOf.T5 : Bool × List (List Nat × List Nat) := (true, [([], []), ([], []), ([1], [1]), ([], []), ([2, 3], [2, 3]), ([4], [4]), ([5], [5]), ([], []), ([7], [7]), ([], []), ([8, 9], [8, 9]), ([10], [10]), ([11], [11]), ([6, 12], [6, 12]), ([13], [13]), ([0, 14], [0, 14]), ([15, 15, 0, 1, 2, 3, 4, 5, 6, 7, 8, 9, 10, 11, 12, 13, 14, 15], [0, 15])])
def spec_ItemsOf.B5 : List Nat := [0, 0, 2, 0, 14, 30, 62, 0, 128, 0, 896, 1920, 3968, 8190, 16382, 32767, 65535]
theorem spec_ItemsOf.tab5 : rtab .any (opsOf Try.f137 5) = spec_ItemsOf.T5 := by kernel_rfl
theorem spec_ItemsOf.bits5 : waitsOk spec_ItemsOf.T5.2 spec_ItemsOf.B5 = true := by kernel_rfl
set_option maxHeartbeats 8000000 in
set_option maxRecDepth 100000 in
theorem spec_ItemsOf.calls (k : Nat) (a0_0 : Bool) (A0_1 : Option Addr) (c0_1 : Nat) (l0_1 : List (S103)) (r : List (S34)) (w : World) (hr0_1 : Kd.C k103 w A0_1 l0_1.length l0_1) (hc0_1 : l0_1.length ≤ c0_1) (h : spec_ItemsOf.f k a0_0 l0_1 = some r) :
    Calls Try.prog 137 #[.agg #[.bool a0_0, .slice A0_1 l0_1.length c0_1]] w fun e w' => ∃ v0_ : Value, e = .returned (v0_) ∧ Kd.R k34 34 w' w.heap.size (fun _ => True) v0_ r ∧ Below w.heap.size w w' := by
  have hu54 := Try.underlying54; have hu32 := Try.underlying32; have hu34 := Try.underlying34; have HR0_1 := Aside0.mk hr0_1; have HC0_1 := Aside0.mk hc0_1; clear hr0_1 hc0_1; have HB := Aside0.mk (Below.refl w.heap.size w); have H : (spec_ItemsOf.l0 k (([] : List (S34))) 0 a0_0 l0_1) = some r := h; clear h; obtain ⟨y1033, hy1033⟩ : ∃ y_ : List (S34), y_ = (([] : List (S34))) := ⟨_, rfl⟩
  replace H : (spec_ItemsOf.l0 k y1033 0 a0_0 l0_1) = some r := by first | (rw [hy1033]; with_reducible exact H) | (have H2_ := (Option.bind_some _ _).symm.trans H; rw [hy1033]; with_reducible exact H2_) | (have H2_ := (Option.bind_some _ _).symm.trans H; with_reducible exact H2_) | with_reducible exact H | (rw [hy1033]; exact H) | exact H
  have Ny1033 := Aside0.mk hy1033; clear hy1033; have H' := Aside0.mk H; clear H
  go_enter Try.func137, Try.ntmps137
  go_wp2_with (first | ((with_reducible refine gate_dst (N := 1) rfl ?_); refine box_event ?hg (N := 1) ?hd (cs := #[.bool a0_0, .slice A0_1 l0_1.length c0_1]) (t := 54) ?hr ?_; (case hd => rfl); (case hg => rfl); (case hr => first | (go_simp; done) | (go_simp; rfl)); intro gb1032 hg w2 hbox hb; have n0_ := Aside0.mk (below_step (bz HB.out) hb); have n1_ := Aside0.mk (hbox); have n2_ := Aside0.mk ((by rw [hg]; exact (below_size (bz HB.out)) : w.heap.size ≤ gb1032)); have n3_ := Aside0.mk ((by rw [hg]; exact (below_size (bz HB.out)) : w.heap.size ≤ gb1032)); clear HB; have HB := n0_; have BK1032 := n1_; have GW1032 := n2_; have GE1032 := n3_; clear n0_ n1_ n2_ n3_; clear hb hbox hg) | ((with_reducible refine gate_dst (N := 5) rfl ?_); refine Kd.R_lit k34 _ 34 ?hg (N := 5) ?hd (xs := ([] : List (S34))) (inner := []) (ok := fun _ => True) (okp := fun _ => True) ?hr ?hp (fun _ hk => hk) trivial (Below.refl _ _) (Nat.le_refl _) (by simp) ?_; (case hd => rfl); (case hg => rfl); (case hr => first | (go_simp; done) | (go_simp; rfl)); (case hp => exact (Reps.none _ _)); intro v1034 w3 ho4 hb hg_ hnew_; clear hg_ hnew_; (first | rw [← Ny1033.out] at ho4 | (simp only [Int.reduceToNat] at ho4; rw [← Ny1033.out] at ho4)); have n0_ := Aside0.mk (Kd.R_lower ho4 (below_size (b1 GE1032.out HB.out))); have n1_ := Aside0.mk (blk_below (g := gb1032) (o := .cells #[.bool a0_0, .slice A0_1 l0_1.length c0_1] 54 (0, 0)) (kz BK1032.out) hb); have n2_ := Aside0.mk (below_step (b1 GE1032.out HB.out) hb); clear BK1032; clear HB; have HO1035 := n0_; have BK1032 := n1_; have HB := n2_; clear n0_ n1_ n2_; clear hb ho4))
  go_loopg [3, 4] k (fun kq v3 v4 w' => ∃ (x3_1 : List (S34)) (x4_1 : Int), v4 = .int .i64 x4_1 ∧ Aside0 (spec_ItemsOf.l0 kq x3_1 x4_1 a0_0 l0_1 = some r) ∧ Aside0 (kq ≤ k) ∧ Aside0 (Kd.R k34 34 w' w.heap.size (fun _ => True) v3 x3_1) ∧ Aside0 (w'.heap[gb1032]? = some (.cells #[.bool a0_0, (.slice A0_1 l0_1.length c0_1)] 54 (0, 0))) ∧ Aside0 (Below w.heap.size w w'))
  case atStart => exact ⟨(y1033), (0), az, H', ⟨Nat.le_refl _⟩, ⟨rz HO1035.out⟩, ⟨kz BK1032.out⟩, ⟨b1 GE1032.out HB.out⟩⟩
  case round =>
    clear H'; (try clear c1); (try clear p2); obtain ⟨x3_1, x4_1, rfl, HA, HK1, HO_3, BK1032, HB⟩ := hrel
    cases gk with
    | zero => exact absurd HA.out (by simp [spec_ItemsOf.l0])
    | succ k1 =>
      have H := HA.out; clear HA
      simp only [spec_ItemsOf.l0] at H
      by_cases c5 : x4_1 < (l0_1.length : Int)
      · rw [if_pos c5] at H
        have c5b0 : decide (x4_1 < (l0_1.length : Int)) = true := decide_eq_true c5; clear c5
        by_cases c6 : a0_0 = true
        · subst c6
          replace H : (if 0 ≤ x4_1 then (if x3_1.length < 3518437208883 then (spec_ItemsOf.l0 k1 (x3_1 ++ [(⟨(rd_T103 l0_1 x4_1).f0, (⟨(rd_T103 l0_1 x4_1).f1.f0, (rd_T103 l0_1 x4_1).f1.f1, (rd_T103 l0_1 x4_1).f1.f2, (rd_T103 l0_1 x4_1).f1.f3⟩ : S32)⟩ : S34)]) (wrap64 (x4_1 + 1)) true l0_1) else (none)) else (none)) = some r := (by rw [if_pos rfl] at H; exact H)
          by_cases c7 : 0 ≤ x4_1
          · rw [if_pos c7] at H
            have c7b0 : decide (0 ≤ x4_1) = true := decide_eq_true c7; clear c7
            by_cases c8 : x3_1.length < 3518437208883
            · rw [if_pos c8] at H
              have LMc8 := Aside0.mk c8; clear c8; obtain ⟨y1038, hy1038⟩ : ∃ y_ : List (S34), y_ = (x3_1 ++ [(⟨(rd_T103 l0_1 x4_1).f0, (⟨(rd_T103 l0_1 x4_1).f1.f0, (rd_T103 l0_1 x4_1).f1.f1, (rd_T103 l0_1 x4_1).f1.f2, (rd_T103 l0_1 x4_1).f1.f3⟩ : S32)⟩ : S34)]) := ⟨_, rfl⟩
              replace H : (spec_ItemsOf.l0 k1 y1038 (wrap64 (x4_1 + 1)) true l0_1) = some r := by first | (rw [hy1038]; with_reducible exact H) | (have H2_ := (Option.bind_some _ _).symm.trans H; rw [hy1038]; with_reducible exact H2_) | (have H2_ := (Option.bind_some _ _).symm.trans H; with_reducible exact H2_) | with_reducible exact H | (rw [hy1038]; exact H) | exact H
              have Ny1038 := Aside0.mk hy1038; clear hy1038; have H' := Aside0.mk H; clear H; have hcz9_0 := fz BK1032.out 0 (.bool true); have hcz9_1 := fz BK1032.out 1 (.slice A0_1 l0_1.length c0_1); have hfz9_0 := blk_frozen BK1032.out 0; have hfz9_1 := blk_frozen BK1032.out 1
              try go_wp2
              have n0_ := Aside0.mk (Kd.R_drew HO_3.out); have n1_ := Aside0.mk (blk_drew BK1032.out); have n2_ := Aside0.mk (below_drew1 HB.out); clear HO_3; clear BK1032; clear HB; have HO_3 := n0_; have BK1032 := n1_; have HB := n2_; clear n0_ n1_ n2_; have p1036 : 0 ≤ (x4_1 : Int) := of_decide_eq_true uz; have q1036 : x4_1 < (l0_1.length : Int) := of_decide_eq_true uz; obtain ⟨ad1036, e1036, hx1036_0, hx1036_1, hx1036_2, hx1036_3, hx1036_4⟩ := at_T103 HR0_1.out x4_1 p1036 q1036; have hw1036_4 := hx1036_4; have hw1036_3 := hx1036_3; have hw1036_2 := hx1036_2; have hw1036_1 := hx1036_1; have hw1036_0 := hx1036_0
              cases e1036
              replace hx1036_0 := cz HB.out hx1036_0; replace hx1036_1 := cz HB.out hx1036_1; replace hx1036_2 := cz HB.out hx1036_2; replace hx1036_3 := cz HB.out hx1036_3; replace hx1036_4 := cz HB.out hx1036_4; replace p1036 := eq_true p1036; replace q1036 := eq_true q1036; have p1037 : 0 ≤ (x4_1 : Int) := of_decide_eq_true uz; have q1037 : x4_1 < (l0_1.length : Int) := of_decide_eq_true uz; obtain ⟨ad1037, e1037, hx1037_0, hx1037_1, hx1037_2, hx1037_3, hx1037_4⟩ := at_T103 HR0_1.out x4_1 p1037 q1037; have hw1037_4 := hx1037_4; have hw1037_3 := hx1037_3; have hw1037_2 := hx1037_2; have hw1037_1 := hx1037_1; have hw1037_0 := hx1037_0; obtain rfl : ad1036 = ad1037 := (by injection e1037); replace hx1037_0 := cz HB.out hx1037_0; replace hx1037_1 := cz HB.out hx1037_1; replace hx1037_2 := cz HB.out hx1037_2; replace hx1037_3 := cz HB.out hx1037_3; replace hx1037_4 := cz HB.out hx1037_4; replace p1037 := eq_true p1037; replace q1037 := eq_true q1037
              refine start_ (n := 17) (S := fun w' => w'.cell? ⟨gb1032, 0, none⟩ = some (.bool true) ∧ w'.cell? ⟨gb1032, 1, none⟩ = some (.slice (some ad1036) l0_1.length c0_1) ∧ w'.cell? (ad1036.add ((x4_1).toNat * 5)) = some (.int .i64 ((rd_T103 l0_1 x4_1).f0)) ∧ w'.cell? ⟨(ad1036.add ((x4_1).toNat * 5)).block, (ad1036.add ((x4_1).toNat * 5)).off + 1, none⟩ = some (.int .i64 ((rd_T103 l0_1 x4_1).f1.f0)) ∧ w'.cell? ⟨(ad1036.add ((x4_1).toNat * 5)).block, (ad1036.add ((x4_1).toNat * 5)).off + 2, none⟩ = some (.int .i64 ((rd_T103 l0_1 x4_1).f1.f1)) ∧ w'.cell? ⟨(ad1036.add ((x4_1).toNat * 5)).block, (ad1036.add ((x4_1).toNat * 5)).off + 3, none⟩ = some (.int .i64 ((rd_T103 l0_1 x4_1).f1.f2)) ∧ w'.cell? ⟨(ad1036.add ((x4_1).toNat * 5)).block, (ad1036.add ((x4_1).toNat * 5)).off + 4, none⟩ = some (.int .i64 ((rd_T103 l0_1 x4_1).f1.f3)) ∧ w'.cell? (ad1036.add ((x4_1).toNat * 5)) = some (.int .i64 ((rd_T103 l0_1 x4_1).f0)) ∧ w'.cell? ⟨(ad1036.add ((x4_1).toNat * 5)).block, (ad1036.add ((x4_1).toNat * 5)).off + 1, none⟩ = some (.int .i64 ((rd_T103 l0_1 x4_1).f1.f0)) ∧ w'.cell? ⟨(ad1036.add ((x4_1).toNat * 5)).block, (ad1036.add ((x4_1).toNat * 5)).off + 2, none⟩ = some (.int .i64 ((rd_T103 l0_1 x4_1).f1.f1)) ∧ w'.cell? ⟨(ad1036.add ((x4_1).toNat * 5)).block, (ad1036.add ((x4_1).toNat * 5)).off + 3, none⟩ = some (.int .i64 ((rd_T103 l0_1 x4_1).f1.f2)) ∧ w'.cell? ⟨(ad1036.add ((x4_1).toNat * 5)).block, (ad1036.add ((x4_1).toNat * 5)).off + 4, none⟩ = some (.int .i64 ((rd_T103 l0_1 x4_1).f1.f3))) (ds := []) #[false, false, false, false, false, false, false, false, false, false, false, false, false, false, false, false, false] (by kernel_rfl) rfl rfl ⟨(blk_cell BK1032.out 0).trans rfl, (blk_cell BK1032.out 1).trans rfl, (cz HB.out hw1036_0 :), (cz HB.out hw1036_1 :), (cz HB.out hw1036_2 :), (cz HB.out hw1036_3 :), (cz HB.out hw1036_4 :), (cz HB.out hw1037_0 :), (cz HB.out hw1037_1 :), (cz HB.out hw1037_2 :), (cz HB.out hw1037_3 :), (cz HB.out hw1037_4 :)⟩ (fun hHeld => ?_); refine with_tabW spec_ItemsOf.tab5 spec_ItemsOf.bits5 (fun HT_ HW_ => ?_)
              generalize wr.drew = w10 at HO_3 BK1032 HB hx1036_0 hx1036_1 hx1036_2 hx1036_3 hx1036_4 hx1037_0 hx1037_1 hx1037_2 hx1037_3 hx1037_4 hHeld ⊢
              refine pure_ (i := 0) (N := some 17) (v := ?_) (a' := ?_) #[true, false, false, false, false, false, false, false, false, false, false, false, false, false, false, false, false] rfl rfl (any_of HT_.out (by kernel_rfl)) (fun _ _ _ h => h) (Or.inl ⟨by rfl, ?_⟩) ?_ ?_; rotate_left
              · intro w'
                go_simp
                with_reducible rfl
              rotate_left
              · exact pz
              refine pure_ (i := 1) (N := some 18) (v := ?_) (a' := ?_) #[true, true, false, false, false, false, false, false, false, false, false, false, false, false, false, false, false] rfl rfl (any_of HT_.out (by kernel_rfl)) (fun _ _ _ h => h) (Or.inl ⟨by rfl, ?_⟩) ?_ ?_; rotate_left
              · intro w'
                go_simp
                with_reducible rfl
              rotate_left
              · exact pz
              refine pure_ (i := 3) (N := some 20) (v := ?_) (a' := ?_) #[true, true, false, true, false, false, false, false, false, false, false, false, false, false, false, false, false] rfl rfl (any_of HT_.out (by kernel_rfl)) (fun _ _ _ h => h) (Or.inl ⟨by rfl, ?_⟩) ?_ ?_; rotate_left
              · intro w'
                go_simp
                with_reducible rfl
              rotate_left
              · exact pz
              refine pure_ (i := 7) (N := some 24) (v := ?_) (a' := ?_) #[true, true, false, true, false, false, false, true, false, false, false, false, false, false, false, false, false] rfl rfl (any_of HT_.out (by kernel_rfl)) (fun _ _ _ h => h) (Or.inl ⟨by rfl, ?_⟩) ?_ ?_; rotate_left
              · intro w'
                go_simp
                with_reducible rfl
              rotate_left
              · exact pz
              refine pure_ (i := 9) (N := some 26) (v := ?_) (a' := ?_) #[true, true, false, true, false, false, false, true, false, true, false, false, false, false, false, false, false] rfl rfl (any_of HT_.out (by kernel_rfl)) (fun _ _ _ h => h) (Or.inl ⟨by rfl, ?_⟩) ?_ ?_; rotate_left
              · intro w'
                go_simp
                with_reducible rfl
              rotate_left
              · exact pz
              refine take_ (i := 2) (N := some 19) (v := ?_) (a' := ?_) #[true, true, true, true, false, false, false, true, false, true, false, false, false, false, false, false, false] rfl rfl (take_ofW HT_.out HW_.out (by kernel_rfl)) (fun _ _ _ h => h) (Or.inl ⟨by rfl, ?_⟩) hHeld ?_ ?_; rotate_left
              · rintro w' ⟨s0, s1, s2, s3, s4, s5, s6, s7, s8, s9, s10, s11⟩
                go_simp
                with_reducible rfl
              rotate_left
              · exact pz
              refine pure_ (i := 4) (N := some 21) (v := ?_) (a' := ?_) #[true, true, true, true, true, false, false, true, false, true, false, false, false, false, false, false, false] rfl rfl (any_of HT_.out (by kernel_rfl)) (fun _ _ _ h => h) (Or.inl ⟨by rfl, ?_⟩) ?_ ?_; rotate_left
              · intro w'
                go_simp
                with_reducible rfl
              rotate_left
              · exact pz
              refine pure_ (i := 5) (N := some 22) (v := ?_) (a' := ?_) #[true, true, true, true, true, true, false, true, false, true, false, false, false, false, false, false, false] rfl rfl (any_of HT_.out (by kernel_rfl)) (fun _ _ _ h => h) (Or.inl ⟨by rfl, ?_⟩) ?_ ?_; rotate_left
              · intro w'
                go_simp
                with_reducible rfl
              rotate_left
              · exact pz
              refine take_ (i := 6) (N := some 23) (v := ?_) (a' := ?_) #[true, true, true, true, true, true, true, true, false, true, false, false, false, false, false, false, false] rfl rfl (take_ofW HT_.out HW_.out (by kernel_rfl)) (fun _ _ _ h => h) (Or.inl ⟨by rfl, ?_⟩) hHeld ?_ ?_; rotate_left
              · rintro w' ⟨s0, s1, s2, s3, s4, s5, s6, s7, s8, s9, s10, s11⟩
                go_simp
                with_reducible rfl
              rotate_left
              · exact pz
              refine take_ (i := 8) (N := some 25) (v := ?_) (a' := ?_) #[true, true, true, true, true, true, true, true, true, true, false, false, false, false, false, false, false] rfl rfl (take_ofW HT_.out HW_.out (by kernel_rfl)) (fun _ _ _ h => h) (Or.inl ⟨by rfl, ?_⟩) hHeld ?_ ?_; rotate_left
              · rintro w' ⟨s0, s1, s2, s3, s4, s5, s6, s7, s8, s9, s10, s11⟩
                go_simp
                with_reducible rfl
              rotate_left
              · exact pz
              refine pure_ (i := 10) (N := some 27) (v := ?_) (a' := ?_) #[true, true, true, true, true, true, true, true, true, true, true, false, false, false, false, false, false] rfl rfl (any_of HT_.out (by kernel_rfl)) (fun _ _ _ h => h) (Or.inl ⟨by rfl, ?_⟩) ?_ ?_; rotate_left
              · intro w'
                go_simp
                with_reducible rfl
              rotate_left
              · exact pz
              refine pure_ (i := 11) (N := some 28) (v := ?_) (a' := ?_) #[true, true, true, true, true, true, true, true, true, true, true, true, false, false, false, false, false] rfl rfl (any_of HT_.out (by kernel_rfl)) (fun _ _ _ h => h) (Or.inl ⟨by rfl, ?_⟩) ?_ ?_; rotate_left
              · intro w'
                go_simp
                with_reducible rfl
              rotate_left
              · exact pz
              refine take_ (i := 12) (N := some 29) (v := ?_) (a' := ?_) #[true, true, true, true, true, true, true, true, true, true, true, true, true, false, false, false, false] rfl rfl (take_ofW HT_.out HW_.out (by kernel_rfl)) (fun _ _ _ h => h) (Or.inl ⟨by rfl, ?_⟩) hHeld ?_ ?_; rotate_left
              · rintro w' ⟨s0, s1, s2, s3, s4, s5, s6, s7, s8, s9, s10, s11⟩
                go_simp
                with_reducible rfl
              rotate_left
              · exact pz
              refine pure_ (i := 13) (N := some 30) (v := ?_) (a' := ?_) #[true, true, true, true, true, true, true, true, true, true, true, true, true, true, false, false, false] rfl rfl (any_of HT_.out (by kernel_rfl)) (fun _ _ _ h => h) (Or.inl ⟨by rfl, ?_⟩) ?_ ?_; rotate_left
              · intro w'
                go_simp
                with_reducible rfl
              rotate_left
              · exact pz
              refine one_ (i := 14) (N := some 31) #[true, true, true, true, true, true, true, true, true, true, true, true, true, true, true, false, false] rfl rfl (one_of HT_.out (by kernel_rfl)) (by decide) (fun K hK => ?_); refine value_ (w1 := ?_) (v := ?_) (by rfl) rfl ?_ ?_
              rotate_left 2
              · go_simp
                constructor
                · rfl
                · rfl
              refine hK.out _ _ ⟨(blk_cell (blk_alloc BK1032.out _) 0).trans rfl, (blk_cell (blk_alloc BK1032.out _) 1).trans rfl, (World.cell?_alloc_lt _ _ _ (World.block_lt_of_cell? _ _ ((cz HB.out hw1036_0 :)))).trans ((cz HB.out hw1036_0 :)), (World.cell?_alloc_lt _ _ _ (World.block_lt_of_cell? _ _ ((cz HB.out hw1036_1 :)))).trans ((cz HB.out hw1036_1 :)), (World.cell?_alloc_lt _ _ _ (World.block_lt_of_cell? _ _ ((cz HB.out hw1036_2 :)))).trans ((cz HB.out hw1036_2 :)), (World.cell?_alloc_lt _ _ _ (World.block_lt_of_cell? _ _ ((cz HB.out hw1036_3 :)))).trans ((cz HB.out hw1036_3 :)), (World.cell?_alloc_lt _ _ _ (World.block_lt_of_cell? _ _ ((cz HB.out hw1036_4 :)))).trans ((cz HB.out hw1036_4 :)), (World.cell?_alloc_lt _ _ _ (World.block_lt_of_cell? _ _ ((cz HB.out hw1037_0 :)))).trans ((cz HB.out hw1037_0 :)), (World.cell?_alloc_lt _ _ _ (World.block_lt_of_cell? _ _ ((cz HB.out hw1037_1 :)))).trans ((cz HB.out hw1037_1 :)), (World.cell?_alloc_lt _ _ _ (World.block_lt_of_cell? _ _ ((cz HB.out hw1037_2 :)))).trans ((cz HB.out hw1037_2 :)), (World.cell?_alloc_lt _ _ _ (World.block_lt_of_cell? _ _ ((cz HB.out hw1037_3 :)))).trans ((cz HB.out hw1037_3 :)), (World.cell?_alloc_lt _ _ _ (World.block_lt_of_cell? _ _ ((cz HB.out hw1037_4 :)))).trans ((cz HB.out hw1037_4 :))⟩ (fun hHeld => ?_); clear hK K; refine norm_ (a' := ?_) ?_ ?_; rotate_left
              · show Act.put _ (some 31) _ = _
                simp only [Act.put, List.setIfInBounds_toArray, List.set_cons_zero, List.set_cons_succ, i64_w, i32_w]
                rfl
              refine one_ (i := 15) (N := some 32) #[true, true, true, true, true, true, true, true, true, true, true, true, true, true, true, true, false] rfl rfl (one_of HT_.out (by kernel_rfl)) (by decide) (fun K hK => ?_); refine Kd.R_append_step k34 (w0 := w) w.heap.size (by rfl) (.tmp 17) (.tmp 31) 28 34 (.agg #[(.int .i64 0), (.int .i64 0), (.int .i64 0), (.int .i64 0), (.int .i64 0)]) 40 rfl Try.underlying28 info34 rfl (by decide) (by omega) u3 x3_1 (⟨(rd_T103 l0_1 x4_1).f0, (⟨(rd_T103 l0_1 x4_1).f1.f0, (rd_T103 l0_1 x4_1).f1.f1, (rd_T103 l0_1 x4_1).f1.f2, (rd_T103 l0_1 x4_1).f1.f3⟩ : S32)⟩ : S34) [.int .i64 ((rd_T103 l0_1 x4_1).f0), .int .i64 ((rd_T103 l0_1 x4_1).f1.f0), .int .i64 ((rd_T103 l0_1 x4_1).f1.f1), .int .i64 ((rd_T103 l0_1 x4_1).f1.f2), .int .i64 ((rd_T103 l0_1 x4_1).f1.f3)] (fun _ => True) (fun _ => False) rfl rfl ?aP (fun _ hk => hk.elim) ?aF ?aO ?aB ?aS ?aL ?_
              (case aP => exact k34_mkM _ _ _ (⟨(rd_T103 l0_1 x4_1).f0, (⟨(rd_T103 l0_1 x4_1).f1.f0, (rd_T103 l0_1 x4_1).f1.f1, (rd_T103 l0_1 x4_1).f1.f2, (rd_T103 l0_1 x4_1).f1.f3⟩ : S32)⟩ : S34))
              (case aB => exact (b1 GE1032.out HB.out))
              (case aF => exact (fun _ _ => trivial))
              (case aO => exact (rz HO_3.out))
              (case aS => exact (below_size (b1 GE1032.out HB.out)))
              (case aL => have := LMc8.out; omega)
              intro v1039 w11 ho hb hg hat
              rw [← Ny1038.out] at ho; have n0_ := Aside0.mk (blk_grown (g := gb1032) (o := .cells #[.bool true, .slice (some ad1036) l0_1.length c0_1] 54 (0, 0)) (kz BK1032.out) hg (Kd.R_ne HO_3.out BK1032.out (by decide))); have n1_ := Aside0.mk (hb); have n2_ := Aside0.mk (ho); clear BK1032; clear HB; clear HO_3; have BK1032 := n0_; have HB := n1_; have HO1040 := n2_; clear n0_ n1_ n2_; clear ho hb hg hat; refine hK.out _ _ ⟨(blk_cell BK1032.out 0).trans rfl, (blk_cell BK1032.out 1).trans rfl, (cz HB.out hw1036_0 :), (cz HB.out hw1036_1 :), (cz HB.out hw1036_2 :), (cz HB.out hw1036_3 :), (cz HB.out hw1036_4 :), (cz HB.out hw1037_0 :), (cz HB.out hw1037_1 :), (cz HB.out hw1037_2 :), (cz HB.out hw1037_3 :), (cz HB.out hw1037_4 :)⟩ (fun hHeld => ?_); clear hK K; refine norm_ (a' := ?_) ?_ ?_; rotate_left
              · show Act.put _ (some 32) _ = _
                simp only [Act.put, List.setIfInBounds_toArray, List.set_cons_zero, List.set_cons_succ, i64_w, i32_w]
                rfl
              refine pure_ (i := 16) (N := some 3) (v := ?_) (a' := ?_) #[true, true, true, true, true, true, true, true, true, true, true, true, true, true, true, true, true] rfl rfl (any_of HT_.out (by kernel_rfl)) (fun _ _ _ h => h) (Or.inl ⟨by rfl, ?_⟩) ?_ ?_; rotate_left
              · intro w'
                go_simp
                with_reducible rfl
              rotate_left
              · exact pz
              refine done_ (done_of HT_.out (by kernel_rfl)) ?_
              try go_wp2
              go_roundg k1
              case measure => have := HK1.out; omega
              case rel => exact ⟨(y1038), (wrap64 (x4_1 + 1)), az, H', ⟨by have := HK1.out; omega⟩, ⟨rz HO1040.out⟩, ⟨kz BK1032.out⟩, ⟨b1 GE1032.out HB.out⟩⟩
            · rw [if_neg c8] at H
              exact absurd H (by simp)
          · rw [if_neg c7] at H
            exact absurd H (by simp)
        · replace c6 := Bool.eq_false_iff.mpr c6
          subst c6; replace H : (some x3_1) = some r := (by rw [if_neg (show ¬ (false = true) by decide)] at H; exact H); obtain rfl := Option.some.inj H; have hcz12_0 := fz BK1032.out 0 (.bool false); have hcz12_1 := fz BK1032.out 1 (.slice A0_1 l0_1.length c0_1); have hfz12_0 := blk_frozen BK1032.out 0; have hfz12_1 := blk_frozen BK1032.out 1; go_wp2; go_ret; exact ⟨_, by first | rfl | (simp [errW_none, errW_some] <;> rfl) | (simp [*, errW_none, errW_some] <;> rfl), by (with_reducible repeat (first | apply Kd.R_alloc | apply Kd.R_drewN | apply Kd.R_drew)); exact HO_3.out, b1 GE1032.out HB.out⟩
      · rw [if_neg c5] at H
        have c5b0 : decide (x4_1 < (l0_1.length : Int)) = false := decide_eq_false c5; clear c5; obtain rfl := Option.some.inj H; have hcz13_0 := fz BK1032.out 0 (.bool a0_0); have hcz13_1 := fz BK1032.out 1 (.slice A0_1 l0_1.length c0_1); have hfz13_0 := blk_frozen BK1032.out 0; have hfz13_1 := blk_frozen BK1032.out 1; go_wp2; go_ret; exact ⟨_, by first | rfl | (simp [errW_none, errW_some] <;> rfl) | (simp [*, errW_none, errW_some] <;> rfl), by (with_reducible repeat (first | apply Kd.R_alloc | apply Kd.R_drewN | apply Kd.R_drew)); exact HO_3.out, b1 GE1032.out HB.out⟩

attribute [local go_sem] max2_int min2_int max_two min_two max_three min_three max_four min_four 
set_option linter.unusedVariables false
set_option linter.unusedSimpArgs false

/-! ### spec_All: function 106 -/
def spec_All.l0 : Nat → List (S34) → List Int → Int → Int → List (S90) → Option ((List (S34)))
  | 0, _, _, _, _, _ => none
  | k + 1, x3, x4, x5, x1042000, x1042001 => if x5 < (x4.length : Int) then (if 0 ≤ x5 then (if 0 ≤ (rd x4 x5) then (if (rd x4 x5) < (x1042001.length : Int) then ((spec_ItemsOf.f k ((rd_T90 x1042001 (rd x4 x5)).f1.f0) ((rd_T90 x1042001 (rd x4 x5)).f1.f1)).bind fun t1050 => (if x3.length + t1050.length < 3518437208883 then (spec_All.l0 k (x3 ++ t1050) x4 (wrap64 (x5 + 1)) x1042000 x1042001) else (none))) else (none)) else (none)) else (none)) else (some x3)
def spec_All.f (k : Nat) (a0_0 : Int) (l0_1 : List (S90)) : Option ((List (S34))) := (spec_Leaves.f k a0_0 l0_1).bind fun t1045 => (spec_All.l0 k (([] : List (S34))) t1045 0 a0_0 l0_1)
theorem spec_All.mono_l : ∀ k, (∀ y0 y1 y2 y3 y4, LeO (spec_All.l0 k y0 y1 y2 y3 y4) (spec_All.l0 (k + 1) y0 y1 y2 y3 y4))
  | 0 => fun _ _ _ _ _ r h => by simp [spec_All.l0] at h
  | k + 1 => by
    have ih0 := spec_All.mono_l k
    · intro y0 y1 y2 y3 y4
      unfold spec_All.l0
      repeat' first | (with_reducible first | exact ih0 _ _ _ _ _ | exact spec_ItemsOf.mono _ _ _ | exact spec_Leaves.mono _ _ _ | exact LeO.refl _ | exact LeO.none _ | refine LeO.ite ?_ ?_ | refine LeO.bind ?_ (fun _ => ?_)) | exact ih0 _ _ _ _ _ | exact spec_ItemsOf.mono _ _ _ | exact spec_Leaves.mono _ _ _ | exact LeO.none _ | refine LeO.ite ?_ ?_ | refine LeO.bind ?_ (fun _ => ?_)
theorem spec_All.mono : ∀ a0 a1 k, LeO (spec_All.f k a0 a1) (spec_All.f (k + 1) a0 a1) := by
  intro a0 a1 k
  have ih0 := spec_All.mono_l k; unfold spec_All.f
  repeat' first | (with_reducible first | exact ih0 _ _ _ _ _ | exact spec_ItemsOf.mono _ _ _ | exact spec_Leaves.mono _ _ _ | exact LeO.refl _ | exact LeO.none _ | refine LeO.ite ?_ ?_ | refine LeO.bind ?_ (fun _ => ?_)) | exact ih0 _ _ _ _ _ | exact spec_ItemsOf.mono _ _ _ | exact spec_Leaves.mono _ _ _ | exact LeO.none _ | refine LeO.ite ?_ ?_ | refine LeO.bind ?_ (fun _ => ?_)
def spec_All.T6 : Bool × List (List Nat × List Nat) := (true, [([], []), ([], []), ([1], [1]), ([], []), ([], []), ([3, 4], [3, 4]), ([5], [5]), ([2, 6], [2, 6]), ([7], [7]), ([8], [8]), ([9], [9]), ([0, 10, 10], [0, 10]), ([11, 11, 0, 1, 2, 3, 4, 5, 6, 7, 8, 9, 10, 11], [0, 11])])
def spec_All.B6 : List Nat := [0, 0, 2, 0, 0, 24, 56, 126, 254, 510, 1022, 2047, 4095]
theorem spec_All.tab6 : rtab .any (opsOf Try.f106 6) = spec_All.T6 := by kernel_rfl
theorem spec_All.bits6 : waitsOk spec_All.T6.2 spec_All.B6 = true := by kernel_rfl
set_option maxHeartbeats 8000000 in
set_option maxRecDepth 100000 in
theorem spec_All.calls (k : Nat) (a0_0 : Int) (A0_1 : Option Addr) (c0_1 : Nat) (l0_1 : List (S90)) (r : List (S34)) (w : World) (hr0_1 : Kd.C k90 w A0_1 l0_1.length l0_1) (hc0_1 : l0_1.length ≤ c0_1) (h : spec_All.f k a0_0 l0_1 = some r) :
    Calls Try.prog 106 #[.agg #[.int .i64 a0_0, .slice A0_1 l0_1.length c0_1]] w fun e w' => ∃ v0_ : Value, e = .returned (v0_) ∧ Kd.R k34 34 w' w.heap.size (fun _ => True) v0_ r ∧ Below w.heap.size w w' := by
  have hu49 := Try.underlying49; have hu54 := Try.underlying54; have HR0_1 := Aside0.mk hr0_1; have HC0_1 := Aside0.mk hc0_1; clear hr0_1 hc0_1; have HB := Aside0.mk (Below.refl w.heap.size w); have H : ((spec_Leaves.f k a0_0 l0_1).bind fun t1045 => (spec_All.l0 k (([] : List (S34))) t1045 0 a0_0 l0_1)) = some r := h; clear h; obtain ⟨y1042, hy1042⟩ : ∃ y_ : List (S34), y_ = (([] : List (S34))) := ⟨_, rfl⟩
  replace H : ((spec_Leaves.f k a0_0 l0_1).bind fun t1045 => (spec_All.l0 k y1042 t1045 0 a0_0 l0_1)) = some r := by first | (rw [hy1042]; with_reducible exact H) | (have H2_ := (Option.bind_some _ _).symm.trans H; rw [hy1042]; with_reducible exact H2_) | (have H2_ := (Option.bind_some _ _).symm.trans H; with_reducible exact H2_) | with_reducible exact H | (rw [hy1042]; exact H) | exact H
  have Ny1042 := Aside0.mk hy1042; clear hy1042; replace H := Option.bind_eq_some_iff.mp H; obtain ⟨t1045, A20, H⟩ := H; replace H : (spec_All.l0 k y1042 t1045 0 a0_0 l0_1) = some r := H; have A2 := Aside0.mk A20; clear A20; have H' := Aside0.mk H; clear H
  go_enter Try.func106, Try.ntmps106
  go_wp2_with (first | ((with_reducible refine gate_dst (N := 1) rfl ?_); refine box_event ?hg (N := 1) ?hd (cs := #[.int .i64 a0_0, .slice A0_1 l0_1.length c0_1]) (t := 49) ?hr ?_; (case hd => rfl); (case hg => rfl); (case hr => first | (go_simp; done) | (go_simp; rfl)); intro gb1041 hg w3 hbox hb; have n0_ := Aside0.mk (below_step (bz HB.out) hb); have n1_ := Aside0.mk (hbox); have n2_ := Aside0.mk ((by rw [hg]; exact (below_size (bz HB.out)) : w.heap.size ≤ gb1041)); have n3_ := Aside0.mk ((by rw [hg]; exact (below_size (bz HB.out)) : w.heap.size ≤ gb1041)); clear HB; have HB := n0_; have BK1041 := n1_; have GW1041 := n2_; have GE1041 := n3_; clear n0_ n1_ n2_ n3_; clear hb hbox hg) | ((with_reducible refine gate_dst (N := 6) rfl ?_); refine Kd.R_lit k34 _ 34 ?hg (N := 6) ?hd (xs := ([] : List (S34))) (inner := []) (ok := fun _ => True) (okp := fun _ => True) ?hr ?hp (fun _ hk => hk) trivial (Below.refl _ _) (Nat.le_refl _) (by simp) ?_; (case hd => rfl); (case hg => rfl); (case hr => first | (go_simp; done) | (go_simp; rfl)); (case hp => exact (Reps.none _ _)); intro v1043 w4 ho5 hb hg_ hnew_; clear hg_ hnew_; (first | rw [← Ny1042.out] at ho5 | (simp only [Int.reduceToNat] at ho5; rw [← Ny1042.out] at ho5)); have n0_ := Aside0.mk (Kd.R_lower ho5 (below_size (b1 GE1041.out HB.out))); have n1_ := Aside0.mk (blk_below (g := gb1041) (o := .cells #[.int .i64 a0_0, .slice A0_1 l0_1.length c0_1] 49 (0, 0)) (kz BK1041.out) hb); have n2_ := Aside0.mk (below_step (b1 GE1041.out HB.out) hb); clear BK1041; clear HB; have HO1044 := n0_; have BK1041 := n1_; have HB := n2_; clear n0_ n1_ n2_; clear hb ho5; have hcz6_0 := fz BK1041.out 0 (.int .i64 a0_0); have hcz6_1 := fz BK1041.out 1 (.slice A0_1 l0_1.length c0_1); have hfz6_0 := blk_frozen BK1041.out 0; have hfz6_1 := blk_frozen BK1041.out 1) | ((with_reducible refine gate_callee (f := 136) rfl ?_); refine goesL_ (some 8) rfl rfl Try.func136 (by kernel_rfl) rfl #[.agg #[.int .i64 a0_0, .slice A0_1 l0_1.length c0_1]] rfl dz ?_; (with_reducible refine (spec_Leaves.calls k a0_0 _ _ l0_1 t1045 _ ?side1 ?side2 A2.out).mono ?_); (case side1 => exact sz HR0_1.out HB.out); (case side2 => exact HC0_1.out); rintro e w7 ⟨v1046, rfl, ho0, hb⟩; refine ⟨_, rfl, ?_⟩; have n0_ := Aside0.mk (Kd.R_below (rz HO1044.out) hb); have n1_ := Aside0.mk (Kd.R_lower ho0 (below_size (b1 GE1041.out HB.out))); have n2_ := Aside0.mk (blk_below (g := gb1041) (o := .cells #[.int .i64 a0_0, .slice A0_1 l0_1.length c0_1] 49 (0, 0)) (kz BK1041.out) hb); have n3_ := Aside0.mk (below_step (b1 GE1041.out HB.out) hb); clear HO1044; clear BK1041; clear HB; have HO1044 := n0_; have HO1047 := n1_; have BK1041 := n2_; have HB := n3_; clear n0_ n1_ n2_ n3_; (try clear hb); (try clear hb2); (try clear hk); (try clear hi); (try clear ho0)))
  go_loopg [3, 5] k (fun kq v3 v5 w' => ∃ (x3_1 : List (S34)) (x5_1 : Int), v5 = .int .i64 x5_1 ∧ Aside0 (spec_All.l0 kq x3_1 t1045 x5_1 a0_0 l0_1 = some r) ∧ Aside0 (kq ≤ k) ∧ Aside0 (Kd.R k34 34 w' w.heap.size (fun _ => True) v3 x3_1) ∧ Aside0 (Kd.R (Kd.int .i64) 3 w' w.heap.size (fun _ => True) v1046 t1045) ∧ Aside0 (w'.heap[gb1041]? = some (.cells #[.int .i64 a0_0, (.slice A0_1 l0_1.length c0_1)] 49 (0, 0))) ∧ Aside0 (Below w.heap.size w w'))
  case atStart => exact ⟨(y1042), (0), az, H', ⟨Nat.le_refl _⟩, ⟨rz HO1044.out⟩, ⟨rz HO1047.out⟩, ⟨kz BK1041.out⟩, ⟨b1 GE1041.out HB.out⟩⟩
  case round =>
    clear H'; (try clear c1); (try clear p2); (try clear hcz6_0); (try clear hcz6_1); (try clear hfz6_0); (try clear hfz6_1); obtain ⟨x3_1, x5_1, rfl, HA, HK1, HO_3, HO_4, BK1041, HB⟩ := hrel
    cases gk with
    | zero => exact absurd HA.out (by simp [spec_All.l0])
    | succ k1 =>
      have H := HA.out; clear HA
      simp only [spec_All.l0] at H
      by_cases c8 : x5_1 < (t1045.length : Int)
      · rw [if_pos c8] at H
        have c8b0 : decide (x5_1 < (t1045.length : Int)) = true := decide_eq_true c8; clear c8
        by_cases c9 : 0 ≤ x5_1
        · rw [if_pos c9] at H
          have c9b0 : decide (0 ≤ x5_1) = true := decide_eq_true c9; clear c9
          by_cases c10 : 0 ≤ (rd t1045 x5_1)
          · rw [if_pos c10] at H
            have c10b0 : decide (0 ≤ (rd t1045 x5_1)) = true := decide_eq_true c10; clear c10
            by_cases c11 : (rd t1045 x5_1) < (l0_1.length : Int)
            · rw [if_pos c11] at H
              have c11b0 : decide ((rd t1045 x5_1) < (l0_1.length : Int)) = true := decide_eq_true c11; clear c11; replace H := Option.bind_eq_some_iff.mp H; obtain ⟨t1050, A120, H⟩ := H; replace H : (if x3_1.length + t1050.length < 3518437208883 then (spec_All.l0 k1 (x3_1 ++ t1050) t1045 (wrap64 (x5_1 + 1)) a0_0 l0_1) else (none)) = some r := H; have A12 := Aside0.mk A120; clear A120
              by_cases c13 : x3_1.length + t1050.length < 3518437208883
              · rw [if_pos c13] at H
                have LMc13 := Aside0.mk c13; clear c13; obtain ⟨y1053, hy1053⟩ : ∃ y_ : List (S34), y_ = (x3_1 ++ t1050) := ⟨_, rfl⟩
                replace H : (spec_All.l0 k1 y1053 t1045 (wrap64 (x5_1 + 1)) a0_0 l0_1) = some r := by first | (rw [hy1053]; with_reducible exact H) | (have H2_ := (Option.bind_some _ _).symm.trans H; rw [hy1053]; with_reducible exact H2_) | (have H2_ := (Option.bind_some _ _).symm.trans H; with_reducible exact H2_) | with_reducible exact H | (rw [hy1053]; exact H) | exact H
                have Ny1053 := Aside0.mk hy1053; clear hy1053; have H' := Aside0.mk H; clear H; obtain ⟨Ao14, co14, eo14⟩ := Kd.R_slice HO_4.out; subst eo14
                try go_wp2
                have n0_ := Aside0.mk (Kd.R_drew HO_3.out); have n1_ := Aside0.mk (Kd.R_drew HO_4.out); have n2_ := Aside0.mk (blk_drew BK1041.out); have n3_ := Aside0.mk (below_drew1 HB.out); clear HO_3; clear HO_4; clear BK1041; clear HB; have HO_3 := n0_; have HO_4 := n1_; have BK1041 := n2_; have HB := n3_; clear n0_ n1_ n2_ n3_; have p1048 : 0 ≤ (x5_1 : Int) := of_decide_eq_true uz; have q1048 : x5_1 < (t1045.length : Int) := of_decide_eq_true uz; obtain ⟨ad1048, e1048, hx1048_0⟩ := Kd.at_int (Kd.R_reads' HO_4.out).2.2 x5_1 p1048 q1048
                cases e1048
                replace p1048 := eq_true p1048; replace q1048 := eq_true q1048; have p1049 : 0 ≤ ((rd t1045 x5_1) : Int) := of_decide_eq_true uz; have q1049 : (rd t1045 x5_1) < (l0_1.length : Int) := of_decide_eq_true uz; obtain ⟨ad1049, A1049_2, c1049_2, e1049, hx1049_0, hx1049_1, hx1049_2, hl1049_2, hi1049_2⟩ := at_T90 HR0_1.out (rd t1045 x5_1) p1049 q1049; have hw1049_2 := hx1049_2; have hw1049_1 := hx1049_1; have hw1049_0 := hx1049_0
                cases e1049
                replace hx1049_0 := cz HB.out hx1049_0; replace hx1049_1 := cz HB.out hx1049_1; replace hx1049_2 := cz HB.out hx1049_2; have HR1049_2 := Aside0.mk hi1049_2; have HC1049_2 := Aside0.mk hl1049_2; clear hi1049_2 hl1049_2; replace p1049 := eq_true p1049; replace q1049 := eq_true q1049
                refine start_ (n := 13) (S := fun w' => w'.cell? ⟨gb1041, 0, none⟩ = some (.int .i64 a0_0) ∧ w'.cell? ⟨gb1041, 1, none⟩ = some (.slice (some ad1049) l0_1.length c0_1) ∧ w'.cell? (ad1048.add (x5_1).toNat) = some (.int .i64 (rd t1045 x5_1)) ∧ w'.cell? (ad1049.add (((rd t1045 x5_1)).toNat * 3)) = some (.bool ((rd_T90 l0_1 (rd t1045 x5_1)).f0)) ∧ w'.cell? ⟨(ad1049.add (((rd t1045 x5_1)).toNat * 3)).block, (ad1049.add (((rd t1045 x5_1)).toNat * 3)).off + 1, none⟩ = some (.bool ((rd_T90 l0_1 (rd t1045 x5_1)).f1.f0)) ∧ w'.cell? ⟨(ad1049.add (((rd t1045 x5_1)).toNat * 3)).block, (ad1049.add (((rd t1045 x5_1)).toNat * 3)).off + 2, none⟩ = some (.slice A1049_2 ((rd_T90 l0_1 (rd t1045 x5_1)).f1.f1).length c1049_2)) (ds := [11]) #[false, false, false, false, false, false, false, false, false, false, false, false, false] (by kernel_rfl) rfl rfl ⟨(blk_cell BK1041.out 0).trans rfl, (blk_cell BK1041.out 1).trans rfl, hx1048_0, (cz HB.out hw1049_0 :), (cz HB.out hw1049_1 :), (cz HB.out hw1049_2 :)⟩ (fun hHeld => ?_); refine with_tabW spec_All.tab6 spec_All.bits6 (fun HT_ HW_ => ?_)
                generalize wr.drew = w15 at HO_3 HO_4 BK1041 HB HR1049_2 hx1048_0 hx1049_0 hx1049_1 hx1049_2 hHeld ⊢
                refine pure_ (i := 0) (N := some 15) (v := ?_) (a' := ?_) #[true, false, false, false, false, false, false, false, false, false, false, false, false] rfl rfl (any_of HT_.out (by kernel_rfl)) (fun _ _ _ h => h) (Or.inl ⟨by rfl, ?_⟩) ?_ ?_; rotate_left
                · intro w'
                  go_simp
                  with_reducible rfl
                rotate_left
                · exact pz
                refine pure_ (i := 1) (N := some 16) (v := ?_) (a' := ?_) #[true, true, false, false, false, false, false, false, false, false, false, false, false] rfl rfl (any_of HT_.out (by kernel_rfl)) (fun _ _ _ h => h) (Or.inl ⟨by rfl, ?_⟩) ?_ ?_; rotate_left
                · intro w'
                  go_simp
                  with_reducible rfl
                rotate_left
                · exact pz
                refine pure_ (i := 3) (N := some 18) (v := ?_) (a' := ?_) #[true, true, false, true, false, false, false, false, false, false, false, false, false] rfl rfl (any_of HT_.out (by kernel_rfl)) (fun _ _ _ h => h) (Or.inl ⟨by rfl, ?_⟩) ?_ ?_; rotate_left
                · intro w'
                  go_simp
                  with_reducible rfl
                rotate_left
                · exact pz
                refine pure_ (i := 4) (N := some 19) (v := ?_) (a' := ?_) #[true, true, false, true, true, false, false, false, false, false, false, false, false] rfl rfl (any_of HT_.out (by kernel_rfl)) (fun _ _ _ h => h) (Or.inl ⟨by rfl, ?_⟩) ?_ ?_; rotate_left
                · intro w'
                  go_simp
                  with_reducible rfl
                rotate_left
                · exact pz
                refine pure_ (i := 5) (N := some 20) (v := ?_) (a' := ?_) #[true, true, false, true, true, true, false, false, false, false, false, false, false] rfl rfl (any_of HT_.out (by kernel_rfl)) (fun _ _ _ h => h) (Or.inl ⟨by rfl, ?_⟩) ?_ ?_; rotate_left
                · intro w'
                  go_simp
                  with_reducible rfl
                rotate_left
                · exact pz
                refine take_ (i := 2) (N := some 17) (v := ?_) (a' := ?_) #[true, true, true, true, true, true, false, false, false, false, false, false, false] rfl rfl (take_ofW HT_.out HW_.out (by kernel_rfl)) (fun _ _ _ h => h) (Or.inl ⟨by rfl, ?_⟩) hHeld ?_ ?_; rotate_left
                · rintro w' ⟨s0, s1, s2, s3, s4, s5⟩
                  go_simp
                  with_reducible rfl
                rotate_left
                · exact pz
                refine take_ (i := 6) (N := some 21) (v := ?_) (a' := ?_) #[true, true, true, true, true, true, true, false, false, false, false, false, false] rfl rfl (take_ofW HT_.out HW_.out (by kernel_rfl)) (fun _ _ _ h => h) (Or.inl ⟨by rfl, ?_⟩) hHeld ?_ ?_; rotate_left
                · rintro w' ⟨s0, s1, s2, s3, s4, s5⟩
                  go_simp
                  with_reducible rfl
                rotate_left
                · exact pz
                refine pure_ (i := 7) (N := some 22) (v := ?_) (a' := ?_) #[true, true, true, true, true, true, true, true, false, false, false, false, false] rfl rfl (any_of HT_.out (by kernel_rfl)) (fun _ _ _ h => h) (Or.inl ⟨by rfl, ?_⟩) ?_ ?_; rotate_left
                · intro w'
                  go_simp
                  with_reducible rfl
                rotate_left
                · exact pz
                refine pure_ (i := 8) (N := some 23) (v := ?_) (a' := ?_) #[true, true, true, true, true, true, true, true, true, false, false, false, false] rfl rfl (any_of HT_.out (by kernel_rfl)) (fun _ _ _ h => h) (Or.inl ⟨by rfl, ?_⟩) ?_ ?_; rotate_left
                · intro w'
                  go_simp
                  with_reducible rfl
                rotate_left
                · exact pz
                refine take_ (i := 9) (N := some 24) (v := ?_) (a' := ?_) #[true, true, true, true, true, true, true, true, true, true, false, false, false] rfl rfl (take_ofW HT_.out HW_.out (by kernel_rfl)) (fun _ _ _ h => h) (Or.inl ⟨by rfl, ?_⟩) hHeld ?_ ?_; rotate_left
                · rintro w' ⟨s0, s1, s2, s3, s4, s5⟩
                  go_simp
                  with_reducible rfl
                rotate_left
                · exact pz
                refine one_ (i := 10) (N := some 25) #[true, true, true, true, true, true, true, true, true, true, true, false, false] rfl rfl (one_of HT_.out (by kernel_rfl)) (by decide) (fun K hK => ?_); refine goes_ Try.func137 (by kernel_rfl) rfl #[.agg #[.bool ((rd_T90 l0_1 (rd t1045 x5_1)).f1.f0), .slice A1049_2 ((rd_T90 l0_1 (rd t1045 x5_1)).f1.f1).length c1049_2]] (by rfl) rfl rfl dz ?_
                with_reducible refine (spec_ItemsOf.calls k1 ((rd_T90 l0_1 (rd t1045 x5_1)).f1.f0) _ _ ((rd_T90 l0_1 (rd t1045 x5_1)).f1.f1) t1050 _ ?side1 ?side2 A12.out).mono ?_
                (case side1 => exact sz HR1049_2.out HB.out)
                (case side2 => exact HC1049_2.out)
                rintro e w16 ⟨v1051, rfl, ho0, hb⟩
                have HS2_ := (hb.cell (World.block_lt_of_cell? _ _ (hHeld.2.2.1))).trans (hHeld.2.2.1); refine ⟨_, rfl, ?_⟩; have n0_ := Aside0.mk (Kd.R_elder' (rz HO_3.out) (Kd.R_base ho0) hb); have n1_ := Aside0.mk (Kd.R_below (rz HO_4.out) hb); have n2_ := Aside0.mk (Kd.R_lower (Kd.R_new' ho0 (Kd.R_lt (rz HO_3.out))) (below_size (b1 GE1041.out HB.out))); have n3_ := Aside0.mk (blk_below (g := gb1041) (o := .cells #[.int .i64 a0_0, .slice (some ad1049) l0_1.length c0_1] 49 (0, 0)) (kz BK1041.out) hb); have n4_ := Aside0.mk (below_step (b1 GE1041.out HB.out) hb); clear HO_3; clear HO_4; clear BK1041; clear HB; have HO_3 := n0_; have HO_4 := n1_; have HO1052 := n2_; have BK1041 := n3_; have HB := n4_; clear n0_ n1_ n2_ n3_ n4_
                (try clear hb)
                (try clear hb2)
                (try clear hk)
                (try clear hi)
                (try clear ho0)
                obtain ⟨Ao18, co18, eo18⟩ := Kd.R_slice HO1052.out
                (first | subst eo18 | (injection eo18 with f1_ f2_ f3_; have f4_ := f1_.symm; have f5_ := f3_.symm; clear f1_ f2_ f3_; subst f4_; subst f5_))
                refine hK.out _ _ ⟨(blk_cell BK1041.out 0).trans rfl, (blk_cell BK1041.out 1).trans rfl, HS2_, (cz HB.out hw1049_0 :), (cz HB.out hw1049_1 :), (cz HB.out hw1049_2 :)⟩ (fun hHeld => ?_); clear hK K; refine norm_ (a' := ?_) ?_ ?_; rotate_left
                · show Act.put _ (some 25) _ = _
                  simp only [Act.put, List.setIfInBounds_toArray, List.set_cons_zero, List.set_cons_succ, i64_w, i32_w]
                  rfl
                refine last_ (i := 11) (N := some 26) #[true, true, true, true, true, true, true, true, true, true, true, true, false] rfl rfl (one_of HT_.out (by kernel_rfl)) (by decide) (fun K hK => ?_); refine Kd.R_append_rows_step k34 (w0 := w) w.heap.size (by rfl) (.tmp 15) (.tmp 25) 28 34 (.agg #[(.int .i64 0), (.int .i64 0), (.int .i64 0), (.int .i64 0), (.int .i64 0)]) 40 rfl Try.underlying28 info34 rfl (by decide) (by omega) u3 x3_1 t1050 _ _ _ (fun k_ => some k_ ≠ (.slice Ao18 t1050.length co18 : Value).ownBlock) (fun _ => False) rfl rfl ?aO ?aR (fun _ _ h => h) (fun _ h => h.elim) ?aF ?aB ?aS ?aL ?_
                (case aR => repeat (first | exact (Kd.R_reads' HO1052.out).2.2 | (with_reducible refine Kd.C_alloc ?_ _) | (with_reducible refine Kd.C_drewN ?_ _) | (with_reducible refine Kd.C_drew ?_)))
                (case aB => exact (b1 GE1041.out HB.out))
                (case aF => exact (fun k_ hk => Kd.fresh' (Kd.R_lt (rz HO1052.out)) k_ hk))
                (case aO => exact (by (with_reducible repeat (first | apply Kd.R_alloc | apply Kd.R_drewN | apply Kd.R_drew)); exact Kd.R_mono HO_3.out (fun _ hk => hk.2)))
                (case aS => exact (below_size (b1 GE1041.out HB.out)))
                (case aL => have := LMc13.out; omega)
                intro v1054 w17 ho hb hg hat
                rw [← Ny1053.out] at ho; have n0_ := Aside0.mk (Kd.R_over' (rz HO_4.out) (Kd.R_typed (rz HO_3.out)) (by decide) hg); have n1_ := Aside0.mk (blk_grown (g := gb1041) (o := .cells #[.int .i64 a0_0, .slice (some ad1049) l0_1.length c0_1] 49 (0, 0)) (kz BK1041.out) hg (Kd.R_ne HO_3.out BK1041.out (by decide))); have n2_ := Aside0.mk (Kd.R_after (ok := (fun _ => True)) (rz HO1052.out) hg hat); have n3_ := Aside0.mk (hb); have n4_ := Aside0.mk (ho); clear HO_4; clear BK1041; clear HO1052; clear HB; clear HO_3; have HO_4 := n0_; have BK1041 := n1_; have HO1052 := n2_; have HB := n3_; have HO1055 := n4_; clear n0_ n1_ n2_ n3_ n4_; clear ho hb hg hat; refine hK.out _ _ ?_; clear hK K; refine norm_ (a' := ?_) ?_ ?_; rotate_left
                · show Act.put _ (some 26) _ = _
                  simp only [Act.put, List.setIfInBounds_toArray, List.set_cons_zero, List.set_cons_succ, i64_w, i32_w]
                  rfl
                refine pure_ (i := 12) (N := some 3) (v := ?_) (a' := ?_) #[true, true, true, true, true, true, true, true, true, true, true, true, true] rfl rfl (any_of HT_.out (by kernel_rfl)) (fun _ _ _ h => h) (Or.inl ⟨by rfl, ?_⟩) ?_ ?_; rotate_left
                · intro w'
                  go_simp
                  with_reducible rfl
                rotate_left
                · exact pz
                refine done_ (done_of HT_.out (by kernel_rfl)) ?_
                try go_wp2
                go_roundg k1
                case measure => have := HK1.out; omega
                case rel => exact ⟨(y1053), (wrap64 (x5_1 + 1)), az, H', ⟨by have := HK1.out; omega⟩, ⟨by (with_reducible repeat (first | apply Kd.R_alloc | apply Kd.R_drewN | apply Kd.R_drew)); exact Kd.R_mono HO1055.out (fun _ hk => trivial)⟩, ⟨rz HO_4.out⟩, ⟨kz BK1041.out⟩, ⟨b1 GE1041.out HB.out⟩⟩
              · rw [if_neg c13] at H
                exact absurd H (by simp)
            · rw [if_neg c11] at H
              exact absurd H (by simp)
          · rw [if_neg c10] at H
            exact absurd H (by simp)
        · rw [if_neg c9] at H
          exact absurd H (by simp)
      · rw [if_neg c8] at H
        have c8b0 : decide (x5_1 < (t1045.length : Int)) = false := decide_eq_false c8; clear c8; obtain rfl := Option.some.inj H; obtain ⟨Ao19, co19, eo19⟩ := Kd.R_slice HO_4.out; subst eo19; go_wp2; go_ret; exact ⟨_, by first | rfl | (simp [errW_none, errW_some] <;> rfl) | (simp [*, errW_none, errW_some] <;> rfl), by (with_reducible repeat (first | apply Kd.R_alloc | apply Kd.R_drewN | apply Kd.R_drew)); exact HO_3.out, b1 GE1041.out HB.out⟩

attribute [local go_sem] max2_int min2_int max_two min_two max_three min_three max_four min_four 
set_option linter.unusedVariables false
set_option linter.unusedSimpArgs false

/-! ### spec_Dense: function 55 -/
mutual
def spec_Dense.l0 : Nat → Int → Int → List (S90) → Option (Bool)
  | 0, _, _, _ => none
  | k + 1, x3, x1057000, x1057001 => if x3 ≤ 12 then ((spec_l15Level.f k x1057000 x1057001 x1057000 x3).bind fun t1062 => (spec_Dense.l1 k x3 t1062 0 x1057000 x1057001)) else ((spec_All.f k x1057000 x1057001).bind fun t1058 => ((spec_InOrder.f k t1058).bind fun t1061 => (some t1061)))
def spec_Dense.l1 : Nat → Int → List Int → Int → Int → List (S90) → Option (Bool)
  | 0, _, _, _, _, _ => none
  | k + 1, x3, x4, x5, x1057000, x1057001 => if (wrap64 (x5 + 1)) < (x4.length : Int) then (if 0 ≤ x5 then (if x5 < (x4.length : Int) then (if 0 ≤ (rd x4 x5) then (if (rd x4 x5) < (x1057001.length : Int) then (if (((rd_T90 x1057001 (rd x4 x5)).f1.f1).length : Int) = 4 then (spec_Dense.l1 k x3 x4 (wrap64 (x5 + 1)) x1057000 x1057001) else (some false)) else (none)) else (none)) else (none)) else (none)) else (spec_Dense.l0 k (wrap64 (x3 + 1)) x1057000 x1057001)
end
def spec_Dense.f (k : Nat) (a0_0 : Int) (l0_1 : List (S90)) : Option (Bool) := (spec_BookOk.f k a0_0 l0_1).bind fun t1057 => (if t1057 = true then (spec_Dense.l0 k 1 a0_0 l0_1) else (some false))
theorem spec_Dense.mono_l : ∀ k, (∀ y0 y1 y2, LeO (spec_Dense.l0 k y0 y1 y2) (spec_Dense.l0 (k + 1) y0 y1 y2)) ∧ (∀ y0 y1 y2 y3 y4, LeO (spec_Dense.l1 k y0 y1 y2 y3 y4) (spec_Dense.l1 (k + 1) y0 y1 y2 y3 y4))
  | 0 => ⟨fun _ _ _ r h => by simp [spec_Dense.l0] at h, fun _ _ _ _ _ r h => by simp [spec_Dense.l1] at h⟩
  | k + 1 => by
    obtain ⟨ih0, ih1⟩ := spec_Dense.mono_l k; refine ⟨?_, ?_⟩
    · intro y0 y1 y2
      unfold spec_Dense.l0
      repeat' first | (with_reducible first | exact ih0 _ _ _ | exact ih1 _ _ _ _ _ | exact spec_All.mono _ _ _ | exact spec_BookOk.mono _ _ _ | exact spec_InOrder.mono _ _ | exact spec_l15Level.mono _ _ _ _ _ | exact LeO.refl _ | exact LeO.none _ | refine LeO.ite ?_ ?_ | refine LeO.bind ?_ (fun _ => ?_)) | exact ih0 _ _ _ | exact ih1 _ _ _ _ _ | exact spec_All.mono _ _ _ | exact spec_BookOk.mono _ _ _ | exact spec_InOrder.mono _ _ | exact spec_l15Level.mono _ _ _ _ _ | exact LeO.none _ | refine LeO.ite ?_ ?_ | refine LeO.bind ?_ (fun _ => ?_)
    · intro y0 y1 y2 y3 y4
      unfold spec_Dense.l1
      repeat' first | (with_reducible first | exact ih0 _ _ _ | exact ih1 _ _ _ _ _ | exact spec_All.mono _ _ _ | exact spec_BookOk.mono _ _ _ | exact spec_InOrder.mono _ _ | exact spec_l15Level.mono _ _ _ _ _ | exact LeO.refl _ | exact LeO.none _ | refine LeO.ite ?_ ?_ | refine LeO.bind ?_ (fun _ => ?_)) | exact ih0 _ _ _ | exact ih1 _ _ _ _ _ | exact spec_All.mono _ _ _ | exact spec_BookOk.mono _ _ _ | exact spec_InOrder.mono _ _ | exact spec_l15Level.mono _ _ _ _ _ | exact LeO.none _ | refine LeO.ite ?_ ?_ | refine LeO.bind ?_ (fun _ => ?_)
theorem spec_Dense.mono : ∀ a0 a1 k, LeO (spec_Dense.f k a0 a1) (spec_Dense.f (k + 1) a0 a1) := by
  intro a0 a1 k
  obtain ⟨ih0, ih1⟩ := spec_Dense.mono_l k; unfold spec_Dense.f
  repeat' first | (with_reducible first | exact ih0 _ _ _ | exact ih1 _ _ _ _ _ | exact spec_All.mono _ _ _ | exact spec_BookOk.mono _ _ _ | exact spec_InOrder.mono _ _ | exact spec_l15Level.mono _ _ _ _ _ | exact LeO.refl _ | exact LeO.none _ | refine LeO.ite ?_ ?_ | refine LeO.bind ?_ (fun _ => ?_)) | exact ih0 _ _ _ | exact ih1 _ _ _ _ _ | exact spec_All.mono _ _ _ | exact spec_BookOk.mono _ _ _ | exact spec_InOrder.mono _ _ | exact spec_l15Level.mono _ _ _ _ _ | exact LeO.none _ | refine LeO.ite ?_ ?_ | refine LeO.bind ?_ (fun _ => ?_)
set_option maxHeartbeats 8000000 in
set_option maxRecDepth 100000 in
theorem spec_Dense.calls (k : Nat) (a0_0 : Int) (A0_1 : Option Addr) (c0_1 : Nat) (l0_1 : List (S90)) (r : Bool) (w : World) (hr0_1 : Kd.C k90 w A0_1 l0_1.length l0_1) (hc0_1 : l0_1.length ≤ c0_1) (h : spec_Dense.f k a0_0 l0_1 = some r) :
    Calls Try.prog 55 #[.agg #[.int .i64 a0_0, .slice A0_1 l0_1.length c0_1]] w fun e w' => e = .returned (.bool r) ∧ Below w.heap.size w w' := by
  have hu49 := Try.underlying49; have HR0_1 := Aside0.mk hr0_1; have HC0_1 := Aside0.mk hc0_1; clear hr0_1 hc0_1; have HB := Aside0.mk (Below.refl w.heap.size w); have H : ((spec_BookOk.f k a0_0 l0_1).bind fun t1057 => (if t1057 = true then (spec_Dense.l0 k 1 a0_0 l0_1) else (some false))) = some r := h; clear h; replace H := Option.bind_eq_some_iff.mp H; obtain ⟨t1057, A20, H⟩ := H; replace H : (if t1057 = true then (spec_Dense.l0 k 1 a0_0 l0_1) else (some false)) = some r := H; have A2 := Aside0.mk A20; clear A20
  by_cases c3 : t1057 = true
  · subst c3
    replace H : (spec_Dense.l0 k 1 a0_0 l0_1) = some r := (by rw [if_pos rfl] at H; exact H); have H' := Aside0.mk H; clear H
    go_enter Try.func55, Try.ntmps55
    go_wp2_with (first | ((with_reducible refine gate_dst (N := 1) rfl ?_); refine box_event ?hg (N := 1) ?hd (cs := #[.int .i64 a0_0, .slice A0_1 l0_1.length c0_1]) (t := 49) ?hr ?_; (case hd => rfl); (case hg => rfl); (case hr => first | (go_simp; done) | (go_simp; rfl)); intro gb1056 hg w4 hbox hb; have n0_ := Aside0.mk (below_step (bz HB.out) hb); have n1_ := Aside0.mk (hbox); have n2_ := Aside0.mk ((by rw [hg]; exact (below_size (bz HB.out)) : w.heap.size ≤ gb1056)); have n3_ := Aside0.mk ((by rw [hg]; exact (below_size (bz HB.out)) : w.heap.size ≤ gb1056)); clear HB; have HB := n0_; have BK1056 := n1_; have GW1056 := n2_; have GE1056 := n3_; clear n0_ n1_ n2_ n3_; clear hb hbox hg; have hcz5_0 := fz BK1056.out 0 (.int .i64 a0_0); have hcz5_1 := fz BK1056.out 1 (.slice A0_1 l0_1.length c0_1); have hfz5_0 := blk_frozen BK1056.out 0; have hfz5_1 := blk_frozen BK1056.out 1) | (go_at_call 41; (with_reducible refine (spec_BookOk.calls k a0_0 _ _ l0_1 true _ ?side1 ?side2 A2.out).mono ?_); (case side1 => exact sz HR0_1.out HB.out); (case side2 => exact HC0_1.out); rintro e w6 ⟨rfl, hb⟩; have n0_ := Aside0.mk (blk_below (g := gb1056) (o := .cells #[.int .i64 a0_0, .slice A0_1 l0_1.length c0_1] 49 (0, 0)) (kz BK1056.out) hb); have n1_ := Aside0.mk (below_step (b1 GE1056.out HB.out) hb); clear BK1056; clear HB; have BK1056 := n0_; have HB := n1_; clear n0_ n1_; (try clear hb); (try clear hb2); (try clear hk); (try clear hi)))
    repeat (go_quiet (first | ((with_reducible refine gate_dst (N := 1) rfl ?_); refine box_event ?hg (N := 1) ?hd (cs := #[.int .i64 a0_0, .slice A0_1 l0_1.length c0_1]) (t := 49) ?hr ?_; (case hd => rfl); (case hg => rfl); (case hr => first | (go_simp; done) | (go_simp; rfl)); intro gb1056 hg w4 hbox hb; have n0_ := Aside0.mk (below_step (bz HB.out) hb); have n1_ := Aside0.mk (hbox); have n2_ := Aside0.mk ((by rw [hg]; exact (below_size (bz HB.out)) : w.heap.size ≤ gb1056)); have n3_ := Aside0.mk ((by rw [hg]; exact (below_size (bz HB.out)) : w.heap.size ≤ gb1056)); clear HB; have HB := n0_; have BK1056 := n1_; have GW1056 := n2_; have GE1056 := n3_; clear n0_ n1_ n2_ n3_; clear hb hbox hg; have hcz5_0 := fz BK1056.out 0 (.int .i64 a0_0); have hcz5_1 := fz BK1056.out 1 (.slice A0_1 l0_1.length c0_1); have hfz5_0 := blk_frozen BK1056.out 0; have hfz5_1 := blk_frozen BK1056.out 1) | (go_at_call 41; (with_reducible refine (spec_BookOk.calls k a0_0 _ _ l0_1 true _ ?side1 ?side2 A2.out).mono ?_); (case side1 => exact sz HR0_1.out HB.out); (case side2 => exact HC0_1.out); rintro e w6 ⟨rfl, hb⟩; have n0_ := Aside0.mk (blk_below (g := gb1056) (o := .cells #[.int .i64 a0_0, .slice A0_1 l0_1.length c0_1] 49 (0, 0)) (kz BK1056.out) hb); have n1_ := Aside0.mk (below_step (b1 GE1056.out HB.out) hb); clear BK1056; clear HB; have BK1056 := n0_; have HB := n1_; clear n0_ n1_; (try clear hb); (try clear hb2); (try clear hk); (try clear hi))); try go_wp2_with (first | ((with_reducible refine gate_dst (N := 1) rfl ?_); refine box_event ?hg (N := 1) ?hd (cs := #[.int .i64 a0_0, .slice A0_1 l0_1.length c0_1]) (t := 49) ?hr ?_; (case hd => rfl); (case hg => rfl); (case hr => first | (go_simp; done) | (go_simp; rfl)); intro gb1056 hg w4 hbox hb; have n0_ := Aside0.mk (below_step (bz HB.out) hb); have n1_ := Aside0.mk (hbox); have n2_ := Aside0.mk ((by rw [hg]; exact (below_size (bz HB.out)) : w.heap.size ≤ gb1056)); have n3_ := Aside0.mk ((by rw [hg]; exact (below_size (bz HB.out)) : w.heap.size ≤ gb1056)); clear HB; have HB := n0_; have BK1056 := n1_; have GW1056 := n2_; have GE1056 := n3_; clear n0_ n1_ n2_ n3_; clear hb hbox hg; have hcz5_0 := fz BK1056.out 0 (.int .i64 a0_0); have hcz5_1 := fz BK1056.out 1 (.slice A0_1 l0_1.length c0_1); have hfz5_0 := blk_frozen BK1056.out 0; have hfz5_1 := blk_frozen BK1056.out 1) | (go_at_call 41; (with_reducible refine (spec_BookOk.calls k a0_0 _ _ l0_1 true _ ?side1 ?side2 A2.out).mono ?_); (case side1 => exact sz HR0_1.out HB.out); (case side2 => exact HC0_1.out); rintro e w6 ⟨rfl, hb⟩; have n0_ := Aside0.mk (blk_below (g := gb1056) (o := .cells #[.int .i64 a0_0, .slice A0_1 l0_1.length c0_1] 49 (0, 0)) (kz BK1056.out) hb); have n1_ := Aside0.mk (below_step (b1 GE1056.out HB.out) hb); clear BK1056; clear HB; have BK1056 := n0_; have HB := n1_; clear n0_ n1_; (try clear hb); (try clear hb2); (try clear hk); (try clear hi))))
    go_loopg [3] k (fun kq v3 w' => ∃ (x3_1 : Int), v3 = .int .i64 x3_1 ∧ Aside0 (spec_Dense.l0 kq x3_1 a0_0 l0_1 = some r) ∧ Aside0 (kq ≤ k) ∧ Aside0 (w'.heap[gb1056]? = some (.cells #[.int .i64 a0_0, (.slice A0_1 l0_1.length c0_1)] 49 (0, 0))) ∧ Aside0 (Below w.heap.size w w'))
    case atStart => exact ⟨(1), az, H', ⟨Nat.le_refl _⟩, ⟨kz BK1056.out⟩, ⟨b1 GE1056.out HB.out⟩⟩
    case round =>
      clear H'; (try clear p2); (try clear c3); (try clear c5); (try clear hcz5_0); (try clear hcz5_1); (try clear hfz5_0); (try clear hfz5_1); obtain ⟨x3_1, rfl, HA, HK1, BK1056, HB⟩ := hrel
      cases gk with
      | zero => exact absurd HA.out (by simp [spec_Dense.l0])
      | succ k1 =>
        have H := HA.out; clear HA
        simp only [spec_Dense.l0] at H
        by_cases c7 : x3_1 ≤ 12
        · rw [if_pos c7] at H
          have c7b0 : decide (x3_1 ≤ 12) = true := decide_eq_true c7; clear c7; replace H := Option.bind_eq_some_iff.mp H; obtain ⟨t1062, A80, H⟩ := H; replace H : (spec_Dense.l1 k1 x3_1 t1062 0 a0_0 l0_1) = some r := H; have A8 := Aside0.mk A80; clear A80; have H' := Aside0.mk H; clear H; have hcz9_0 := fz BK1056.out 0 (.int .i64 a0_0); have hcz9_1 := fz BK1056.out 1 (.slice A0_1 l0_1.length c0_1); have hfz9_0 := blk_frozen BK1056.out 0; have hfz9_1 := blk_frozen BK1056.out 1
          go_wp2_with (first | (go_at_call 104; (with_reducible refine (spec_l15Level.calls k1 a0_0 _ _ l0_1 a0_0 x3_1 t1062 _ ?side1 ?side2 A8.out).mono ?_); (case side1 => exact sz HR0_1.out HB.out); (case side2 => exact HC0_1.out); rintro e w10 ⟨v1063, rfl, ho0, hb⟩; have n0_ := Aside0.mk (Kd.R_lower ho0 (below_size (b1 GE1056.out HB.out))); have n1_ := Aside0.mk (blk_below (g := gb1056) (o := .cells #[.int .i64 a0_0, .slice A0_1 l0_1.length c0_1] 49 (0, 0)) (kz BK1056.out) hb); have n2_ := Aside0.mk (below_step (b1 GE1056.out HB.out) hb); clear BK1056; clear HB; have HO1064 := n0_; have BK1056 := n1_; have HB := n2_; clear n0_ n1_ n2_; (try clear hb); (try clear hb2); (try clear hk); (try clear hi); (try clear ho0)))
          repeat (go_quiet (first | (go_at_call 104; (with_reducible refine (spec_l15Level.calls k1 a0_0 _ _ l0_1 a0_0 x3_1 t1062 _ ?side1 ?side2 A8.out).mono ?_); (case side1 => exact sz HR0_1.out HB.out); (case side2 => exact HC0_1.out); rintro e w10 ⟨v1063, rfl, ho0, hb⟩; have n0_ := Aside0.mk (Kd.R_lower ho0 (below_size (b1 GE1056.out HB.out))); have n1_ := Aside0.mk (blk_below (g := gb1056) (o := .cells #[.int .i64 a0_0, .slice A0_1 l0_1.length c0_1] 49 (0, 0)) (kz BK1056.out) hb); have n2_ := Aside0.mk (below_step (b1 GE1056.out HB.out) hb); clear BK1056; clear HB; have HO1064 := n0_; have BK1056 := n1_; have HB := n2_; clear n0_ n1_ n2_; (try clear hb); (try clear hb2); (try clear hk); (try clear hi); (try clear ho0))); try go_wp2_with (first | (go_at_call 104; (with_reducible refine (spec_l15Level.calls k1 a0_0 _ _ l0_1 a0_0 x3_1 t1062 _ ?side1 ?side2 A8.out).mono ?_); (case side1 => exact sz HR0_1.out HB.out); (case side2 => exact HC0_1.out); rintro e w10 ⟨v1063, rfl, ho0, hb⟩; have n0_ := Aside0.mk (Kd.R_lower ho0 (below_size (b1 GE1056.out HB.out))); have n1_ := Aside0.mk (blk_below (g := gb1056) (o := .cells #[.int .i64 a0_0, .slice A0_1 l0_1.length c0_1] 49 (0, 0)) (kz BK1056.out) hb); have n2_ := Aside0.mk (below_step (b1 GE1056.out HB.out) hb); clear BK1056; clear HB; have HO1064 := n0_; have BK1056 := n1_; have HB := n2_; clear n0_ n1_ n2_; (try clear hb); (try clear hb2); (try clear hk); (try clear hi); (try clear ho0))))
          go_loopg [5] k1 (fun kq v5 w' => ∃ (x5_2 : Int), v5 = .int .i64 x5_2 ∧ Aside0 (spec_Dense.l1 kq x3_1 t1062 x5_2 a0_0 l0_1 = some r) ∧ Aside0 (kq ≤ k1) ∧ Aside0 (Kd.R (Kd.int .i64) 3 w' w.heap.size (fun _ => True) v1063 t1062) ∧ Aside0 (w'.heap[gb1056]? = some (.cells #[.int .i64 a0_0, (.slice A0_1 l0_1.length c0_1)] 49 (0, 0))) ∧ Aside0 (Below w.heap.size w w'))
          case atStart => exact ⟨(0), az, H', ⟨Nat.le_refl _⟩, ⟨rz HO1064.out⟩, ⟨kz BK1056.out⟩, ⟨b1 GE1056.out HB.out⟩⟩
          case round =>
            clear H'; (try clear p2); (try clear c3); (try clear c5); (try clear c7); (try clear c7b0); (try clear hcz5_0); (try clear hcz5_1); (try clear hcz9_0); (try clear hcz9_1); (try clear hfz5_0); (try clear hfz5_1); (try clear hfz9_0); (try clear hfz9_1); (try clear p2); obtain ⟨x5_2, rfl, HA, HK2, HO_4, BK1056, HB⟩ := hrel
            cases gk with
            | zero => exact absurd HA.out (by simp [spec_Dense.l1])
            | succ k2 =>
              have H := HA.out; clear HA
              simp only [spec_Dense.l1] at H
              by_cases c11 : (wrap64 (x5_2 + 1)) < (t1062.length : Int)
              · rw [if_pos c11] at H
                have c11b0 : decide ((wrap64 (x5_2 + 1)) < (t1062.length : Int)) = true := decide_eq_true c11; clear c11
                by_cases c12 : 0 ≤ x5_2
                · rw [if_pos c12] at H
                  have c12b0 : decide (0 ≤ x5_2) = true := decide_eq_true c12; clear c12
                  by_cases c13 : x5_2 < (t1062.length : Int)
                  · rw [if_pos c13] at H
                    have c13b0 : decide (x5_2 < (t1062.length : Int)) = true := decide_eq_true c13; clear c13
                    by_cases c14 : 0 ≤ (rd t1062 x5_2)
                    · rw [if_pos c14] at H
                      have c14b0 : decide (0 ≤ (rd t1062 x5_2)) = true := decide_eq_true c14; clear c14
                      by_cases c15 : (rd t1062 x5_2) < (l0_1.length : Int)
                      · rw [if_pos c15] at H
                        have c15b0 : decide ((rd t1062 x5_2) < (l0_1.length : Int)) = true := decide_eq_true c15; clear c15
                        by_cases c16 : (((rd_T90 l0_1 (rd t1062 x5_2)).f1.f1).length : Int) = 4
                        · rw [if_pos c16] at H
                          have c16b0 : ((((rd_T90 l0_1 (rd t1062 x5_2)).f1.f1).length : Int) == 4) = true := beq_iff_eq.mpr c16; have c16b1 : ((((rd_T90 l0_1 (rd t1062 x5_2)).f1.f1).length : Int) != 4) = false := bne_eq_false_iff_eq.mpr c16; clear c16; have H' := Aside0.mk H; clear H; obtain ⟨Ao17, co17, eo17⟩ := Kd.R_slice HO_4.out; subst eo17; have hcz18_0 := fz BK1056.out 0 (.int .i64 a0_0); have hcz18_1 := fz BK1056.out 1 (.slice A0_1 l0_1.length c0_1); have hfz18_0 := blk_frozen BK1056.out 0; have hfz18_1 := blk_frozen BK1056.out 1; have p1065 : 0 ≤ (x5_2 : Int) := of_decide_eq_true uz; have q1065 : x5_2 < (t1062.length : Int) := of_decide_eq_true uz; obtain ⟨ad1065, e1065, hx1065_0⟩ := Kd.at_int (Kd.R_reads' HO_4.out).2.2 x5_2 p1065 q1065
                          cases e1065
                          replace p1065 := eq_true p1065; replace q1065 := eq_true q1065; have p1066 : 0 ≤ ((rd t1062 x5_2) : Int) := of_decide_eq_true uz; have q1066 : (rd t1062 x5_2) < (l0_1.length : Int) := of_decide_eq_true uz; obtain ⟨ad1066, A1066_2, c1066_2, e1066, hx1066_0, hx1066_1, hx1066_2, hl1066_2, hi1066_2⟩ := at_T90 HR0_1.out (rd t1062 x5_2) p1066 q1066
                          cases e1066
                          replace hx1066_0 := cz HB.out hx1066_0; replace hx1066_1 := cz HB.out hx1066_1; replace hx1066_2 := cz HB.out hx1066_2; have HR1066_2 := Aside0.mk hi1066_2; have HC1066_2 := Aside0.mk hl1066_2; clear hi1066_2 hl1066_2; replace p1066 := eq_true p1066; replace q1066 := eq_true q1066; go_wp2
                          repeat (go_quiet (fail); try go_wp2)
                          go_roundg k2
                          case measure => have := HK1.out; have := HK2.out; omega
                          case rel => exact ⟨(wrap64 (x5_2 + 1)), az, H', ⟨by have := HK1.out; have := HK2.out; omega⟩, ⟨rz HO_4.out⟩, ⟨kz BK1056.out⟩, ⟨b1 GE1056.out HB.out⟩⟩
                        · rw [if_neg c16] at H
                          have c16b0 : ((((rd_T90 l0_1 (rd t1062 x5_2)).f1.f1).length : Int) == 4) = false := beq_eq_false_iff_ne.mpr c16; have c16b1 : ((((rd_T90 l0_1 (rd t1062 x5_2)).f1.f1).length : Int) != 4) = true := bne_iff_ne.mpr c16; obtain rfl := Option.some.inj H; obtain ⟨Ao19, co19, eo19⟩ := Kd.R_slice HO_4.out; subst eo19; have hcz20_0 := fz BK1056.out 0 (.int .i64 a0_0); have hcz20_1 := fz BK1056.out 1 (.slice A0_1 l0_1.length c0_1); have hfz20_0 := blk_frozen BK1056.out 0; have hfz20_1 := blk_frozen BK1056.out 1; have p1065 : 0 ≤ (x5_2 : Int) := of_decide_eq_true uz; have q1065 : x5_2 < (t1062.length : Int) := of_decide_eq_true uz; obtain ⟨ad1065, e1065, hx1065_0⟩ := Kd.at_int (Kd.R_reads' HO_4.out).2.2 x5_2 p1065 q1065
                          cases e1065
                          replace p1065 := eq_true p1065; replace q1065 := eq_true q1065; have p1066 : 0 ≤ ((rd t1062 x5_2) : Int) := of_decide_eq_true uz; have q1066 : (rd t1062 x5_2) < (l0_1.length : Int) := of_decide_eq_true uz; obtain ⟨ad1066, A1066_2, c1066_2, e1066, hx1066_0, hx1066_1, hx1066_2, hl1066_2, hi1066_2⟩ := at_T90 HR0_1.out (rd t1062 x5_2) p1066 q1066
                          cases e1066
                          replace hx1066_0 := cz HB.out hx1066_0; replace hx1066_1 := cz HB.out hx1066_1; replace hx1066_2 := cz HB.out hx1066_2; have HR1066_2 := Aside0.mk hi1066_2; have HC1066_2 := Aside0.mk hl1066_2; clear hi1066_2 hl1066_2; replace p1066 := eq_true p1066; replace q1066 := eq_true q1066; go_wp2
                          repeat (go_quiet (fail); try go_wp2)
                          go_ret; exact ⟨ez, b1 GE1056.out HB.out⟩
                      · rw [if_neg c15] at H
                        exact absurd H (by simp)
                    · rw [if_neg c14] at H
                      exact absurd H (by simp)
                  · rw [if_neg c13] at H
                    exact absurd H (by simp)
                · rw [if_neg c12] at H
                  exact absurd H (by simp)
              · rw [if_neg c11] at H
                have c11b0 : decide ((wrap64 (x5_2 + 1)) < (t1062.length : Int)) = false := decide_eq_false c11; clear c11; have H' := Aside0.mk H; clear H; obtain ⟨Ao21, co21, eo21⟩ := Kd.R_slice HO_4.out; subst eo21; go_wp2
                repeat (go_quiet (fail); try go_wp2)
                go_roundg k2
                case measure => have := HK1.out; have := HK2.out; omega
                case rel => exact ⟨(wrap64 (x3_1 + 1)), az, H', ⟨by have := HK1.out; have := HK2.out; omega⟩, ⟨kz BK1056.out⟩, ⟨b1 GE1056.out HB.out⟩⟩
        · rw [if_neg c7] at H
          have c7b0 : decide (x3_1 ≤ 12) = false := decide_eq_false c7; clear c7; replace H := Option.bind_eq_some_iff.mp H; obtain ⟨t1058, A220, H⟩ := H; replace H : ((spec_InOrder.f k1 t1058).bind fun t1061 => (some t1061)) = some r := H; have A22 := Aside0.mk A220; clear A220; replace H := Option.bind_eq_some_iff.mp H; obtain ⟨t1061, A230, H⟩ := H; replace H : (some t1061) = some r := H; have A23 := Aside0.mk A230; clear A230; obtain rfl := Option.some.inj H; have hcz24_0 := fz BK1056.out 0 (.int .i64 a0_0); have hcz24_1 := fz BK1056.out 1 (.slice A0_1 l0_1.length c0_1); have hfz24_0 := blk_frozen BK1056.out 0; have hfz24_1 := blk_frozen BK1056.out 1
          go_wp2_with (first | (go_at_call 106; (with_reducible refine (spec_All.calls k1 a0_0 _ _ l0_1 t1058 _ ?side1 ?side2 A22.out).mono ?_); (case side1 => exact sz HR0_1.out HB.out); (case side2 => exact HC0_1.out); rintro e w25 ⟨v1059, rfl, ho0, hb⟩; have n0_ := Aside0.mk (Kd.R_lower ho0 (below_size (b1 GE1056.out HB.out))); have n1_ := Aside0.mk (blk_below (g := gb1056) (o := .cells #[.int .i64 a0_0, .slice A0_1 l0_1.length c0_1] 49 (0, 0)) (kz BK1056.out) hb); have n2_ := Aside0.mk (below_step (b1 GE1056.out HB.out) hb); clear BK1056; clear HB; have HO1060 := n0_; have BK1056 := n1_; have HB := n2_; clear n0_ n1_ n2_; (try clear hb); (try clear hb2); (try clear hk); (try clear hi); (try clear ho0); obtain ⟨Ao26, co26, eo26⟩ := Kd.R_slice HO1060.out; subst eo26) | (go_at_call 105; (with_reducible refine (spec_InOrder.calls k1 _ _ t1058 t1061 _ ?side1 ?side2 A23.out).mono ?_); (case side1 => repeat (first | exact (Kd.R_reads' HO1060.out).2.2 | (with_reducible refine Kd.C_alloc ?_ _) | (with_reducible refine Kd.C_drewN ?_ _) | (with_reducible refine Kd.C_drew ?_))); (case side2 => exact (Kd.R_reads' HO1060.out).2.1); rintro e w27 ⟨rfl, hb⟩; have n0_ := Aside0.mk (Kd.R_below (rz HO1060.out) hb); have n1_ := Aside0.mk (blk_below (g := gb1056) (o := .cells #[.int .i64 a0_0, .slice A0_1 l0_1.length c0_1] 49 (0, 0)) (kz BK1056.out) hb); have n2_ := Aside0.mk (below_step (b1 GE1056.out HB.out) hb); clear HO1060; clear BK1056; clear HB; have HO1060 := n0_; have BK1056 := n1_; have HB := n2_; clear n0_ n1_ n2_; (try clear hb); (try clear hb2); (try clear hk); (try clear hi)))
          repeat (go_quiet (first | (go_at_call 106; (with_reducible refine (spec_All.calls k1 a0_0 _ _ l0_1 t1058 _ ?side1 ?side2 A22.out).mono ?_); (case side1 => exact sz HR0_1.out HB.out); (case side2 => exact HC0_1.out); rintro e w25 ⟨v1059, rfl, ho0, hb⟩; have n0_ := Aside0.mk (Kd.R_lower ho0 (below_size (b1 GE1056.out HB.out))); have n1_ := Aside0.mk (blk_below (g := gb1056) (o := .cells #[.int .i64 a0_0, .slice A0_1 l0_1.length c0_1] 49 (0, 0)) (kz BK1056.out) hb); have n2_ := Aside0.mk (below_step (b1 GE1056.out HB.out) hb); clear BK1056; clear HB; have HO1060 := n0_; have BK1056 := n1_; have HB := n2_; clear n0_ n1_ n2_; (try clear hb); (try clear hb2); (try clear hk); (try clear hi); (try clear ho0); obtain ⟨Ao26, co26, eo26⟩ := Kd.R_slice HO1060.out; subst eo26) | (go_at_call 105; (with_reducible refine (spec_InOrder.calls k1 _ _ t1058 t1061 _ ?side1 ?side2 A23.out).mono ?_); (case side1 => repeat (first | exact (Kd.R_reads' HO1060.out).2.2 | (with_reducible refine Kd.C_alloc ?_ _) | (with_reducible refine Kd.C_drewN ?_ _) | (with_reducible refine Kd.C_drew ?_))); (case side2 => exact (Kd.R_reads' HO1060.out).2.1); rintro e w27 ⟨rfl, hb⟩; have n0_ := Aside0.mk (Kd.R_below (rz HO1060.out) hb); have n1_ := Aside0.mk (blk_below (g := gb1056) (o := .cells #[.int .i64 a0_0, .slice A0_1 l0_1.length c0_1] 49 (0, 0)) (kz BK1056.out) hb); have n2_ := Aside0.mk (below_step (b1 GE1056.out HB.out) hb); clear HO1060; clear BK1056; clear HB; have HO1060 := n0_; have BK1056 := n1_; have HB := n2_; clear n0_ n1_ n2_; (try clear hb); (try clear hb2); (try clear hk); (try clear hi))); try go_wp2_with (first | (go_at_call 106; (with_reducible refine (spec_All.calls k1 a0_0 _ _ l0_1 t1058 _ ?side1 ?side2 A22.out).mono ?_); (case side1 => exact sz HR0_1.out HB.out); (case side2 => exact HC0_1.out); rintro e w25 ⟨v1059, rfl, ho0, hb⟩; have n0_ := Aside0.mk (Kd.R_lower ho0 (below_size (b1 GE1056.out HB.out))); have n1_ := Aside0.mk (blk_below (g := gb1056) (o := .cells #[.int .i64 a0_0, .slice A0_1 l0_1.length c0_1] 49 (0, 0)) (kz BK1056.out) hb); have n2_ := Aside0.mk (below_step (b1 GE1056.out HB.out) hb); clear BK1056; clear HB; have HO1060 := n0_; have BK1056 := n1_; have HB := n2_; clear n0_ n1_ n2_; (try clear hb); (try clear hb2); (try clear hk); (try clear hi); (try clear ho0); obtain ⟨Ao26, co26, eo26⟩ := Kd.R_slice HO1060.out; subst eo26) | (go_at_call 105; (with_reducible refine (spec_InOrder.calls k1 _ _ t1058 t1061 _ ?side1 ?side2 A23.out).mono ?_); (case side1 => repeat (first | exact (Kd.R_reads' HO1060.out).2.2 | (with_reducible refine Kd.C_alloc ?_ _) | (with_reducible refine Kd.C_drewN ?_ _) | (with_reducible refine Kd.C_drew ?_))); (case side2 => exact (Kd.R_reads' HO1060.out).2.1); rintro e w27 ⟨rfl, hb⟩; have n0_ := Aside0.mk (Kd.R_below (rz HO1060.out) hb); have n1_ := Aside0.mk (blk_below (g := gb1056) (o := .cells #[.int .i64 a0_0, .slice A0_1 l0_1.length c0_1] 49 (0, 0)) (kz BK1056.out) hb); have n2_ := Aside0.mk (below_step (b1 GE1056.out HB.out) hb); clear HO1060; clear BK1056; clear HB; have HO1060 := n0_; have BK1056 := n1_; have HB := n2_; clear n0_ n1_ n2_; (try clear hb); (try clear hb2); (try clear hk); (try clear hi))))
          go_ret; exact ⟨ez, b1 GE1056.out HB.out⟩
  · replace c3 := Bool.eq_false_iff.mpr c3
    subst c3; replace H : (some false) = some r := (by rw [if_neg (show ¬ (false = true) by decide)] at H; exact H); obtain rfl := Option.some.inj H
    go_enter Try.func55, Try.ntmps55
    go_wp2_with (first | ((with_reducible refine gate_dst (N := 1) rfl ?_); refine box_event ?hg (N := 1) ?hd (cs := #[.int .i64 a0_0, .slice A0_1 l0_1.length c0_1]) (t := 49) ?hr ?_; (case hd => rfl); (case hg => rfl); (case hr => first | (go_simp; done) | (go_simp; rfl)); intro gb1056 hg w28 hbox hb; have n0_ := Aside0.mk (below_step (bz HB.out) hb); have n1_ := Aside0.mk (hbox); have n2_ := Aside0.mk ((by rw [hg]; exact (below_size (bz HB.out)) : w.heap.size ≤ gb1056)); have n3_ := Aside0.mk ((by rw [hg]; exact (below_size (bz HB.out)) : w.heap.size ≤ gb1056)); clear HB; have HB := n0_; have BK1056 := n1_; have GW1056 := n2_; have GE1056 := n3_; clear n0_ n1_ n2_ n3_; clear hb hbox hg; have hcz29_0 := fz BK1056.out 0 (.int .i64 a0_0); have hcz29_1 := fz BK1056.out 1 (.slice A0_1 l0_1.length c0_1); have hfz29_0 := blk_frozen BK1056.out 0; have hfz29_1 := blk_frozen BK1056.out 1) | (go_at_call 41; (with_reducible refine (spec_BookOk.calls k a0_0 _ _ l0_1 false _ ?side1 ?side2 A2.out).mono ?_); (case side1 => exact sz HR0_1.out HB.out); (case side2 => exact HC0_1.out); rintro e w30 ⟨rfl, hb⟩; have n0_ := Aside0.mk (blk_below (g := gb1056) (o := .cells #[.int .i64 a0_0, .slice A0_1 l0_1.length c0_1] 49 (0, 0)) (kz BK1056.out) hb); have n1_ := Aside0.mk (below_step (b1 GE1056.out HB.out) hb); clear BK1056; clear HB; have BK1056 := n0_; have HB := n1_; clear n0_ n1_; (try clear hb); (try clear hb2); (try clear hk); (try clear hi)))
    repeat (go_quiet (first | ((with_reducible refine gate_dst (N := 1) rfl ?_); refine box_event ?hg (N := 1) ?hd (cs := #[.int .i64 a0_0, .slice A0_1 l0_1.length c0_1]) (t := 49) ?hr ?_; (case hd => rfl); (case hg => rfl); (case hr => first | (go_simp; done) | (go_simp; rfl)); intro gb1056 hg w28 hbox hb; have n0_ := Aside0.mk (below_step (bz HB.out) hb); have n1_ := Aside0.mk (hbox); have n2_ := Aside0.mk ((by rw [hg]; exact (below_size (bz HB.out)) : w.heap.size ≤ gb1056)); have n3_ := Aside0.mk ((by rw [hg]; exact (below_size (bz HB.out)) : w.heap.size ≤ gb1056)); clear HB; have HB := n0_; have BK1056 := n1_; have GW1056 := n2_; have GE1056 := n3_; clear n0_ n1_ n2_ n3_; clear hb hbox hg; have hcz29_0 := fz BK1056.out 0 (.int .i64 a0_0); have hcz29_1 := fz BK1056.out 1 (.slice A0_1 l0_1.length c0_1); have hfz29_0 := blk_frozen BK1056.out 0; have hfz29_1 := blk_frozen BK1056.out 1) | (go_at_call 41; (with_reducible refine (spec_BookOk.calls k a0_0 _ _ l0_1 false _ ?side1 ?side2 A2.out).mono ?_); (case side1 => exact sz HR0_1.out HB.out); (case side2 => exact HC0_1.out); rintro e w30 ⟨rfl, hb⟩; have n0_ := Aside0.mk (blk_below (g := gb1056) (o := .cells #[.int .i64 a0_0, .slice A0_1 l0_1.length c0_1] 49 (0, 0)) (kz BK1056.out) hb); have n1_ := Aside0.mk (below_step (b1 GE1056.out HB.out) hb); clear BK1056; clear HB; have BK1056 := n0_; have HB := n1_; clear n0_ n1_; (try clear hb); (try clear hb2); (try clear hk); (try clear hi))); try go_wp2_with (first | ((with_reducible refine gate_dst (N := 1) rfl ?_); refine box_event ?hg (N := 1) ?hd (cs := #[.int .i64 a0_0, .slice A0_1 l0_1.length c0_1]) (t := 49) ?hr ?_; (case hd => rfl); (case hg => rfl); (case hr => first | (go_simp; done) | (go_simp; rfl)); intro gb1056 hg w28 hbox hb; have n0_ := Aside0.mk (below_step (bz HB.out) hb); have n1_ := Aside0.mk (hbox); have n2_ := Aside0.mk ((by rw [hg]; exact (below_size (bz HB.out)) : w.heap.size ≤ gb1056)); have n3_ := Aside0.mk ((by rw [hg]; exact (below_size (bz HB.out)) : w.heap.size ≤ gb1056)); clear HB; have HB := n0_; have BK1056 := n1_; have GW1056 := n2_; have GE1056 := n3_; clear n0_ n1_ n2_ n3_; clear hb hbox hg; have hcz29_0 := fz BK1056.out 0 (.int .i64 a0_0); have hcz29_1 := fz BK1056.out 1 (.slice A0_1 l0_1.length c0_1); have hfz29_0 := blk_frozen BK1056.out 0; have hfz29_1 := blk_frozen BK1056.out 1) | (go_at_call 41; (with_reducible refine (spec_BookOk.calls k a0_0 _ _ l0_1 false _ ?side1 ?side2 A2.out).mono ?_); (case side1 => exact sz HR0_1.out HB.out); (case side2 => exact HC0_1.out); rintro e w30 ⟨rfl, hb⟩; have n0_ := Aside0.mk (blk_below (g := gb1056) (o := .cells #[.int .i64 a0_0, .slice A0_1 l0_1.length c0_1] 49 (0, 0)) (kz BK1056.out) hb); have n1_ := Aside0.mk (below_step (b1 GE1056.out HB.out) hb); clear BK1056; clear HB; have BK1056 := n0_; have HB := n1_; clear n0_ n1_; (try clear hb); (try clear hb2); (try clear hk); (try clear hi))))
    go_ret; exact ⟨ez, b1 GE1056.out HB.out⟩

attribute [local go_sem] max2_int min2_int max_two min_two max_three min_three max_four min_four 
set_option linter.unusedVariables false
set_option linter.unusedSimpArgs false

/-! ### impl_exists: function 77 -/
def impl_exists.f (a0_0 : Int) (l0_1 : List (S90)) (a1 : Int) : Option (Bool) := if a1 ≥ 0 then (some (decide (a1 < (l0_1.length : Int)))) else (some false)
set_option maxHeartbeats 8000000 in
set_option maxRecDepth 100000 in
theorem impl_exists.calls (a0_0 : Int) (A0_1 : Option Addr) (c0_1 : Nat) (l0_1 : List (S90)) (a1 : Int) (r : Bool) (w : World) (hr0_1 : Kd.C k90 w A0_1 l0_1.length l0_1) (hc0_1 : l0_1.length ≤ c0_1) (h : impl_exists.f a0_0 l0_1 a1 = some r) :
    Calls Try.prog 77 #[.agg #[.int .i64 a0_0, .slice A0_1 l0_1.length c0_1], .int .i64 a1] w fun e w' => e = .returned (.bool r) ∧ Below w.heap.size w w' := by
  have hu49 := Try.underlying49; have HR0_1 := Aside0.mk hr0_1; have HC0_1 := Aside0.mk hc0_1; clear hr0_1 hc0_1; have HB := Aside0.mk (Below.refl w.heap.size w); have H : (if a1 ≥ 0 then (some (decide (a1 < (l0_1.length : Int)))) else (some false)) = some r := h; clear h
  by_cases c3 : a1 ≥ 0
  · rw [if_pos c3] at H
    have c3b0 : decide (0 ≤ a1) = true := decide_eq_true c3; clear c3; obtain rfl := Option.some.inj H
    go_enter Try.func77, Try.ntmps77
    go_wp2_with (first | ((with_reducible refine gate_dst (N := 2) rfl ?_); (try (refine gate_guard (by rfl) ?_; dsimp only)); refine box_event ?hg (N := 2) ?hd (cs := #[.int .i64 a0_0, .slice A0_1 l0_1.length c0_1]) (t := 49) ?hr ?_; (case hd => rfl); (case hg => rfl); (case hr => first | (go_simp; done) | (go_simp; rfl)); intro gb341 hg w4 hbox hb; have n0_ := Aside0.mk (below_step (bz HB.out) hb); have n1_ := Aside0.mk (hbox); have n2_ := Aside0.mk ((by rw [hg]; exact (below_size (bz HB.out)) : w.heap.size ≤ gb341)); have n3_ := Aside0.mk ((by rw [hg]; exact (below_size (bz HB.out)) : w.heap.size ≤ gb341)); clear HB; have HB := n0_; have BK341 := n1_; have GW341 := n2_; have GE341 := n3_; clear n0_ n1_ n2_ n3_; clear hb hbox hg; have hcz5_0 := fz BK341.out 0 (.int .i64 a0_0); have hcz5_1 := fz BK341.out 1 (.slice A0_1 l0_1.length c0_1); have hfz5_0 := blk_frozen BK341.out 0; have hfz5_1 := blk_frozen BK341.out 1))
    go_ret; exact ⟨ez, b1 GE341.out HB.out⟩
  · rw [if_neg c3] at H
    have c3b0 : decide (0 ≤ a1) = false := decide_eq_false c3; clear c3; obtain rfl := Option.some.inj H
    go_enter Try.func77, Try.ntmps77
    go_wp2_with (first | ((with_reducible refine gate_dst (N := 2) rfl ?_); (try (refine gate_guard (by rfl) ?_; dsimp only)); refine box_event ?hg (N := 2) ?hd (cs := #[.int .i64 a0_0, .slice A0_1 l0_1.length c0_1]) (t := 49) ?hr ?_; (case hd => rfl); (case hg => rfl); (case hr => first | (go_simp; done) | (go_simp; rfl)); intro gb341 hg w6 hbox hb; have n0_ := Aside0.mk (below_step (bz HB.out) hb); have n1_ := Aside0.mk (hbox); have n2_ := Aside0.mk ((by rw [hg]; exact (below_size (bz HB.out)) : w.heap.size ≤ gb341)); have n3_ := Aside0.mk ((by rw [hg]; exact (below_size (bz HB.out)) : w.heap.size ≤ gb341)); clear HB; have HB := n0_; have BK341 := n1_; have GW341 := n2_; have GE341 := n3_; clear n0_ n1_ n2_ n3_; clear hb hbox hg))
    go_ret; exact ⟨ez, b1 GE341.out HB.out⟩

attribute [local go_sem] max2_int min2_int max_two min_two max_three min_three max_four min_four 
set_option linter.unusedVariables false
set_option linter.unusedSimpArgs false

/-! ### impl_used: function 89 -/
def impl_used.f (a0_0 : Int) (l0_1 : List (S90)) (a1 : Int) : Option (Bool) := (impl_exists.f a0_0 l0_1 a1).bind fun t610 => (if t610 = true then (if 0 ≤ a1 then (if a1 < (l0_1.length : Int) then (some ((rd_T90 l0_1 a1).f0)) else (none)) else (none)) else (some false))
set_option maxHeartbeats 8000000 in
set_option maxRecDepth 100000 in
theorem impl_used.calls (a0_0 : Int) (A0_1 : Option Addr) (c0_1 : Nat) (l0_1 : List (S90)) (a1 : Int) (r : Bool) (w : World) (hr0_1 : Kd.C k90 w A0_1 l0_1.length l0_1) (hc0_1 : l0_1.length ≤ c0_1) (h : impl_used.f a0_0 l0_1 a1 = some r) :
    Calls Try.prog 89 #[.agg #[.int .i64 a0_0, .slice A0_1 l0_1.length c0_1], .int .i64 a1] w fun e w' => e = .returned (.bool r) ∧ Below w.heap.size w w' := by
  have hu49 := Try.underlying49; have HR0_1 := Aside0.mk hr0_1; have HC0_1 := Aside0.mk hc0_1; clear hr0_1 hc0_1; have HB := Aside0.mk (Below.refl w.heap.size w); have H : ((impl_exists.f a0_0 l0_1 a1).bind fun t610 => (if t610 = true then (if 0 ≤ a1 then (if a1 < (l0_1.length : Int) then (some ((rd_T90 l0_1 a1).f0)) else (none)) else (none)) else (some false))) = some r := h; clear h; replace H := Option.bind_eq_some_iff.mp H; obtain ⟨t610, A30, H⟩ := H; replace H : (if t610 = true then (if 0 ≤ a1 then (if a1 < (l0_1.length : Int) then (some ((rd_T90 l0_1 a1).f0)) else (none)) else (none)) else (some false)) = some r := H; have A3 := Aside0.mk A30; clear A30
  by_cases c4 : t610 = true
  · subst c4
    replace H : (if 0 ≤ a1 then (if a1 < (l0_1.length : Int) then (some ((rd_T90 l0_1 a1).f0)) else (none)) else (none)) = some r := (by rw [if_pos rfl] at H; exact H)
    by_cases c5 : 0 ≤ a1
    · rw [if_pos c5] at H
      have c5b0 : decide (0 ≤ a1) = true := decide_eq_true c5; clear c5
      by_cases c6 : a1 < (l0_1.length : Int)
      · rw [if_pos c6] at H
        have c6b0 : decide (a1 < (l0_1.length : Int)) = true := decide_eq_true c6; clear c6; obtain rfl := Option.some.inj H
        go_enter Try.func89, Try.ntmps89
        go_wp2_with (first | ((with_reducible refine gate_dst (N := 2) rfl ?_); refine box_event ?hg (N := 2) ?hd (cs := #[.int .i64 a0_0, .slice A0_1 l0_1.length c0_1]) (t := 49) ?hr ?_; (case hd => rfl); (case hg => rfl); (case hr => first | (go_simp; done) | (go_simp; rfl)); intro gb609 hg w7 hbox hb; have n0_ := Aside0.mk (below_step (bz HB.out) hb); have n1_ := Aside0.mk (hbox); have n2_ := Aside0.mk ((by rw [hg]; exact (below_size (bz HB.out)) : w.heap.size ≤ gb609)); have n3_ := Aside0.mk ((by rw [hg]; exact (below_size (bz HB.out)) : w.heap.size ≤ gb609)); clear HB; have HB := n0_; have BK609 := n1_; have GW609 := n2_; have GE609 := n3_; clear n0_ n1_ n2_ n3_; clear hb hbox hg; have hcz8_0 := fz BK609.out 0 (.int .i64 a0_0); have hcz8_1 := fz BK609.out 1 (.slice A0_1 l0_1.length c0_1); have hfz8_0 := blk_frozen BK609.out 0; have hfz8_1 := blk_frozen BK609.out 1) | ((with_reducible refine gate_callee (f := 77) rfl ?_); refine goesL_ (some 7) rfl rfl Try.func77 (by kernel_rfl) rfl #[.agg #[.int .i64 a0_0, .slice A0_1 l0_1.length c0_1], .int .i64 a1] rfl dz ?_; (with_reducible refine (impl_exists.calls a0_0 _ _ l0_1 a1 true _ ?side1 ?side2 A3.out).mono ?_); (case side1 => exact sz HR0_1.out HB.out); (case side2 => exact HC0_1.out); rintro e w9 ⟨rfl, hb⟩; refine ⟨_, rfl, ?_⟩; have n0_ := Aside0.mk (blk_below (g := gb609) (o := .cells #[.int .i64 a0_0, .slice A0_1 l0_1.length c0_1] 49 (0, 0)) (kz BK609.out) hb); have n1_ := Aside0.mk (below_step (b1 GE609.out HB.out) hb); clear BK609; clear HB; have BK609 := n0_; have HB := n1_; clear n0_ n1_; (try clear hb); (try clear hb2); (try clear hk); (try clear hi); have hcz10_0 := fz BK609.out 0 (.int .i64 a0_0); have hcz10_1 := fz BK609.out 1 (.slice A0_1 l0_1.length c0_1); have hfz10_0 := blk_frozen BK609.out 0; have hfz10_1 := blk_frozen BK609.out 1; have p611 : 0 ≤ (a1 : Int) := of_decide_eq_true uz; have q611 : a1 < (l0_1.length : Int) := of_decide_eq_true uz; obtain ⟨ad611, A611_2, c611_2, e611, hx611_0, hx611_1, hx611_2, hl611_2, hi611_2⟩ := at_T90 HR0_1.out a1 p611 q611; cases e611; replace hx611_0 := cz HB.out hx611_0; replace hx611_1 := cz HB.out hx611_1; replace hx611_2 := cz HB.out hx611_2; have HR611_2 := Aside0.mk hi611_2; have HC611_2 := Aside0.mk hl611_2; clear hi611_2 hl611_2; replace p611 := eq_true p611; replace q611 := eq_true q611))
        go_ret; exact ⟨ez, b1 GE609.out HB.out⟩
      · rw [if_neg c6] at H
        exact absurd H (by simp)
    · rw [if_neg c5] at H
      exact absurd H (by simp)
  · replace c4 := Bool.eq_false_iff.mpr c4
    subst c4; replace H : (some false) = some r := (by rw [if_neg (show ¬ (false = true) by decide)] at H; exact H); obtain rfl := Option.some.inj H
    go_enter Try.func89, Try.ntmps89
    go_wp2_with (first | ((with_reducible refine gate_dst (N := 2) rfl ?_); refine box_event ?hg (N := 2) ?hd (cs := #[.int .i64 a0_0, .slice A0_1 l0_1.length c0_1]) (t := 49) ?hr ?_; (case hd => rfl); (case hg => rfl); (case hr => first | (go_simp; done) | (go_simp; rfl)); intro gb609 hg w11 hbox hb; have n0_ := Aside0.mk (below_step (bz HB.out) hb); have n1_ := Aside0.mk (hbox); have n2_ := Aside0.mk ((by rw [hg]; exact (below_size (bz HB.out)) : w.heap.size ≤ gb609)); have n3_ := Aside0.mk ((by rw [hg]; exact (below_size (bz HB.out)) : w.heap.size ≤ gb609)); clear HB; have HB := n0_; have BK609 := n1_; have GW609 := n2_; have GE609 := n3_; clear n0_ n1_ n2_ n3_; clear hb hbox hg; have hcz12_0 := fz BK609.out 0 (.int .i64 a0_0); have hcz12_1 := fz BK609.out 1 (.slice A0_1 l0_1.length c0_1); have hfz12_0 := blk_frozen BK609.out 0; have hfz12_1 := blk_frozen BK609.out 1) | ((with_reducible refine gate_callee (f := 77) rfl ?_); refine goesL_ (some 7) rfl rfl Try.func77 (by kernel_rfl) rfl #[.agg #[.int .i64 a0_0, .slice A0_1 l0_1.length c0_1], .int .i64 a1] rfl dz ?_; (with_reducible refine (impl_exists.calls a0_0 _ _ l0_1 a1 false _ ?side1 ?side2 A3.out).mono ?_); (case side1 => exact sz HR0_1.out HB.out); (case side2 => exact HC0_1.out); rintro e w13 ⟨rfl, hb⟩; refine ⟨_, rfl, ?_⟩; have n0_ := Aside0.mk (blk_below (g := gb609) (o := .cells #[.int .i64 a0_0, .slice A0_1 l0_1.length c0_1] 49 (0, 0)) (kz BK609.out) hb); have n1_ := Aside0.mk (below_step (b1 GE609.out HB.out) hb); clear BK609; clear HB; have BK609 := n0_; have HB := n1_; clear n0_ n1_; (try clear hb); (try clear hb2); (try clear hk); (try clear hi)))
    go_ret; exact ⟨ez, b1 GE609.out HB.out⟩

end Go.Proofs.Ytngjaajcdbodeaa.All

/- The program's walk over the pages, by a closure over a map and a row: it comes to the model of the reference's walk. No condition. -/
namespace Go.Proofs.Ytngjaajcdbodeaa.All
open Go.RowKit Go.Proofs.YtngjaajcdbodeaaW.PrintWords Go.Proofs.YtngjaajcdbodeaaW.PrintLast Go.Proofs.YtngjaajcdbodeaaW.PrintMore Go.Proofs.Ytngjaajcdbodeaa.Sq
set_option linter.unusedVariables false
set_option linter.unusedSimpArgs false

/-- Block b is the map of those that were met. -/
def MetOk (w : World) (b : Nat) (out : List Int) : Prop := ∃ (n : Nat) (D : DataW Unit), n ≤ out.length ∧ Go.Maps.IsMap D ∧ w.ownsMap Try.prog 3 (plainElem Try.prog 3) b n D ∧ ∀ i, (Lit.int .i64 i).wf = true → D.atKey (.int .i64 i) (.lit (.int .i64 0)) = .lit (.int .i64 (if i ∈ out then 1 else 0))
theorem MetOk.step {w w' : World} {b : Nat} {out : List Int} (h : MetOk w b out) (he : w'.heap[b]? = w.heap[b]?) : MetOk w' b out := by
  obtain ⟨n, D, h1, h2, ⟨es, clock, hb, hr⟩, h4⟩ := h; exact ⟨n, D, h1, h2, ⟨es, clock, he.trans hb, hr⟩, h4⟩
theorem MetOk.isMap {w : World} {b : Nat} {out : List Int} (h : MetOk w b out) : ∃ es clock, w.heap[b]? = some (.map es clock) := by
  obtain ⟨n, D, h1, h2, ⟨es, clock, hb, hr⟩, h4⟩ := h; exact ⟨es, clock, hb⟩
theorem MetOk.made (w : World) : MetOk (w.alloc (.map #[] 0)) w.heap.size [] := ⟨0, .map [], Nat.le_refl _, ⟨[], rfl⟩, World.ownsMap_made w _ _ _, fun i _ => rfl⟩
theorem MetOk.put {w' : World} {b : Nat} {out : List Int} {i : Int} {n : Nat} {D : DataW Unit} (hn : n ≤ out.length) (hm : Go.Maps.IsMap D) (h : w'.ownsMap Try.prog 3 (plainElem Try.prog 3) b (n + 1) (D.put (.int .i64 i) (.lit (.int .i64 1)))) (ha : ∀ i, (Lit.int .i64 i).wf = true → D.atKey (.int .i64 i) (.lit (.int .i64 0)) = .lit (.int .i64 (if i ∈ out then 1 else 0))) : MetOk w' b (out ++ [i]) := by
  refine ⟨n + 1, _, by simp; omega, ?_, h, fun j hj => ?_⟩
  · obtain ⟨es, rfl⟩ := hm
    exact ⟨_, DataW.put_eq _ _ _⟩
  · by_cases hji : j = i
    · subst hji
      rw [Go.Maps.atKey_put_same hm (show WideAt.IsKeyLit (.int .i64 j) from trivial)]
      simp
    · rw [Go.Maps.atKey_put_other (fun e => hji (by injection e)), ha j hj]
      simp [hji]
/-- What stands while the walk goes on. -/
structure VState (w0 : World) (g2 g5 g6 g7 bm : Nat) (root : Int) (A : Option Addr) (c n : Nat) (w : World) (out mo : List Int) : Prop where
  below : Below w0.heap.size w0 w
  box : w.heap[g2]? = some (.cells #[.int .i64 root, .slice A n c] 49 (0, 0))
  met : w.heap[g6]? = some (.cells #[.map (some bm)] 104 (0, 0))
  row : ∃ A v c, v = .slice A out.length c ∧ w.heap[g5]? = some (.cells #[v] 64 (0, 0)) ∧ Kd.R (Kd.int .i64) 3 w w0.heap.size (fun _ => True) v out
  fn : w.heap[g7]? = some (.cells #[.func (.func 144) #[] #[.pointer (some ⟨g2, 0, none⟩), .pointer (some ⟨g6, 0, none⟩), .pointer (some ⟨g5, 0, none⟩), .pointer (some ⟨g7, 0, none⟩)]] 137 (0, 0))
  map : MetOk w bm mo
  g5b : w0.heap.size ≤ g5
  bmb : w0.heap.size ≤ bm
section
variable {w0 : World} {g2 g5 g6 g7 bm : Nat} {root : Int} {A : Option Addr} {c n : Nat} {w w' : World} {out mo mo' : List Int}
theorem VState.next (h : VState w0 g2 g5 g6 g7 bm root A c n w out mo) (hb : Below w.heap.size w w') : VState w0 g2 g5 g6 g7 bm root A c n w' out mo := by
  obtain ⟨Av, v, cv, ev, h5, hr⟩ := h.row; obtain ⟨es, clock, hm⟩ := h.map.isMap; exact ⟨below_step h.below hb, blk_below h.box hb, blk_below h.met hb, ⟨Av, v, cv, ev, blk_below h5 hb, Kd.R_below hr hb⟩, blk_below h.fn hb, h.map.step ((blk_below hm hb).trans hm.symm), h.g5b, h.bmb⟩
theorem VState.drewN (h : VState w0 g2 g5 g6 g7 bm root A c n w out mo) (m : Nat) : VState w0 g2 g5 g6 g7 bm root A c n (w.drewN m) out mo := h.next (pw_below_drewN (Below.refl _ _) m)
theorem blkNe {g g' : Nat} {t t' : TypeId} {cs cs' : Array Value} (h : w.heap[g]? = some (.cells cs t (0, 0))) (h' : w.heap[g']? = some (.cells cs' t' (0, 0))) (hne : t ≠ t') : g ≠ g' := by
  rintro rfl
  rw [h] at h'
  injection h' with h'
  injection h' with _ ht
  exact hne ht
theorem cells_ne_map {g b : Nat} {cs : Array Value} {t : TypeId} {fr : Nat × Nat} {es : Array _} {clock : Nat} (hc : w.heap[g]? = some (.cells cs t fr)) (hm : w.heap[b]? = some (.map es clock)) : some g ≠ some b := by
  intro e
  injection e with e
  subst e; rw [hc] at hm
  cases hm
theorem VState.put (h : VState w0 g2 g5 g6 g7 bm root A c n w out mo) (hg : w.grownBy w' (some bm)) (hm : MetOk w' bm mo') : VState w0 g2 g5 g6 g7 bm root A c n w' out mo' := by
  obtain ⟨Av, v, cv, ev, h5, hr⟩ := h.row; obtain ⟨es, clock, hmm⟩ := h.map.isMap; refine ⟨h.below.grown hg h.below.size (fun k hk => ?_), blk_grown h.box hg (cells_ne_map h.box hmm), blk_grown h.met hg (cells_ne_map h.met hmm), ⟨Av, v, cv, ev, blk_grown h5 hg (cells_ne_map h5 hmm), ?_⟩, blk_grown h.fn hg (cells_ne_map h.fn hmm), hm, h.g5b, h.bmb⟩
  · injection hk with hk
    rw [← hk]; exact h.bmb
  · refine Kd.R_mono (Kd.R_step (Kd.R_bound hr) (fun k hk hlt => hg.block k hlt ?_)) (fun _ _ => trivial)
    obtain ⟨_, _, _, q, hq, cells, hc⟩ := hk; exact cells_ne_map hc hmm
theorem VState.app (h : VState w0 g2 g5 g6 g7 bm root A c n w out mo) {v v5 : Value} {xs : List Int} (hcell : w.heap[g5]? = some (.cells #[v] 64 (0, 0))) (hv : Kd.R (Kd.int .i64) 3 w w0.heap.size (fun _ => True) v out) (hg : w.grownBy w' v.ownBlock) (hb : Below w0.heap.size w0 w') (hr : Kd.R (Kd.int .i64) 3 w' w0.heap.size (fun _ => True) v5 xs) :
    VState w0 g2 g5 g6 g7 bm root A c n (w'.setCell ⟨g5, 0, none⟩ v5) xs mo := by
  obtain ⟨es, clock, hmm⟩ := h.map.isMap; obtain ⟨A5, c5, e5⟩ := Kd.R_slice hr; have k2 := blk_grown h.box hg (Kd.R_ne hv h.box (by decide)); have k6 := blk_grown h.met hg (Kd.R_ne hv h.met (by decide)); have k5 := blk_grown hcell hg (Kd.R_ne hv hcell (by decide)); have k7 := blk_grown h.fn hg (Kd.R_ne hv h.fn (by decide))
  have km : w'.heap[bm]? = w.heap[bm]? := hg.block bm (blk_lt hmm) (fun e => by
    obtain ⟨inner, ho⟩ := Kd.R_own hv; obtain ⟨cells, hc⟩ := Kd.R_typed hv bm e.symm
    exact cells_ne_map hc hmm rfl)
  have far : ∀ {g : Nat}, g ≠ g5 → (w'.setCell ⟨g5, 0, none⟩ v5).heap[g]? = w'.heap[g]? := fun hne => Below.heap_setCell w' _ v5 _ hne
  exact ⟨below_set hb h.g5b, (far (blkNe k2 k5 (by decide))).trans k2, (far (blkNe k6 k5 (by decide))).trans k6, ⟨A5, v5, c5, e5, blk_put k5 0 v5 rfl, Kd.R_mono (Kd.R_far (Kd.R_types hr k5 (by decide)) (fun _ hk => hk.2) v5) (fun _ _ => trivial)⟩,
    (far (blkNe k7 k5 (by decide))).trans k7, h.map.step ((far (fun e => cells_ne_map hcell hmm (by rw [e]))).trans km), h.g5b, h.bmb⟩
end

def VisitSaid (w0 : World) (g2 g5 g6 g7 bm : Nat) (root : Int) (A : Option Addr) (c : Nat) (ps : List S90) (k : Nat) : Prop :=
  ∀ (i : Int) (xs r : List Int) (w : World), VState w0 g2 g5 g6 g7 bm root A c ps.length w xs xs → walkM k ps i xs = some r →
    Calls Try.prog 144 #[.int .i64 i, .pointer (some ⟨g2, 0, none⟩), .pointer (some ⟨g6, 0, none⟩), .pointer (some ⟨g5, 0, none⟩), .pointer (some ⟨g7, 0, none⟩)] w (fun e w' => ∃ v, e = .returned v ∧ VState w0 g2 g5 g6 g7 bm root A c ps.length w' r r)


theorem used_f (a : Int) (ps : List S90) (i : Int) : impl_used.f a ps i = some (decide (pgOk ps i)) := by
  unfold impl_used.f impl_exists.f pgOk
  by_cases h0 : i ≥ 0
  · rw [if_pos h0]
    simp only [Option.bind_some]
    by_cases h1 : i < ps.length
    · simp only [h1, decide_true, if_true]
      rw [if_pos (by omega)]
      simp [show (0 : Int) ≤ i from h0]
    · simp [h1]
  · rw [if_neg h0]
    simp [h0]

set_option maxHeartbeats 8000000 in
set_option maxRecDepth 100000 in
theorem visit_out (w0 : World) (g2 g5 g6 g7 bm : Nat) (A : Option Addr) (c : Nat) (ps : List S90) (hr0 : Kd.C k90 w0 A ps.length ps) (hc0 : ps.length ≤ c)
    (root i : Int) (xs : List Int) (w : World) (hv : VState w0 g2 g5 g6 g7 bm root A c ps.length w xs xs) (hno : ¬ pgOk ps i) :
    Calls Try.prog 144 #[.int .i64 i, .pointer (some ⟨g2, 0, none⟩), .pointer (some ⟨g6, 0, none⟩), .pointer (some ⟨g5, 0, none⟩), .pointer (some ⟨g7, 0, none⟩)] w (fun e w' => ∃ v, e = .returned v ∧ VState w0 g2 g5 g6 g7 bm root A c ps.length w' xs xs) := by
  have HR := Aside0.mk hr0; have HC := Aside0.mk hc0; have HV := Aside0.mk hv; have HU := Aside0.mk ((used_f root ps i).trans (congrArg some (decide_eq_false hno))); clear hr0 hc0 hv hno; have hu1 := Try.underlying90; have hu2 := Try.underlying49; have hk0 : w.cell? ⟨g2, 0, none⟩ = some (.int .i64 root) := (blk_cell HV.out.box 0).trans rfl; have hk1 : w.cell? ⟨g2, 1, none⟩ = some (.slice A ps.length c) := (blk_cell HV.out.box 1).trans rfl
  go_enter Try.func144, Try.ntmps144
  go_wp2_with (go_at_call 89; refine (impl_used.calls root _ c ps i _ _ (Kd.C_below HR.out HV.out.below) HC.out HU.out).mono ?_; rintro e w1 ⟨rfl, hb1⟩; have HV1 := Aside0.mk (HV.out.next hb1); clear hb1 hk0 hk1 HV)
  refine bodyPost_ret (results_none rfl _ _ _) rfl ?_; exact ⟨_, rfl, HV1.out⟩

theorem zero_int (w : World) : (zeroValue 3).run Try.prog w = .ok (.int .i64 0) w := by kernel_rfl
theorem look_eq {D : DataW Unit} {i c m : Int} (h : D.atKey (.int .i64 i) (.lit (.int .i64 0)) = .lit (.int .i64 m)) (hc : D.atKey (.int .i64 i) (.lit (.int .i64 0)) = .lit (.int .i64 c)) : c = m := by
  rw [h] at hc
  injection hc with hc
  injection hc with _ hc
  exact hc.symm
set_option maxHeartbeats 8000000 in
set_option maxRecDepth 100000 in
theorem visit_met (w0 : World) (g2 g5 g6 g7 bm : Nat) (A : Option Addr) (c : Nat) (ps : List S90) (hr0 : Kd.C k90 w0 A ps.length ps) (hc0 : ps.length ≤ c)
    (root i : Int) (xs : List Int) (w : World) (hv : VState w0 g2 g5 g6 g7 bm root A c ps.length w xs xs) (hyes : pgOk ps i) (hwf : (Lit.int .i64 i).wf = true) (hin : i ∈ xs) :
    Calls Try.prog 144 #[.int .i64 i, .pointer (some ⟨g2, 0, none⟩), .pointer (some ⟨g6, 0, none⟩), .pointer (some ⟨g5, 0, none⟩), .pointer (some ⟨g7, 0, none⟩)] w (fun e w' => ∃ v, e = .returned v ∧ VState w0 g2 g5 g6 g7 bm root A c ps.length w' xs xs) := by
  have HR := Aside0.mk hr0; have HC := Aside0.mk hc0; have HV := Aside0.mk hv; have HU := Aside0.mk ((used_f root ps i).trans (congrArg some (decide_eq_true hyes))); have HIN := Aside0.mk hin; have HWF := Aside0.mk hwf; clear hr0 hc0 hv hyes hin hwf; have hu1 := Try.underlying90; have hu2 := Try.underlying49; have hk0 : w.cell? ⟨g2, 0, none⟩ = some (.int .i64 root) := (blk_cell HV.out.box 0).trans rfl; have hk1 : w.cell? ⟨g2, 1, none⟩ = some (.slice A ps.length c) := (blk_cell HV.out.box 1).trans rfl
  go_enter Try.func144, Try.ntmps144
  go_wp2_with (first
    | (go_at_call 89; refine (impl_used.calls root _ c ps i _ _ (Kd.C_below HR.out HV.out.below) HC.out HU.out).mono ?_; rintro e w1 ⟨rfl, hb1⟩; have HV1 := Aside0.mk (HV.out.next hb1); clear hb1 hk0 hk1 HV; have hk6 : w1.cell? ⟨g6, 0, none⟩ = some (.map (some bm)) := (blk_cell HV1.out.met 0).trans rfl; obtain ⟨nm, Dm, hnm, him, hom, hcm⟩ := HV1.out.map; have HNM := Aside0.mk hnm; have HIM := Aside0.mk him; have HOM := Aside0.mk hom; have HCM := Aside0.mk hcm; clear hnm him hom hcm) | ((try (refine gate_guard (by rfl) ?_; dsimp only)); at_lookup; refine wpList_lookup_own_int _ rfl _ _ 104 rfl 3 3 .i64 (Go.Maps.int_keyed Try.underlying3) Try.underlying104 Try.underlying3 (zero_int _) bm nm Dm rfl HOM.out _ _ rfl (Go.Maps.keyOf_int_mk Try.underlying3 HWF.out) ?_; intro cm hat hwc; obtain rfl : cm = 1 := (look_eq (HCM.out i HWF.out) hat).trans (if_pos HIN.out); clear hat hwc))
  refine bodyPost_ret (results_none rfl _ _ _) rfl ?_; exact ⟨_, rfl, HV1.out⟩

theorem walkL_leaf {k : Nat} {ps : List S90} {es : List S103} {o r : List Int} {x : Int} (h : walkL k ps true es o x = some r) : r = o := by
  cases k with
  | zero => simp [walkL] at h
  | succ k =>
    rw [walkL, if_pos rfl] at h
    split at h <;> exact (Option.some.inj h).symm
theorem set5_below {W w7 : World} {g : Nat} (h : Below W.heap.size W w7) (hg : g = W.heap.size) (a b c d e : Value) : Below W.heap.size W (((((w7.setCell ⟨g, 0, none⟩ a).setCell ⟨g, 1, none⟩ b).setCell ⟨g, 2, none⟩ c).setCell ⟨g, 3, none⟩ d).setCell ⟨g, 4, none⟩ e) := by
  have hl := Nat.le_of_eq hg.symm; exact below_set (below_set (below_set (below_set (below_set h hl) hl) hl) hl) hl
theorem VState.fncell {w0 : World} {g2 g5 g6 g7 bm : Nat} {root : Int} {A : Option Addr} {c n : Nat} {w : World} {out mo : List Int} (h : VState w0 g2 g5 g6 g7 bm root A c n w out mo) : w.cell? ⟨g7, 0, none⟩ = some (.func (.func 144) #[] #[.pointer (some ⟨g2, 0, none⟩), .pointer (some ⟨g6, 0, none⟩), .pointer (some ⟨g5, 0, none⟩), .pointer (some ⟨g7, 0, none⟩)]) := (blk_cell h.fn 0).trans rfl
theorem set5_cell {w7 : World} {g t : Nat} {z0 z1 z2 z3 z4 : Value} (h : w7.heap[g]? = some (.cells #[z0, z1, z2, z3, z4] t (0, 0))) (a b c d e : Value) : (((((w7.setCell ⟨g, 0, none⟩ a).setCell ⟨g, 1, none⟩ b).setCell ⟨g, 2, none⟩ c).setCell ⟨g, 3, none⟩ d).setCell ⟨g, 4, none⟩ e).cell? ⟨g, 0, none⟩ = some a := by
  have h1 := blk_put (cs' := #[a, z1, z2, z3, z4]) h 0 a rfl; have h2 := blk_put (cs' := #[a, b, z2, z3, z4]) h1 1 b rfl; have h3 := blk_put (cs' := #[a, b, c, z3, z4]) h2 2 c rfl; have h4 := blk_put (cs' := #[a, b, c, d, z4]) h3 3 d rfl; have h5 := blk_put (cs' := #[a, b, c, d, e]) h4 4 e rfl; exact (blk_cell h5 0).trans rfl
theorem store5_run (o : Oper) (a : Act) (p v : Tmp) (hop : o.op = .store 103 (.tmp p) (.tmp v)) (g : Nat) (w7 : World) (b0 b1 b2 b3 b4 : Int) (hp : a.eval (.tmp p) = .pointer (some ⟨g, 0, none⟩)) (hv : a.eval (.tmp v) = .agg #[.int .i64 b0, .int .i64 b1, .int .i64 b2, .int .i64 b3, .int .i64 b4])
    (hbox : w7.heap[g]? = some (.cells #[.int .i64 0, .int .i64 0, .int .i64 0, .int .i64 0, .int .i64 0] 103 (0, 0))) :
    (execOp a.eval o).run Try.prog w7 = .ok .skip (((((w7.setCell ⟨g, 0, none⟩ (.int .i64 b0)).setCell ⟨g, 1, none⟩ (.int .i64 b1)).setCell ⟨g, 2, none⟩ (.int .i64 b2)).setCell ⟨g, 3, none⟩ (.int .i64 b3)).setCell ⟨g, 4, none⟩ (.int .i64 b4)) := by
  have hu1 := Try.underlying103; have hs0 : w7.cell? ⟨g, 0, none⟩ = some (.int .i64 0) := (blk_cell hbox 0).trans rfl; have hs1 : w7.cell? ⟨g, 1, none⟩ = some (.int .i64 0) := (blk_cell hbox 1).trans rfl; have hs2 : w7.cell? ⟨g, 2, none⟩ = some (.int .i64 0) := (blk_cell hbox 2).trans rfl; have hs3 : w7.cell? ⟨g, 3, none⟩ = some (.int .i64 0) := (blk_cell hbox 3).trans rfl; have hs4 : w7.cell? ⟨g, 4, none⟩ = some (.int .i64 0) := (blk_cell hbox 4).trans rfl; have hf0 := blk_frozen hbox 0; have hf1 := blk_frozen hbox 1; have hf2 := blk_frozen hbox 2; have hf3 := blk_frozen hbox 3; have hf4 := blk_frozen hbox 4; clear hbox; unfold execOp; rw [hop]
  simp only [hp, hv]
  clear hop hp hv
  first | (go_simp; done) | (go_simp; rfl)
theorem hinfoInt5 : (Try.prog.info? 3).map (fun i => (i.zero, i.size, i.bytes)) = some (some (.int .i64 0), 1, 8) := hinfoInt
set_option maxHeartbeats 16000000 in
set_option maxRecDepth 100000 in
theorem visit_new (w0 : World) (g2 g5 g6 g7 bm : Nat) (A : Option Addr) (c : Nat) (ps : List S90) (hr0 : Kd.C k90 w0 A ps.length ps) (hc0 : ps.length ≤ c)
    (root i : Int) (xs : List Int) (w : World) (hv : VState w0 g2 g5 g6 g7 bm root A c ps.length w xs xs) (hyes : pgOk ps i) (hwf : (Lit.int .i64 i).wf = true) (hin : ¬ i ∈ xs) (hlen : xs.length < 17592186044415)
    (k : Nat) (ih : ∀ k', k' ≤ k → VisitSaid w0 g2 g5 g6 g7 bm root A c ps k') (r : List Int) (h : walkL k ps (rd_T90 ps i).f1.f0 (rd_T90 ps i).f1.f1 (xs ++ [i]) 0 = some r) :
    Calls Try.prog 144 #[.int .i64 i, .pointer (some ⟨g2, 0, none⟩), .pointer (some ⟨g6, 0, none⟩), .pointer (some ⟨g5, 0, none⟩), .pointer (some ⟨g7, 0, none⟩)] w (fun e w' => ∃ v, e = .returned v ∧ VState w0 g2 g5 g6 g7 bm root A c ps.length w' r r) := by
  have HR := Aside0.mk hr0; have HC := Aside0.mk hc0; have HV := Aside0.mk hv; have HU := Aside0.mk ((used_f root ps i).trans (congrArg some (decide_eq_true hyes))); have HIN := Aside0.mk hin; have HWF := Aside0.mk hwf; have HLEN := Aside0.mk hlen; have IH := Aside0.mk ih; have H' := Aside0.mk h; clear hr0 hc0 hv hin hwf hlen ih h; have hu1 := Try.underlying90; have hu2 := Try.underlying49; have hk0 : w.cell? ⟨g2, 0, none⟩ = some (.int .i64 root) := (blk_cell HV.out.box 0).trans rfl; have hk1 : w.cell? ⟨g2, 1, none⟩ = some (.slice A ps.length c) := (blk_cell HV.out.box 1).trans rfl; have hu3 := Try.underlying54; obtain ⟨h0, h1, hus⟩ := hyes; obtain ⟨ad, A2, c2, e2, hz0, hz1, hz2, hl2, hC2⟩ := at_T90 HR.out i h0 h1; subst e2; have HC2 := Aside0.mk hC2; have HL2 := Aside0.mk hl2; have HZ1 := Aside0.mk hz1; have HZ2 := Aside0.mk hz2; clear hC2 hl2 hz0 hz1 hz2 hus; obtain ⟨bl, hbl⟩ : ∃ b : Bool, b = (rd_T90 ps i).f1.f0 := ⟨_, rfl⟩; obtain ⟨es, hes⟩ : ∃ l : List S103, l = (rd_T90 ps i).f1.f1 := ⟨_, rfl⟩; rw [← hbl] at HZ1 H'; rw [← hes] at HZ2 H' HC2 HL2; clear hbl hes
  cases bl with
  | true =>
    go_enter Try.func144, Try.ntmps144
    go_wp2_with (first
      | (go_at_call 89; refine (impl_used.calls root _ c ps i _ _ (Kd.C_below HR.out HV.out.below) HC.out HU.out).mono ?_; rintro e w1 ⟨rfl, hb1⟩; have HV1 := Aside0.mk (HV.out.next hb1); clear hb1 hk0 hk1 HV; have hk6 : w1.cell? ⟨g6, 0, none⟩ = some (.map (some bm)) := (blk_cell HV1.out.met 0).trans rfl; obtain ⟨nm, Dm, hnm, him, hom, hcm⟩ := HV1.out.map; have HNM := Aside0.mk hnm; have HIM := Aside0.mk him; have HOM := Aside0.mk hom; have HCM := Aside0.mk hcm; clear hnm him hom hcm) | ((try (refine gate_guard (by rfl) ?_; dsimp only)); at_lookup; refine wpList_lookup_own_int _ rfl _ _ 104 rfl 3 3 .i64 (Go.Maps.int_keyed Try.underlying3) Try.underlying104 Try.underlying3 (zero_int _) bm nm Dm rfl HOM.out _ _ rfl (Go.Maps.keyOf_int_mk Try.underlying3 HWF.out) ?_; intro cm hat hwc; obtain rfl : cm = 0 := (look_eq (HCM.out i HWF.out) hat).trans (if_neg HIN.out); clear hat hwc)
      | (at_mapUpdate; refine wpList_mapUpdate_own _ rfl _ _ _ 104 rfl 3 3 (Go.Maps.int_keyed Try.underlying3) Try.underlying104 _ bm nm Dm rfl HOM.out (by have := HNM.out; have := HLEN.out; unfold maxLen; omega) _ _ (.int .i64 i) rfl rfl (Go.Maps.keyOf_int_mk Try.underlying3 HWF.out) (.lit (.int .i64 1)) [] (plainElem_int Try.underlying3 (by decide)) ?_; intro w2 hown2 hg2; have HV2 := Aside0.mk (HV1.out.put hg2 (MetOk.put HNM.out HIM.out hown2 HCM.out)); clear hown2 hg2 hk6; obtain ⟨Av, vv, cv, evv, h5c, hvr⟩ := HV2.out.row; subst evv; have HVR := Aside0.mk hvr; have H5C := Aside0.mk h5c; have hk5 : w2.cell? ⟨g5, 0, none⟩ = some (.slice Av xs.length cv) := (blk_cell h5c 0).trans rfl; have hf5 := blk_frozen h5c 0; clear hvr h5c)
      | ((with_reducible refine gate_builtin (b := .append) (xs := #[.tmp 20, .tmp 22]) rfl ?_); at_builtin; refine Kd.R_append (Kd.int .i64) (w0 := w0) w0.heap.size rfl (.tmp 20) (.tmp 22) 64 3 (.int .i64 0) 8 rfl Try.underlying64 hinfoInt rfl (by decide) (by omega) (.slice Av xs.length cv) xs i [.int .i64 i] (fun _ => True) (fun _ => False) rfl rfl rfl (fun _ hk => hk.elim) (fun _ _ => trivial) HVR.out HV2.out.below HV2.out.below.size (by have := HLEN.out; omega) ?_; intro v5 w5 ho5 hb5 hg5 hat5; obtain ⟨A5, c5, e5⟩ := Kd.R_slice ho5; subst e5; have HV5 := Aside0.mk (HV2.out.app H5C.out HVR.out hg5 hb5 ho5); have hk5b : w5.cell? ⟨g5, 0, none⟩ = some (.slice Av xs.length cv) := (blk_cell (blk_grown H5C.out hg5 (Kd.R_ne HVR.out H5C.out (by decide))) 0).trans rfl; have hf5b := blk_frozen (blk_grown H5C.out hg5 (Kd.R_ne HVR.out H5C.out (by decide))) 0; clear ho5 hb5 hg5 hat5 hk5 hf5 HV2 HV1)
      | ((with_reducible refine gate_store (t := 64) (p := 3) rfl ?_); refine store_event (t := 64) (p := 3) (v := ?vo8) (w1 := (w5.setCell ⟨g5, 0, none⟩ (.slice A5 (xs ++ [i]).length c5))) ?hg ?ho ?hn ?hr ?_; (case ho => rfl); (case hg => rfl); (case hn => rfl); (case hr => first | (go_simp; done) | (go_simp; rfl)); intro w6 hw; rw [← hw] at HV5; clear hw; have hx1 := (HV5.out.below.cell (World.block_lt_of_cell? w0 _ HZ1.out)).trans HZ1.out; have hx2 := (HV5.out.below.cell (World.block_lt_of_cell? w0 _ HZ2.out)).trans HZ2.out; have hk1 : w6.cell? ⟨g2, 1, none⟩ = some (.slice (some ad) ps.length c) := (blk_cell HV5.out.box 1).trans rfl))
    go_end0
    obtain rfl := walkL_leaf H'.out; exact ⟨_, rfl, HV5.out⟩
  | false =>
    go_enter Try.func144, Try.ntmps144
    go_wp2_with (first
      | (go_at_call 89; refine (impl_used.calls root _ c ps i _ _ (Kd.C_below HR.out HV.out.below) HC.out HU.out).mono ?_; rintro e w1 ⟨rfl, hb1⟩; have HV1 := Aside0.mk (HV.out.next hb1); clear hb1 hk0 hk1 HV; have hk6 : w1.cell? ⟨g6, 0, none⟩ = some (.map (some bm)) := (blk_cell HV1.out.met 0).trans rfl; obtain ⟨nm, Dm, hnm, him, hom, hcm⟩ := HV1.out.map; have HNM := Aside0.mk hnm; have HIM := Aside0.mk him; have HOM := Aside0.mk hom; have HCM := Aside0.mk hcm; clear hnm him hom hcm) | ((try (refine gate_guard (by rfl) ?_; dsimp only)); at_lookup; refine wpList_lookup_own_int _ rfl _ _ 104 rfl 3 3 .i64 (Go.Maps.int_keyed Try.underlying3) Try.underlying104 Try.underlying3 (zero_int _) bm nm Dm rfl HOM.out _ _ rfl (Go.Maps.keyOf_int_mk Try.underlying3 HWF.out) ?_; intro cm hat hwc; obtain rfl : cm = 0 := (look_eq (HCM.out i HWF.out) hat).trans (if_neg HIN.out); clear hat hwc)
      | (at_mapUpdate; refine wpList_mapUpdate_own _ rfl _ _ _ 104 rfl 3 3 (Go.Maps.int_keyed Try.underlying3) Try.underlying104 _ bm nm Dm rfl HOM.out (by have := HNM.out; have := HLEN.out; unfold maxLen; omega) _ _ (.int .i64 i) rfl rfl (Go.Maps.keyOf_int_mk Try.underlying3 HWF.out) (.lit (.int .i64 1)) [] (plainElem_int Try.underlying3 (by decide)) ?_; intro w2 hown2 hg2; have HV2 := Aside0.mk (HV1.out.put hg2 (MetOk.put HNM.out HIM.out hown2 HCM.out)); clear hown2 hg2 hk6; obtain ⟨Av, vv, cv, evv, h5c, hvr⟩ := HV2.out.row; subst evv; have HVR := Aside0.mk hvr; have H5C := Aside0.mk h5c; have hk5 : w2.cell? ⟨g5, 0, none⟩ = some (.slice Av xs.length cv) := (blk_cell h5c 0).trans rfl; have hf5 := blk_frozen h5c 0; clear hvr h5c)
      | ((with_reducible refine gate_builtin (b := .append) (xs := #[.tmp 20, .tmp 22]) rfl ?_); at_builtin; refine Kd.R_append (Kd.int .i64) (w0 := w0) w0.heap.size rfl (.tmp 20) (.tmp 22) 64 3 (.int .i64 0) 8 rfl Try.underlying64 hinfoInt rfl (by decide) (by omega) (.slice Av xs.length cv) xs i [.int .i64 i] (fun _ => True) (fun _ => False) rfl rfl rfl (fun _ hk => hk.elim) (fun _ _ => trivial) HVR.out HV2.out.below HV2.out.below.size (by have := HLEN.out; omega) ?_; intro v5 w5 ho5 hb5 hg5 hat5; obtain ⟨A5, c5, e5⟩ := Kd.R_slice ho5; subst e5; have HV5 := Aside0.mk (HV2.out.app H5C.out HVR.out hg5 hb5 ho5); have hk5b : w5.cell? ⟨g5, 0, none⟩ = some (.slice Av xs.length cv) := (blk_cell (blk_grown H5C.out hg5 (Kd.R_ne HVR.out H5C.out (by decide))) 0).trans rfl; have hf5b := blk_frozen (blk_grown H5C.out hg5 (Kd.R_ne HVR.out H5C.out (by decide))) 0; clear ho5 hb5 hg5 hat5 hk5 hf5 HV2 HV1)
      | ((with_reducible refine gate_store (t := 64) (p := 3) rfl ?_); refine store_event (t := 64) (p := 3) (v := ?vo8) (w1 := (w5.setCell ⟨g5, 0, none⟩ (.slice A5 (xs ++ [i]).length c5))) ?hg ?ho ?hn ?hr ?_; (case ho => rfl); (case hg => rfl); (case hn => rfl); (case hr => first | (go_simp; done) | (go_simp; rfl)); intro w6 hw; rw [← hw] at HV5; clear hw; have hx1 := (HV5.out.below.cell (World.block_lt_of_cell? w0 _ HZ1.out)).trans HZ1.out; have hx2 := (HV5.out.below.cell (World.block_lt_of_cell? w0 _ HZ2.out)).trans HZ2.out; have hk1 : w6.cell? ⟨g2, 1, none⟩ = some (.slice (some ad) ps.length c) := (blk_cell HV5.out.box 1).trans rfl))
    go_loopg [40] k (fun kq v40 w' => ∃ (o : List Int) (x : Int), v40 = .int .i64 x ∧ Aside0 (walkL kq ps false es o x = some r) ∧ Aside0 (kq ≤ k) ∧ Aside0 (VState w0 g2 g5 g6 g7 bm root (some ad) c ps.length w' o o))
    case atStart => exact ⟨xs ++ [i], 0, rfl, H', ⟨Nat.le_refl _⟩, HV5⟩
    case round =>
      clear H' HV5 hx1 hx2 hk1; obtain ⟨o, x, rfl, HA, HK1, HV⟩ := hrel
      cases gk with
      | zero => exact absurd HA.out (by simp [walkL])
      | succ k1 =>
        have H := HA.out; clear HA; rw [walkL] at H
        by_cases c1 : x < (es.length : Int)
        · rw [if_pos c1, if_neg (by decide)] at H
          have c1b : decide (x < (es.length : Int)) = true := decide_eq_true c1
          by_cases c2b : 0 ≤ x
          · rw [if_pos c2b] at H
            obtain ⟨o2, h2, H⟩ := Option.bind_eq_some_iff.mp H; have H2 := Aside0.mk h2; have H' := Aside0.mk H; clear H h2; obtain ⟨ad2, e2, hy0, hy1, hy2, hy3, hy4⟩ := at_T103 HC2.out x c2b c1; subst e2; replace hy0 := (HV.out.below.cell (World.block_lt_of_cell? w0 _ hy0)).trans hy0; replace hy1 := (HV.out.below.cell (World.block_lt_of_cell? w0 _ hy1)).trans hy1; replace hy2 := (HV.out.below.cell (World.block_lt_of_cell? w0 _ hy2)).trans hy2; replace hy3 := (HV.out.below.cell (World.block_lt_of_cell? w0 _ hy3)).trans hy3; replace hy4 := (HV.out.below.cell (World.block_lt_of_cell? w0 _ hy4)).trans hy4
            go_wp2_with (first
              | ((with_reducible refine gate_dst (N := 7) rfl ?_); refine box_event ?hg (N := 7) ?hd (cs := #[.int .i64 0, .int .i64 0, .int .i64 0, .int .i64 0, .int .i64 0]) (t := 103) ?hr ?_; (case hd => rfl); (case hg => rfl); (case hr => first | (go_simp; done) | (go_simp; rfl)); intro gv hg w7 hbox hb7; have hs0 : w7.cell? ⟨gv, 0, none⟩ = some (.int .i64 0) := (blk_cell hbox 0).trans rfl; have hs1 : w7.cell? ⟨gv, 1, none⟩ = some (.int .i64 0) := (blk_cell hbox 1).trans rfl; have hs2 : w7.cell? ⟨gv, 2, none⟩ = some (.int .i64 0) := (blk_cell hbox 2).trans rfl; have hs3 : w7.cell? ⟨gv, 3, none⟩ = some (.int .i64 0) := (blk_cell hbox 3).trans rfl; have hs4 : w7.cell? ⟨gv, 4, none⟩ = some (.int .i64 0) := (blk_cell hbox 4).trans rfl; have hf0 := blk_frozen hbox 0; have hf1 := blk_frozen hbox 1; have hf2 := blk_frozen hbox 2; have hf3 := blk_frozen hbox 3; have hf4 := blk_frozen hbox 4; have HW7 := Aside0.mk hb7; have BK7 := Aside0.mk hbox; have GW7 := Aside0.mk hg; clear hb7 hg hbox)
              | ((with_reducible refine gate_store (t := 103) (p := 7) rfl ?_); refine store_event (t := 103) (p := 7) (v := ?vo9) (w1 := (((((w7.setCell ⟨gv, 0, none⟩ (.int .i64 (rd_T103 es x).f0)).setCell ⟨gv, 1, none⟩ (.int .i64 (rd_T103 es x).f1.f0)).setCell ⟨gv, 2, none⟩ (.int .i64 (rd_T103 es x).f1.f1)).setCell ⟨gv, 3, none⟩ (.int .i64 (rd_T103 es x).f1.f2)).setCell ⟨gv, 4, none⟩ (.int .i64 (rd_T103 es x).f1.f3))) ?hg ?ho ?hn ?hr ?_; (case ho => rfl); (case hg => rfl); (case hn => rfl); (case hr => exact store5_run _ _ 7 43 rfl gv w7 _ _ _ _ _ rfl rfl BK7.out); intro w8 hw; have hb8 := set5_below HW7.out GW7.out (.int .i64 (rd_T103 es x).f0) (.int .i64 (rd_T103 es x).f1.f0) (.int .i64 (rd_T103 es x).f1.f1) (.int .i64 (rd_T103 es x).f1.f2) (.int .i64 (rd_T103 es x).f1.f3); rw [← hw] at hb8; have HV8 := Aside0.mk (HV.out.next hb8); have hk7 : w8.cell? ⟨gv, 0, none⟩ = some (.int .i64 (rd_T103 es x).f0) := (by rw [hw]; exact set5_cell BK7.out _ _ _ _ _); have hk4 := HV8.out.fncell; clear hw hb8 hs0 hs1 hs2 hs3 hs4 hf0 hf1 hf2 hf3 hf4 HW7 BK7 GW7)
              | (go_at_call 144; refine (IH.out k1 (by have := HK1.out; omega) _ o o2 _ HV8.out H2.out).mono ?_; rintro e w9 ⟨v9, rfl, hv9⟩; clear hk7 hk4))
            go_roundg k1
            case measure => have := HK1.out; omega
            case rel => exact ⟨o2, wrap64 (x + 1), rfl, H', ⟨by have := HK1.out; omega⟩, ⟨hv9⟩⟩
          · rw [if_neg c2b] at H
            exact absurd H (by simp)
        · rw [if_neg c1] at H
          have c1b : decide (x < (es.length : Int)) = false := decide_eq_false c1; obtain rfl := Option.some.inj H; go_wp2
          go_end0
          exact ⟨⟨_, rfl⟩, HV.out⟩

theorem visit_all (w0 : World) (g2 g5 g6 g7 bm : Nat) (root : Int) (A : Option Addr) (c : Nat) (ps : List S90) (hr0 : Kd.C k90 w0 A ps.length ps) (hc0 : ps.length ≤ c) : ∀ k k', k' ≤ k → VisitSaid w0 g2 g5 g6 g7 bm root A c ps k'
  | 0, k', hk => by
    obtain rfl : k' = 0 := by omega
    intro i xs r w _ h
    simp [walkM] at h
  | k + 1, k', hk => by
    rcases Nat.lt_or_ge k' (k + 1) with hlt | hge
    · exact visit_all w0 g2 g5 g6 g7 bm root A c ps hr0 hc0 k k' (by omega)
    obtain rfl : k' = k + 1 := by omega
    intro i xs r w hv h
    rw [walkM] at h; have hmax : ps.length ≤ 9223372036854775807 := hr0.2.1
    by_cases h1 : pgOk ps i
    · rw [if_pos h1] at h
      have hwf : (Lit.int .i64 i).wf = true := by
        have h2 := h1.1; have h3 := h1.2.1; unfold Lit.wf; rw [Bool.and_eq_true, decide_eq_true_eq, decide_eq_true_eq]
        have e1 : IntKind.i64.min = -9223372036854775808 := by decide
        have e2 : IntKind.i64.max = 9223372036854775807 := by decide
        rw [e1, e2]
        omega
      by_cases h3 : xs.length < 17592186044415
      · rw [if_pos h3] at h
        by_cases h2 : i ∈ xs
        · rw [if_pos h2] at h
          obtain rfl := Option.some.inj h; exact visit_met w0 g2 g5 g6 g7 bm A c ps hr0 hc0 root i xs w hv h1 hwf h2
        · rw [if_neg h2] at h
          exact visit_new w0 g2 g5 g6 g7 bm A c ps hr0 hc0 root i xs w hv h1 hwf h2 h3 k (fun k' hk' => visit_all w0 g2 g5 g6 g7 bm root A c ps hr0 hc0 k k' hk') r h
      · rw [if_neg h3] at h
        exact absurd h (by simp)
    · rw [if_neg h1] at h
      obtain rfl := Option.some.inj h; exact visit_out w0 g2 g5 g6 g7 bm A c ps hr0 hc0 root i xs w hv h1

theorem MetOk.below {w w' : World} {b : Nat} {out : List Int} (h : MetOk w b out) (hb : Below w.heap.size w w') : MetOk w' b out := by
  obtain ⟨es, clock, hm⟩ := h.isMap; exact h.step ((blk_below hm hb).trans hm.symm)
theorem blkFarH {w : World} {g g' : Nat} {o : Obj} (h : w.heap[g]? = some o) (hne : g ≠ g') (v : Value) : (w.setCell ⟨g', 0, none⟩ v).heap[g]? = some o := (Below.heap_setCell w _ v _ hne).trans h
theorem MetOk.far {w : World} {b g : Nat} {out : List Int} {cs : Array Value} {t : TypeId} {fr : Nat × Nat} (h : MetOk w b out) (hc : w.heap[g]? = some (.cells cs t fr)) (v : Value) : MetOk (w.setCell ⟨g, 0, none⟩ v) b out := by
  obtain ⟨es, clock, hm⟩ := h.isMap; exact h.step (Below.heap_setCell w _ v _ (fun e => cells_ne_map hc hm (by rw [e])))
theorem func_store (o : Oper) (a : Act) (p v : Tmp) (hop : o.op = .store 137 (.tmp p) (.tmp v)) (g : Nat) (w : World) (f : FuncId) (fs : Array Value) (hp : a.eval (.tmp p) = .pointer (some ⟨g, 0, none⟩)) (hv : a.eval (.tmp v) = .func (.func f) #[] fs)
    (hbox : w.heap[g]? = some (.cells #[.nilFunc] 137 (0, 0))) : (execOp a.eval o).run Try.prog w = .ok .skip (w.setCell ⟨g, 0, none⟩ (.func (.func f) #[] fs)) := by
  have hs : w.cell? ⟨g, 0, none⟩ = some .nilFunc := (blk_cell hbox 0).trans rfl; have hf := blk_frozen hbox 0; have hu := Try.underlying137; unfold execOp; rw [hop]
  simp only [hp, hv]
  have hone : (Value.func (.func f) #[] fs).oneCell' = true := rfl; clear hop hp hv hbox
  first | (go_simp; done) | (go_simp; rfl) | (go_simp; rw [run_store _ _ _ _ _ hone]; simp [hs, hf]; done)
theorem map_event {ops : Array Oper} {rest : List Oper} {o : Oper} {a : Act} {Q : Exit → Act → World → Prop} {W : World} (hgd : o.guard = none) {N : Tmp} (hd : o.dst = some N) (hop : o.op = .makeMap 104 none)
    (h : ∀ g, g = W.heap.size → ∀ w1, MetOk w1 g [] → Below W.heap.size W w1 → wpList Try.prog ops Q rest (a.put o.dst (.map (some g))) w1) : wpList Try.prog ops Q (o :: rest) a W := by
  refine Kd.event_run (v := .map (some W.heap.size)) (w1 := W.alloc (.map #[] 0)) hgd ?_ (h _ rfl _ (MetOk.made W) (below_alloc (Below.refl _ _) _)); unfold execOp; rw [hop]
  simp [run_makeMap, Result.andThen]
theorem start_state {w w9 w10 : World} {g2 g5 g6 g7 bm : Nat} {root : Int} {A : Option Addr} {c n : Nat} (hb : Below w.heap.size w w9) (h2 : w9.heap[g2]? = some (.cells #[.int .i64 root, .slice A n c] 49 (0, 0))) (h6 : w9.heap[g6]? = some (.cells #[.map (some bm)] 104 (0, 0))) (h5 : w9.heap[g5]? = some (.cells #[.slice none 0 0] 64 (0, 0))) (h7 : w9.heap[g7]? = some (.cells #[.nilFunc] 137 (0, 0))) (hm : MetOk w9 bm []) (ge5 : w.heap.size ≤ g5) (gem : w.heap.size ≤ bm) (ge7 : w.heap.size ≤ g7) (hw : w10 = w9.setCell ⟨g7, 0, none⟩ (.func (.func 144) #[] #[.pointer (some ⟨g2, 0, none⟩), .pointer (some ⟨g6, 0, none⟩), .pointer (some ⟨g5, 0, none⟩), .pointer (some ⟨g7, 0, none⟩)])) : VState w g2 g5 g6 g7 bm root A c n w10 [] [] := by
  subst hw; exact ⟨below_set hb ge7, blkFarH h2 (blkNe h2 h7 (by decide)) _, blkFarH h6 (blkNe h6 h7 (by decide)) _, ⟨none, _, 0, rfl, blkFarH h5 (blkNe h5 h7 (by decide)) _, Kd.R_nil _ _ _ _ _⟩, blk_put h7 0 _ rfl, hm.far h7 _, ge5, gem⟩

/-- The program's walk. -/
def impl_reachFrom.f (k : Nat) (a0_0 : Int) (l0_1 : List S90) (a1 : Int) : Option (List Int) := walkM k l0_1 a1 []
theorem impl_reachFrom.mono : ∀ a0 a1 a2 k, LeO (impl_reachFrom.f k a0 a1 a2) (impl_reachFrom.f (k + 1) a0 a1 a2) := fun a0 a1 a2 k => (walk_mono k).1 _ _ _
set_option maxHeartbeats 8000000 in
set_option maxRecDepth 100000 in
theorem impl_reachFrom.calls (k : Nat) (a0_0 : Int) (A0_1 : Option Addr) (c0_1 : Nat) (l0_1 : List S90) (a1 : Int) (r : List Int) (w : World) (hr0_1 : Kd.C k90 w A0_1 l0_1.length l0_1) (hc0_1 : l0_1.length ≤ c0_1) (h : impl_reachFrom.f k a0_0 l0_1 a1 = some r) :
    Calls Try.prog 127 #[.agg #[.int .i64 a0_0, .slice A0_1 l0_1.length c0_1], .int .i64 a1] w fun e w' => ∃ v0_ : Value, e = .returned (v0_) ∧ Kd.R (Kd.int .i64) 3 w' w.heap.size (fun _ => True) v0_ r ∧ Below w.heap.size w w' := by
  have HS := Aside0.mk (fun g2 g5 g6 g7 bm => visit_all w g2 g5 g6 g7 bm a0_0 A0_1 c0_1 l0_1 hr0_1 hc0_1 k k (Nat.le_refl _)); have H' := Aside0.mk h; clear hr0_1 hc0_1 h; have hu2 := Try.underlying49
  go_enter Try.func127, Try.ntmps127
  go_wp2_with (first
    | ((with_reducible refine gate_dst (N := 2) rfl ?_); refine box_event ?hg (N := 2) ?hd (cs := #[.int .i64 a0_0, .slice A0_1 l0_1.length c0_1]) (t := 49) ?hr ?_; (case hd => rfl); (case hg => rfl); (case hr => first | (go_simp; done) | (go_simp; rfl)); intro g2 hg w2 hbox hb; have B2 := Aside0.mk hb; have BK2 := Aside0.mk hbox; clear hb hg hbox)
    | ((with_reducible refine gate_dst (N := 5) rfl ?_); refine box_event ?hg (N := 5) ?hd (cs := #[.slice none 0 0]) (t := 64) ?hr ?_; (case hd => rfl); (case hg => rfl); (case hr => first | (go_simp; done) | (go_simp; rfl)); intro g5 hg w5 hbox hb; have B5 := Aside0.mk (below_step B2.out hb); have BK2 := Aside0.mk (blk_below BK2.out hb); have BK5 := Aside0.mk hbox; have GE5 := Aside0.mk (by rw [hg]; exact B2.out.size : w.heap.size ≤ g5); clear hb hg hbox)
    | ((with_reducible refine gate_dst (N := 8) rfl ?_); refine map_event rfl (N := 8) rfl rfl ?_; intro bm hg w8 hmet hb; have B8 := Aside0.mk (below_step B5.out hb); have BK2 := Aside0.mk (blk_below BK2.out hb); have BK5 := Aside0.mk (blk_below BK5.out hb); have GE8 := Aside0.mk (by rw [hg]; exact B5.out.size : w.heap.size ≤ bm); have MET := Aside0.mk hmet; clear hb hg hmet)
    | ((with_reducible refine gate_dst (N := 6) rfl ?_); refine box_event ?hg (N := 6) ?hd (cs := #[.map none]) (t := 104) ?hr ?_; (case hd => rfl); (case hg => rfl); (case hr => first | (go_simp; done) | (go_simp; rfl)); intro g6 hg w6 hbox hb; have B6 := Aside0.mk (below_step B8.out hb); have BK2 := Aside0.mk (blk_below BK2.out hb); have BK5 := Aside0.mk (blk_below BK5.out hb); have MET := Aside0.mk (MET.out.below hb); have BK6 := Aside0.mk hbox; have GE6 := Aside0.mk (by rw [hg]; exact B8.out.size : w.heap.size ≤ g6); have hs6 : w6.cell? ⟨g6, 0, none⟩ = some (.map none) := (blk_cell hbox 0).trans rfl; have hf6 := blk_frozen hbox 0; clear hb hg hbox)
    | ((with_reducible refine gate_store (t := 104) (p := 6) rfl ?_); refine store_event (t := 104) (p := 6) (v := ?vo1) (w1 := (w6.setCell ⟨g6, 0, none⟩ (.map (some bm)))) ?hg ?ho ?hn ?hr ?_; (case ho => rfl); (case hg => rfl); (case hn => rfl); (case hr => first | (go_simp; done) | (go_simp; rfl)); intro w7 hw; have BK2 := Aside0.mk (hw ▸ blkFarH BK2.out (blkNe BK2.out BK6.out (by decide)) (.map (some bm))); have BK5 := Aside0.mk (hw ▸ blkFarH BK5.out (blkNe BK5.out BK6.out (by decide)) (.map (some bm))); have MET := Aside0.mk (hw ▸ MET.out.far BK6.out (.map (some bm))); have B7 := Aside0.mk (hw ▸ below_set B6.out GE6.out : Below w.heap.size w w7); have BK6 := Aside0.mk (hw ▸ blk_put (cs' := #[.map (some bm)]) BK6.out 0 (.map (some bm)) rfl : w7.heap[g6]? = some (.cells #[.map (some bm)] 104 (0, 0))); clear hw hs6 hf6)
    | ((with_reducible refine gate_dst (N := 7) rfl ?_); refine box_event ?hg (N := 7) ?hd (cs := #[.nilFunc]) (t := 137) ?hr ?_; (case hd => rfl); (case hg => rfl); (case hr => first | (go_simp; done) | (go_simp; rfl)); intro g7 hg w9 hbox hb; have B9 := Aside0.mk (below_step B7.out hb); have BK2 := Aside0.mk (blk_below BK2.out hb); have BK5 := Aside0.mk (blk_below BK5.out hb); have BK6 := Aside0.mk (blk_below BK6.out hb); have MET := Aside0.mk (MET.out.below hb); have BK7 := Aside0.mk hbox; have GE7 := Aside0.mk (by rw [hg]; exact B7.out.size : w.heap.size ≤ g7); have hs7 : w9.cell? ⟨g7, 0, none⟩ = some .nilFunc := (blk_cell hbox 0).trans rfl; have hf7 := blk_frozen hbox 0; clear hb hg hbox)
    | ((with_reducible refine gate_store (t := 137) (p := 7) rfl ?_); refine store_event (t := 137) (p := 7) (v := ?vo2) (w1 := (w9.setCell ⟨g7, 0, none⟩ (.func (.func 144) #[] #[.pointer (some ⟨g2, 0, none⟩), .pointer (some ⟨g6, 0, none⟩), .pointer (some ⟨g5, 0, none⟩), .pointer (some ⟨g7, 0, none⟩)]))) ?hg ?ho ?hn ?hr ?_; (case ho => rfl); (case hg => rfl); (case hn => rfl); (case hr => exact func_store _ _ 7 9 rfl g7 w9 _ _ rfl rfl BK7.out); intro w10 hw; have HV := Aside0.mk (start_state B9.out BK2.out BK6.out BK5.out BK7.out MET.out GE5.out GE8.out GE7.out hw); have hk7 : w10.cell? ⟨g7, 0, none⟩ = some (.func (.func 144) #[] #[.pointer (some ⟨g2, 0, none⟩), .pointer (some ⟨g6, 0, none⟩), .pointer (some ⟨g5, 0, none⟩), .pointer (some ⟨g7, 0, none⟩)]) := HV.out.fncell; clear hw hs7 hf7)
    | (go_at_call 144; refine (HS.out g2 g5 g6 g7 bm a1 [] r _ HV.out H'.out).mono ?_; rintro e w11 ⟨v11, rfl, hv⟩; obtain ⟨Av, vv, cv, evv, h5c, hvr⟩ := hv.row; subst evv; have HVR := Aside0.mk hvr; have HBB := Aside0.mk hv.below; have hk5 : w11.cell? ⟨g5, 0, none⟩ = some (.slice Av r.length cv) := (blk_cell h5c 0).trans rfl; clear hv hvr h5c))
  go_ret; exact ⟨_, rfl, HVR.out, HBB.out⟩

end Go.Proofs.Ytngjaajcdbodeaa.All

namespace Go.Proofs.Ytngjaajcdbodeaa.All
open Go.RowKit Go.Proofs.YtngjaajcdbodeaaW.PrintWords Go.Proofs.YtngjaajcdbodeaaW.PrintLast Go.Proofs.YtngjaajcdbodeaaW.PrintMore Go.Proofs.Ytngjaajcdbodeaa.Sq
attribute [local go_sem] max2_int min2_int max_two min_two max_three min_three max_four min_four 
set_option linter.unusedVariables false
set_option linter.unusedSimpArgs false

/-! ### impl_in: function 88 -/
def impl_in.f (a0 : Int) (a1 : Int) (a2 : Int) : Option (Bool) := if a1 ≤ a0 then (some (decide (a0 ≤ a2))) else (some false)
set_option maxHeartbeats 8000000 in
set_option maxRecDepth 100000 in
theorem impl_in.calls (a0 : Int) (a1 : Int) (a2 : Int) (r : Bool) (w : World) (h : impl_in.f a0 a1 a2 = some r) :
    Calls Try.prog 88 #[.int .i64 a0, .int .i64 a1, .int .i64 a2] w fun e w' => e = .returned (.bool r) ∧ Drawn0 w w' := by
  have H : (if a1 ≤ a0 then (some (decide (a0 ≤ a2))) else (some false)) = some r := h; clear h
  by_cases c4 : a1 ≤ a0
  · rw [if_pos c4] at H
    have c4b0 : decide (a1 ≤ a0) = true := decide_eq_true c4; clear c4; obtain rfl := Option.some.inj H
    go_enter Try.func88, Try.ntmps88
    go_wp2; go_ret; exact ⟨by first | rfl | (simp; done) | (simp [*]; done), by repeat (first | exact Drawn0.refl _ | apply Drawn0.step)⟩
  · rw [if_neg c4] at H
    have c4b0 : decide (a1 ≤ a0) = false := decide_eq_false c4; clear c4; obtain rfl := Option.some.inj H
    go_enter Try.func88, Try.ntmps88
    go_wp2; go_ret; exact ⟨by first | rfl | (simp; done) | (simp [*]; done), by repeat (first | exact Drawn0.refl _ | apply Drawn0.step)⟩

end Go.Proofs.Ytngjaajcdbodeaa.All
