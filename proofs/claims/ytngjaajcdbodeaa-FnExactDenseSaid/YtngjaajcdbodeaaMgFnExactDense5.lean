/- The texts on which the row FnExactDense rests, part 5: contracts of the functions that it reaches and plain laws of what they compute. No condition. -/
import Derived.Test.YtngjaajcdbodeaaMgFnExactDenseW1
import Derived.Deep.Slices
import Derived.ChangeSame
import Derived.ChangeArms
import Derived.KernelRfl
import Derived.Test.YtngjaajcdbodeaaMgFnExactDense1
import Derived.Test.YtngjaajcdbodeaaMgFnExactDense2
import Derived.Test.YtngjaajcdbodeaaMgFnExactDense3
import Derived.Test.YtngjaajcdbodeaaMgFnExactDense4
namespace Go.Proofs.Ytngjaajcdbodeaa.All
open Go.RowKit Go.Proofs.YtngjaajcdbodeaaW.PrintWords Go.Proofs.YtngjaajcdbodeaaW.PrintLast Go.Proofs.YtngjaajcdbodeaaW.PrintMore Go.Proofs.Ytngjaajcdbodeaa.Sq
attribute [local go_sem] max2_int min2_int max_two min_two max_three min_three max_four min_four 
set_option linter.unusedVariables false
set_option linter.unusedSimpArgs false

/-! ### impl_ItemsOf: function 149 -/
def impl_ItemsOf.l0 : Nat → List (S34) → List (S103) → Int → Int → Option ((List (S34)))
  | 0, _, _, _, _ => none
  | k + 1, x3, x9, x10, x11 => if x11 < x10 then (if 0 ≤ x11 then (if x11 < (x9.length : Int) then (if x3.length < 3518437208883 then (impl_ItemsOf.l0 k (x3 ++ [(⟨(rd_T103 x9 x11).f0, (⟨(rd_T103 x9 x11).f1.f0, (rd_T103 x9 x11).f1.f1, (rd_T103 x9 x11).f1.f2, (rd_T103 x9 x11).f1.f3⟩ : S32)⟩ : S34)]) x9 x10 (wrap64 (x11 + 1))) else (none)) else (none)) else (none)) else (some x3)
def impl_ItemsOf.f (k : Nat) (a0_0 : Bool) (l0_1 : List (S103)) : Option ((List (S34))) := if a0_0 = true then (impl_ItemsOf.l0 k ([] : List (S34)) l0_1 (l0_1.length : Int) 0) else (some ([] : List (S34)))
theorem impl_ItemsOf.mono_l : ∀ k, (∀ y0 y1 y2 y3, LeO (impl_ItemsOf.l0 k y0 y1 y2 y3) (impl_ItemsOf.l0 (k + 1) y0 y1 y2 y3))
  | 0 => fun _ _ _ _ r h => by simp [impl_ItemsOf.l0] at h
  | k + 1 => by
    have ih0 := impl_ItemsOf.mono_l k
    · intro y0 y1 y2 y3
      unfold impl_ItemsOf.l0
      repeat' first | (with_reducible first | exact ih0 _ _ _ _ | exact LeO.refl _ | exact LeO.none _ | refine LeO.ite ?_ ?_ | refine LeO.bind ?_ (fun _ => ?_)) | exact ih0 _ _ _ _ | exact LeO.none _ | refine LeO.ite ?_ ?_ | refine LeO.bind ?_ (fun _ => ?_)
theorem impl_ItemsOf.mono : ∀ a0 a1 k, LeO (impl_ItemsOf.f k a0 a1) (impl_ItemsOf.f (k + 1) a0 a1) := by
  intro a0 a1 k
  have ih0 := impl_ItemsOf.mono_l k; unfold impl_ItemsOf.f
  repeat' first | (with_reducible first | exact ih0 _ _ _ _ | exact LeO.refl _ | exact LeO.none _ | refine LeO.ite ?_ ?_ | refine LeO.bind ?_ (fun _ => ?_)) | exact ih0 _ _ _ _ | exact LeO.none _ | refine LeO.ite ?_ ?_ | refine LeO.bind ?_ (fun _ => ?_)
set_option maxHeartbeats 8000000 in
set_option maxRecDepth 100000 in
theorem impl_ItemsOf.calls (k : Nat) (a0_0 : Bool) (A0_1 : Option Addr) (c0_1 : Nat) (l0_1 : List (S103)) (r : List (S34)) (w : World) (hr0_1 : Kd.C k103 w A0_1 l0_1.length l0_1) (hc0_1 : l0_1.length ≤ c0_1) (h : impl_ItemsOf.f k a0_0 l0_1 = some r) :
    Calls Try.prog 149 #[.agg #[.bool a0_0, .slice A0_1 l0_1.length c0_1]] w fun e w' => ∃ v0_ : Value, e = .returned (v0_) ∧ Kd.R k34 34 w' w.heap.size (fun _ => True) v0_ r ∧ Below w.heap.size w w' := by
  have hu54 := Try.underlying54; have hu103 := Try.underlying103; have hu32 := Try.underlying32; have hu34 := Try.underlying34; have HR0_1 := Aside0.mk hr0_1; have HC0_1 := Aside0.mk hc0_1; clear hr0_1 hc0_1; have HB := Aside0.mk (Below.refl w.heap.size w); have H : (if a0_0 = true then (impl_ItemsOf.l0 k ([] : List (S34)) l0_1 (l0_1.length : Int) 0) else (some ([] : List (S34)))) = some r := h; clear h
  by_cases c2 : a0_0 = true
  · subst c2
    replace H : (impl_ItemsOf.l0 k ([] : List (S34)) l0_1 (l0_1.length : Int) 0) = some r := (by rw [if_pos rfl] at H; exact H); have H' := Aside0.mk H; clear H
    go_enter Try.func149, Try.ntmps149
    go_wp2_with (first | ((with_reducible refine gate_dst (N := 1) rfl ?_); refine box_event ?hg (N := 1) ?hd (cs := #[.bool true, .slice A0_1 l0_1.length c0_1]) (t := 54) ?hr ?_; (case hd => rfl); (case hg => rfl); (case hr => first | (go_simp; done) | (go_simp; rfl)); intro gb1093 hg w3 hbox hb; have n0_ := Aside0.mk (below_step (bz HB.out) hb); have n1_ := Aside0.mk (hbox); have n2_ := Aside0.mk ((by rw [hg]; exact (below_size (bz HB.out)) : w.heap.size ≤ gb1093)); have n3_ := Aside0.mk ((by rw [hg]; exact (below_size (bz HB.out)) : w.heap.size ≤ gb1093)); clear HB; have HB := n0_; have BK1093 := n1_; have GW1093 := n2_; have GE1093 := n3_; clear n0_ n1_ n2_ n3_; clear hb hbox hg; have hcz4_0 := fz BK1093.out 0 (.bool true); have hcz4_1 := fz BK1093.out 1 (.slice A0_1 l0_1.length c0_1); have hfz4_0 := blk_frozen BK1093.out 0; have hfz4_1 := blk_frozen BK1093.out 1))
    go_loopg [3, 11] k (fun kq v3 v11 w' => ∃ (x3_1 : List (S34)) (x11_1 : Int), v11 = .int .i64 x11_1 ∧ Aside0 (impl_ItemsOf.l0 kq x3_1 l0_1 (l0_1.length : Int) x11_1 = some r) ∧ Aside0 (kq ≤ k) ∧ Aside0 (Kd.R k34 34 w' w.heap.size (fun _ => True) v3 x3_1) ∧ Aside0 (w'.heap[gb1093]? = some (.cells #[.bool true, (.slice A0_1 l0_1.length c0_1)] 54 (0, 0))) ∧ Aside0 (Below w.heap.size w w'))
    case atStart => exact ⟨(([] : List (S34))), (0), az, H', ⟨Nat.le_refl _⟩, ⟨by first | exact Kd.R_nil _ _ _ _ _ | exact Kd.N_nil _ _ _ _ _ | exact Kd.V_nil _ _ _ _ _ | exact Kd.Q_nil _ _ _ _ _ | exact Kd.S_nil _ _ _ _ _⟩, ⟨kz BK1093.out⟩, ⟨b1 GE1093.out HB.out⟩⟩
    case round =>
      clear H'; (try clear c1); (try clear c2); (try clear p2); (try clear hcz4_0); (try clear hcz4_1); (try clear hfz4_0); (try clear hfz4_1); obtain ⟨x3_1, x11_1, rfl, HA, HK1, HO_3, BK1093, HB⟩ := hrel
      cases gk with
      | zero => exact absurd HA.out (by simp [impl_ItemsOf.l0])
      | succ k1 =>
        have H := HA.out; clear HA
        simp only [impl_ItemsOf.l0] at H
        by_cases c5 : x11_1 < (l0_1.length : Int)
        · rw [if_pos c5] at H
          have c5b0 : decide (x11_1 < (l0_1.length : Int)) = true := decide_eq_true c5; clear c5
          by_cases c6 : 0 ≤ x11_1
          · rw [if_pos c6] at H
            have c6b0 : decide (0 ≤ x11_1) = true := decide_eq_true c6; clear c6
            by_cases c7 : x11_1 < (l0_1.length : Int)
            · rw [if_pos c7] at H
              have c7b0 : decide (x11_1 < (l0_1.length : Int)) = true := decide_eq_true c7; clear c7
              by_cases c8 : x3_1.length < 3518437208883
              · rw [if_pos c8] at H
                have LMc8 := Aside0.mk c8; clear c8; obtain ⟨y1096, hy1096⟩ : ∃ y_ : List (S34), y_ = (x3_1 ++ [(⟨(rd_T103 l0_1 x11_1).f0, (⟨(rd_T103 l0_1 x11_1).f1.f0, (rd_T103 l0_1 x11_1).f1.f1, (rd_T103 l0_1 x11_1).f1.f2, (rd_T103 l0_1 x11_1).f1.f3⟩ : S32)⟩ : S34)]) := ⟨_, rfl⟩
                replace H : (impl_ItemsOf.l0 k1 y1096 l0_1 (l0_1.length : Int) (wrap64 (x11_1 + 1))) = some r := by first | (rw [hy1096]; with_reducible exact H) | (have H2_ := (Option.bind_some _ _).symm.trans H; rw [hy1096]; with_reducible exact H2_) | (have H2_ := (Option.bind_some _ _).symm.trans H; with_reducible exact H2_) | with_reducible exact H | (rw [hy1096]; exact H) | exact H
                have Ny1096 := Aside0.mk hy1096; clear hy1096; have H' := Aside0.mk H; clear H; have p1094 : 0 ≤ (x11_1 : Int) := of_decide_eq_true uz; have q1094 : x11_1 < (l0_1.length : Int) := of_decide_eq_true uz; obtain ⟨ad1094, e1094, hx1094_0, hx1094_1, hx1094_2, hx1094_3, hx1094_4⟩ := at_T103 HR0_1.out x11_1 p1094 q1094
                cases e1094
                replace hx1094_0 := cz HB.out hx1094_0; replace hx1094_1 := cz HB.out hx1094_1; replace hx1094_2 := cz HB.out hx1094_2; replace hx1094_3 := cz HB.out hx1094_3; replace hx1094_4 := cz HB.out hx1094_4; replace p1094 := eq_true p1094; replace q1094 := eq_true q1094
                go_wp2_with (first | ((with_reducible refine gate_dst (N := 5) rfl ?_); refine box_event ?hg (N := 5) ?hd (cs := #[.int .i64 0, .int .i64 0, .int .i64 0, .int .i64 0, .int .i64 0]) (t := 103) ?hr ?_; (case hd => rfl); (case hg => rfl); (case hr => first | (go_simp; done) | (go_simp; rfl)); intro gb1095 hg w9 hbox hb; have n0_ := Aside0.mk (Kd.R_below (rz HO_3.out) hb); have n1_ := Aside0.mk (blk_below (g := gb1093) (o := .cells #[.bool true, .slice (some ad1094) l0_1.length c0_1] 54 (0, 0)) (kz BK1093.out) hb); have n2_ := Aside0.mk (below_step (b1 GE1093.out HB.out) hb); have n3_ := Aside0.mk (hbox); have n4_ := Aside0.mk ((by rw [hg]; exact (below_size (b1 GE1093.out HB.out)) : w.heap.size ≤ gb1095)); have n5_ := Aside0.mk ((by rw [hg]; exact (below_size (b1 GE1093.out HB.out)) : w.heap.size ≤ gb1095)); have n6_ := Aside0.mk ((by rw [hg]; exact Nat.ne_of_lt (blk_lt (g := gb1093) (o := .cells #[.bool true, .slice (some ad1094) l0_1.length c0_1] 54 (0, 0)) (kz BK1093.out)) : gb1093 ≠ gb1095)); have n7_ := Aside0.mk ((by rw [hg]; exact Nat.ne_of_gt (blk_lt (g := gb1093) (o := .cells #[.bool true, .slice (some ad1094) l0_1.length c0_1] 54 (0, 0)) (kz BK1093.out)) : gb1095 ≠ gb1093)); clear HO_3; clear BK1093; clear HB; have HO_3 := n0_; have BK1093 := n1_; have HB := n2_; have BK1095 := n3_; have GW1095 := n4_; have GE1095 := n5_; have NB1093_1095 := n6_; have NB1095_1093 := n7_; clear n0_ n1_ n2_ n3_ n4_ n5_ n6_ n7_; clear hb hbox hg; have hnb10 := NB1095_1093.out; have hnc10 := NB1093_1095.out; have hcz11_0 := fz BK1095.out 0 (.int .i64 0); have hcz11_1 := fz BK1095.out 1 (.int .i64 0); have hcz11_2 := fz BK1095.out 2 (.int .i64 0); have hcz11_3 := fz BK1095.out 3 (.int .i64 0); have hcz11_4 := fz BK1095.out 4 (.int .i64 0); have hfz11_0 := blk_frozen BK1095.out 0; have hfz11_1 := blk_frozen BK1095.out 1; have hfz11_2 := blk_frozen BK1095.out 2; have hfz11_3 := blk_frozen BK1095.out 3; have hfz11_4 := blk_frozen BK1095.out 4) | ((with_reducible refine gate_builtin (b := .append) (xs := #[.tmp 15, .tmp 21]) rfl ?_); at_builtin; refine Kd.R_append k34 (w0 := w) w.heap.size rfl (.tmp 15) (.tmp 21) 28 34 (.agg #[(.int .i64 0), (.int .i64 0), (.int .i64 0), (.int .i64 0), (.int .i64 0)]) 40 rfl Try.underlying28 info34 rfl (by decide) (by omega) u3 x3_1 (⟨(rd_T103 l0_1 x11_1).f0, (⟨(rd_T103 l0_1 x11_1).f1.f0, (rd_T103 l0_1 x11_1).f1.f1, (rd_T103 l0_1 x11_1).f1.f2, (rd_T103 l0_1 x11_1).f1.f3⟩ : S32)⟩ : S34) [.int .i64 ((rd_T103 l0_1 x11_1).f0), .int .i64 ((rd_T103 l0_1 x11_1).f1.f0), .int .i64 ((rd_T103 l0_1 x11_1).f1.f1), .int .i64 ((rd_T103 l0_1 x11_1).f1.f2), .int .i64 ((rd_T103 l0_1 x11_1).f1.f3)] (fun _ => True) (fun _ => False) rfl (by first | (go_simp; done) | (go_simp; rfl)) ?aP (fun _ hk => hk.elim) ?aF ?aO ?aB ?aS ?aL ?_; (case aP => exact k34_mkM _ _ _ (⟨(rd_T103 l0_1 x11_1).f0, (⟨(rd_T103 l0_1 x11_1).f1.f0, (rd_T103 l0_1 x11_1).f1.f1, (rd_T103 l0_1 x11_1).f1.f2, (rd_T103 l0_1 x11_1).f1.f3⟩ : S32)⟩ : S34)); (case aB => exact (b2 GE1093.out GE1095.out HB.out)); (case aF => exact (fun _ _ => trivial)); (case aO => exact (by (with_reducible repeat (first | apply Kd.R_alloc | apply Kd.R_drewN | apply Kd.R_drew)); exact Kd.R_mono (Kd.R_far (p := ⟨gb1095, 4, none⟩) (Kd.R_far (p := ⟨gb1095, 3, none⟩) (Kd.R_far (p := ⟨gb1095, 2, none⟩) (Kd.R_far (p := ⟨gb1095, 1, none⟩) (Kd.R_far (p := ⟨gb1095, 0, none⟩) (Kd.R_types HO_3.out BK1095.out (by decide)) (fun _ hk => hk.2) (.int .i64 ((rd_T103 l0_1 x11_1).f0))) (fun _ hk => hk.2) (.int .i64 ((rd_T103 l0_1 x11_1).f1.f0))) (fun _ hk => hk.2) (.int .i64 ((rd_T103 l0_1 x11_1).f1.f1))) (fun _ hk => hk.2) (.int .i64 ((rd_T103 l0_1 x11_1).f1.f2))) (fun _ hk => hk.2) (.int .i64 ((rd_T103 l0_1 x11_1).f1.f3))) (fun _ hk => trivial))); (case aS => exact (below_size (b2 GE1093.out GE1095.out HB.out))); (case aL => have := LMc8.out; omega); intro v1097 w12 ho hb hg hat; rw [← Ny1096.out] at ho; have n0_ := Aside0.mk (blk_grown (g := gb1093) (o := .cells #[.bool true, .slice (some ad1094) l0_1.length c0_1] 54 (0, 0)) (by (with_reducible repeat (first | refine blk_drewN ?_ _ | refine blk_drew ?_ | refine blk_alloc ?_ _)); refine blk_far ?_ NB1093_1095.out _; (with_reducible repeat (first | refine blk_drewN ?_ _ | refine blk_drew ?_ | refine blk_alloc ?_ _)); refine blk_far ?_ NB1093_1095.out _; (with_reducible repeat (first | refine blk_drewN ?_ _ | refine blk_drew ?_ | refine blk_alloc ?_ _)); refine blk_far ?_ NB1093_1095.out _; (with_reducible repeat (first | refine blk_drewN ?_ _ | refine blk_drew ?_ | refine blk_alloc ?_ _)); refine blk_far ?_ NB1093_1095.out _; (with_reducible repeat (first | refine blk_drewN ?_ _ | refine blk_drew ?_ | refine blk_alloc ?_ _)); refine blk_far ?_ NB1093_1095.out _; (with_reducible repeat (first | refine blk_drewN ?_ _ | refine blk_drew ?_ | refine blk_alloc ?_ _)); exact BK1093.out) hg (Kd.R_ne HO_3.out BK1093.out (by decide))); have n1_ := Aside0.mk (blk_grown (g := gb1095) (o := .cells #[.int .i64 ((rd_T103 l0_1 x11_1).f0), .int .i64 ((rd_T103 l0_1 x11_1).f1.f0), .int .i64 ((rd_T103 l0_1 x11_1).f1.f1), .int .i64 ((rd_T103 l0_1 x11_1).f1.f2), .int .i64 ((rd_T103 l0_1 x11_1).f1.f3)] 103 (0, 0)) (by (with_reducible repeat (first | refine blk_drewN ?_ _ | refine blk_drew ?_ | refine blk_alloc ?_ _)); refine blk_put (cs := #[.int .i64 ((rd_T103 l0_1 x11_1).f0), .int .i64 ((rd_T103 l0_1 x11_1).f1.f0), .int .i64 ((rd_T103 l0_1 x11_1).f1.f1), .int .i64 ((rd_T103 l0_1 x11_1).f1.f2), .int .i64 0]) ?_ 4 _ rfl; (with_reducible repeat (first | refine blk_drewN ?_ _ | refine blk_drew ?_ | refine blk_alloc ?_ _)); refine blk_put (cs := #[.int .i64 ((rd_T103 l0_1 x11_1).f0), .int .i64 ((rd_T103 l0_1 x11_1).f1.f0), .int .i64 ((rd_T103 l0_1 x11_1).f1.f1), .int .i64 0, .int .i64 0]) ?_ 3 _ rfl; (with_reducible repeat (first | refine blk_drewN ?_ _ | refine blk_drew ?_ | refine blk_alloc ?_ _)); refine blk_put (cs := #[.int .i64 ((rd_T103 l0_1 x11_1).f0), .int .i64 ((rd_T103 l0_1 x11_1).f1.f0), .int .i64 0, .int .i64 0, .int .i64 0]) ?_ 2 _ rfl; (with_reducible repeat (first | refine blk_drewN ?_ _ | refine blk_drew ?_ | refine blk_alloc ?_ _)); refine blk_put (cs := #[.int .i64 ((rd_T103 l0_1 x11_1).f0), .int .i64 0, .int .i64 0, .int .i64 0, .int .i64 0]) ?_ 1 _ rfl; (with_reducible repeat (first | refine blk_drewN ?_ _ | refine blk_drew ?_ | refine blk_alloc ?_ _)); refine blk_put (cs := #[.int .i64 0, .int .i64 0, .int .i64 0, .int .i64 0, .int .i64 0]) ?_ 0 _ rfl; (with_reducible repeat (first | refine blk_drewN ?_ _ | refine blk_drew ?_ | refine blk_alloc ?_ _)); exact BK1095.out) hg (Kd.R_ne HO_3.out BK1095.out (by decide))); have n2_ := Aside0.mk (hb); have n3_ := Aside0.mk (ho); clear BK1093; clear BK1095; clear HB; clear HO_3; have BK1093 := n0_; have BK1095 := n1_; have HB := n2_; have HO1098 := n3_; clear n0_ n1_ n2_ n3_; clear ho hb hg hat))
                go_roundg k1
                case measure => have := HK1.out; omega
                case rel => exact ⟨(y1096), (wrap64 (x11_1 + 1)), az, H', ⟨by have := HK1.out; omega⟩, ⟨rz HO1098.out⟩, ⟨kz BK1093.out⟩, ⟨b2 GE1093.out GE1095.out HB.out⟩⟩
              · rw [if_neg c8] at H
                exact absurd H (by simp)
            · rw [if_neg c7] at H
              exact absurd H (by simp)
          · rw [if_neg c6] at H
            exact absurd H (by simp)
        · rw [if_neg c5] at H
          have c5b0 : decide (x11_1 < (l0_1.length : Int)) = false := decide_eq_false c5; clear c5; obtain rfl := Option.some.inj H; go_wp2; go_ret; exact ⟨_, by first | rfl | (simp [errW_none, errW_some] <;> rfl) | (simp [*, errW_none, errW_some] <;> rfl), by (with_reducible repeat (first | apply Kd.R_alloc | apply Kd.R_drewN | apply Kd.R_drew)); exact HO_3.out, b1 GE1093.out HB.out⟩
  · replace c2 := Bool.eq_false_iff.mpr c2
    subst c2; replace H : (some ([] : List (S34))) = some r := (by rw [if_neg (show ¬ (false = true) by decide)] at H; exact H); obtain rfl := Option.some.inj H
    go_enter Try.func149, Try.ntmps149
    go_wp2_with (first | ((with_reducible refine gate_dst (N := 1) rfl ?_); refine box_event ?hg (N := 1) ?hd (cs := #[.bool false, .slice A0_1 l0_1.length c0_1]) (t := 54) ?hr ?_; (case hd => rfl); (case hg => rfl); (case hr => first | (go_simp; done) | (go_simp; rfl)); intro gb1093 hg w13 hbox hb; have n0_ := Aside0.mk (below_step (bz HB.out) hb); have n1_ := Aside0.mk (hbox); have n2_ := Aside0.mk ((by rw [hg]; exact (below_size (bz HB.out)) : w.heap.size ≤ gb1093)); have n3_ := Aside0.mk ((by rw [hg]; exact (below_size (bz HB.out)) : w.heap.size ≤ gb1093)); clear HB; have HB := n0_; have BK1093 := n1_; have GW1093 := n2_; have GE1093 := n3_; clear n0_ n1_ n2_ n3_; clear hb hbox hg; have hcz14_0 := fz BK1093.out 0 (.bool false); have hcz14_1 := fz BK1093.out 1 (.slice A0_1 l0_1.length c0_1); have hfz14_0 := blk_frozen BK1093.out 0; have hfz14_1 := blk_frozen BK1093.out 1))
    go_ret; exact ⟨_, by first | rfl | (simp [errW_none, errW_some] <;> rfl) | (simp [*, errW_none, errW_some] <;> rfl), by first | exact Kd.R_nil _ _ _ _ _ | exact Kd.N_nil _ _ _ _ _ | exact Kd.V_nil _ _ _ _ _ | exact Kd.Q_nil _ _ _ _ _ | exact Kd.S_nil _ _ _ _ _, b1 GE1093.out HB.out⟩

attribute [local go_sem] max2_int min2_int max_two min_two max_three min_three max_four min_four 
set_option linter.unusedVariables false
set_option linter.unusedSimpArgs false

/-! ### impl_itemsFrom: function 139 -/
def impl_itemsFrom.l0 : Nat → List (S34) → List Int → Int → Int → Int → List (S90) → Option ((List (S34)))
  | 0, _, _, _, _, _, _ => none
  | k + 1, x5, x10, x11, x12, x1100000, x1100001 => if x12 < x11 then (if 0 ≤ x12 then (if x12 < (x10.length : Int) then (if 0 ≤ (rd x10 x12) then (if (rd x10 x12) < (x1100001.length : Int) then ((impl_ItemsOf.f k ((rd_T90 x1100001 (rd x10 x12)).f1.f0) ((rd_T90 x1100001 (rd x10 x12)).f1.f1)).bind fun t1105 => (if x5.length + t1105.length < 3518437208883 then (impl_itemsFrom.l0 k (x5 ++ t1105) x10 x11 (wrap64 (x12 + 1)) x1100000 x1100001) else (none))) else (none)) else (none)) else (none)) else (none)) else (some x5)
def impl_itemsFrom.f (k : Nat) (a0_0 : Int) (l0_1 : List (S90)) (a1 : Int) : Option ((List (S34))) := (impl_reachFrom.f k a0_0 l0_1 a1).bind fun t1100 => (impl_itemsFrom.l0 k ([] : List (S34)) t1100 (t1100.length : Int) 0 a0_0 l0_1)
theorem impl_itemsFrom.mono_l : ∀ k, (∀ y0 y1 y2 y3 y4 y5, LeO (impl_itemsFrom.l0 k y0 y1 y2 y3 y4 y5) (impl_itemsFrom.l0 (k + 1) y0 y1 y2 y3 y4 y5))
  | 0 => fun _ _ _ _ _ _ r h => by simp [impl_itemsFrom.l0] at h
  | k + 1 => by
    have ih0 := impl_itemsFrom.mono_l k
    · intro y0 y1 y2 y3 y4 y5
      unfold impl_itemsFrom.l0
      repeat' first | (with_reducible first | exact ih0 _ _ _ _ _ _ | exact impl_ItemsOf.mono _ _ _ | exact impl_reachFrom.mono _ _ _ _ | exact LeO.refl _ | exact LeO.none _ | refine LeO.ite ?_ ?_ | refine LeO.bind ?_ (fun _ => ?_)) | exact ih0 _ _ _ _ _ _ | exact impl_ItemsOf.mono _ _ _ | exact impl_reachFrom.mono _ _ _ _ | exact LeO.none _ | refine LeO.ite ?_ ?_ | refine LeO.bind ?_ (fun _ => ?_)
theorem impl_itemsFrom.mono : ∀ a0 a1 a2 k, LeO (impl_itemsFrom.f k a0 a1 a2) (impl_itemsFrom.f (k + 1) a0 a1 a2) := by
  intro a0 a1 a2 k
  have ih0 := impl_itemsFrom.mono_l k; unfold impl_itemsFrom.f
  repeat' first | (with_reducible first | exact ih0 _ _ _ _ _ _ | exact impl_ItemsOf.mono _ _ _ | exact impl_reachFrom.mono _ _ _ _ | exact LeO.refl _ | exact LeO.none _ | refine LeO.ite ?_ ?_ | refine LeO.bind ?_ (fun _ => ?_)) | exact ih0 _ _ _ _ _ _ | exact impl_ItemsOf.mono _ _ _ | exact impl_reachFrom.mono _ _ _ _ | exact LeO.none _ | refine LeO.ite ?_ ?_ | refine LeO.bind ?_ (fun _ => ?_)
set_option maxHeartbeats 8000000 in
set_option maxRecDepth 100000 in
theorem impl_itemsFrom.calls (k : Nat) (a0_0 : Int) (A0_1 : Option Addr) (c0_1 : Nat) (l0_1 : List (S90)) (a1 : Int) (r : List (S34)) (w : World) (hr0_1 : Kd.C k90 w A0_1 l0_1.length l0_1) (hc0_1 : l0_1.length ≤ c0_1) (h : impl_itemsFrom.f k a0_0 l0_1 a1 = some r) :
    Calls Try.prog 139 #[.agg #[.int .i64 a0_0, .slice A0_1 l0_1.length c0_1], .int .i64 a1] w fun e w' => ∃ v0_ : Value, e = .returned (v0_) ∧ Kd.R k34 34 w' w.heap.size (fun _ => True) v0_ r ∧ Below w.heap.size w w' := by
  have hu49 := Try.underlying49; have hu54 := Try.underlying54; have HR0_1 := Aside0.mk hr0_1; have HC0_1 := Aside0.mk hc0_1; clear hr0_1 hc0_1; have HB := Aside0.mk (Below.refl w.heap.size w); have H : ((impl_reachFrom.f k a0_0 l0_1 a1).bind fun t1100 => (impl_itemsFrom.l0 k ([] : List (S34)) t1100 (t1100.length : Int) 0 a0_0 l0_1)) = some r := h; clear h; replace H := Option.bind_eq_some_iff.mp H; obtain ⟨t1100, A30, H⟩ := H; replace H : (impl_itemsFrom.l0 k ([] : List (S34)) t1100 (t1100.length : Int) 0 a0_0 l0_1) = some r := H; have A3 := Aside0.mk A30; clear A30; have H' := Aside0.mk H; clear H
  go_enter Try.func139, Try.ntmps139
  go_wp2_with (first | ((with_reducible refine gate_dst (N := 2) rfl ?_); refine box_event ?hg (N := 2) ?hd (cs := #[.int .i64 a0_0, .slice A0_1 l0_1.length c0_1]) (t := 49) ?hr ?_; (case hd => rfl); (case hg => rfl); (case hr => first | (go_simp; done) | (go_simp; rfl)); intro gb1099 hg w4 hbox hb; have n0_ := Aside0.mk (below_step (bz HB.out) hb); have n1_ := Aside0.mk (hbox); have n2_ := Aside0.mk ((by rw [hg]; exact (below_size (bz HB.out)) : w.heap.size ≤ gb1099)); have n3_ := Aside0.mk ((by rw [hg]; exact (below_size (bz HB.out)) : w.heap.size ≤ gb1099)); clear HB; have HB := n0_; have BK1099 := n1_; have GW1099 := n2_; have GE1099 := n3_; clear n0_ n1_ n2_ n3_; clear hb hbox hg; have hcz5_0 := fz BK1099.out 0 (.int .i64 a0_0); have hcz5_1 := fz BK1099.out 1 (.slice A0_1 l0_1.length c0_1); have hfz5_0 := blk_frozen BK1099.out 0; have hfz5_1 := blk_frozen BK1099.out 1) | ((with_reducible refine gate_callee (f := 127) rfl ?_); refine goesL_ (some 10) rfl rfl Try.func127 (by kernel_rfl) rfl #[.agg #[.int .i64 a0_0, .slice A0_1 l0_1.length c0_1], .int .i64 a1] rfl dz ?_; (with_reducible refine (impl_reachFrom.calls k a0_0 _ _ l0_1 a1 t1100 _ ?side1 ?side2 A3.out).mono ?_); (case side1 => exact sz HR0_1.out HB.out); (case side2 => exact HC0_1.out); rintro e w6 ⟨v1101, rfl, ho0, hb⟩; refine ⟨_, rfl, ?_⟩; have n0_ := Aside0.mk (Kd.R_lower ho0 (below_size (b1 GE1099.out HB.out))); have n1_ := Aside0.mk (blk_below (g := gb1099) (o := .cells #[.int .i64 a0_0, .slice A0_1 l0_1.length c0_1] 49 (0, 0)) (kz BK1099.out) hb); have n2_ := Aside0.mk (below_step (b1 GE1099.out HB.out) hb); clear BK1099; clear HB; have HO1102 := n0_; have BK1099 := n1_; have HB := n2_; clear n0_ n1_ n2_; (try clear hb); (try clear hb2); (try clear hk); (try clear hi); (try clear ho0); obtain ⟨Ao7, co7, eo7⟩ := Kd.R_slice HO1102.out; subst eo7))
  go_loopg [5, 12] k (fun kq v5 v12 w' => ∃ (x5_1 : List (S34)) (x12_1 : Int), v12 = .int .i64 x12_1 ∧ Aside0 (impl_itemsFrom.l0 kq x5_1 t1100 (t1100.length : Int) x12_1 a0_0 l0_1 = some r) ∧ Aside0 (kq ≤ k) ∧ Aside0 (Kd.R k34 34 w' w.heap.size (fun _ => True) v5 x5_1) ∧ Aside0 (Kd.R (Kd.int .i64) 3 w' w.heap.size (fun _ => True) (.slice Ao7 t1100.length co7) t1100) ∧ Aside0 (w'.heap[gb1099]? = some (.cells #[.int .i64 a0_0, (.slice A0_1 l0_1.length c0_1)] 49 (0, 0))) ∧ Aside0 (Below w.heap.size w w'))
  case atStart => exact ⟨(([] : List (S34))), (0), az, H', ⟨Nat.le_refl _⟩, ⟨by first | exact Kd.R_nil _ _ _ _ _ | exact Kd.N_nil _ _ _ _ _ | exact Kd.V_nil _ _ _ _ _ | exact Kd.Q_nil _ _ _ _ _ | exact Kd.S_nil _ _ _ _ _⟩, ⟨rz HO1102.out⟩, ⟨kz BK1099.out⟩, ⟨b1 GE1099.out HB.out⟩⟩
  case round =>
    clear H'; (try clear c1); (try clear p2); (try clear hcz5_0); (try clear hcz5_1); (try clear hfz5_0); (try clear hfz5_1); obtain ⟨x5_1, x12_1, rfl, HA, HK1, HO_5, HO_10, BK1099, HB⟩ := hrel
    cases gk with
    | zero => exact absurd HA.out (by simp [impl_itemsFrom.l0])
    | succ k1 =>
      have H := HA.out; clear HA
      simp only [impl_itemsFrom.l0] at H
      by_cases c8 : x12_1 < (t1100.length : Int)
      · rw [if_pos c8] at H
        have c8b0 : decide (x12_1 < (t1100.length : Int)) = true := decide_eq_true c8; clear c8
        by_cases c9 : 0 ≤ x12_1
        · rw [if_pos c9] at H
          have c9b0 : decide (0 ≤ x12_1) = true := decide_eq_true c9; clear c9
          by_cases c10 : x12_1 < (t1100.length : Int)
          · rw [if_pos c10] at H
            have c10b0 : decide (x12_1 < (t1100.length : Int)) = true := decide_eq_true c10; clear c10
            by_cases c11 : 0 ≤ (rd t1100 x12_1)
            · rw [if_pos c11] at H
              have c11b0 : decide (0 ≤ (rd t1100 x12_1)) = true := decide_eq_true c11; clear c11
              by_cases c12 : (rd t1100 x12_1) < (l0_1.length : Int)
              · rw [if_pos c12] at H
                have c12b0 : decide ((rd t1100 x12_1) < (l0_1.length : Int)) = true := decide_eq_true c12; clear c12; replace H := Option.bind_eq_some_iff.mp H; obtain ⟨t1105, A130, H⟩ := H; replace H : (if x5_1.length + t1105.length < 3518437208883 then (impl_itemsFrom.l0 k1 (x5_1 ++ t1105) t1100 (t1100.length : Int) (wrap64 (x12_1 + 1)) a0_0 l0_1) else (none)) = some r := H; have A13 := Aside0.mk A130; clear A130
                by_cases c14 : x5_1.length + t1105.length < 3518437208883
                · rw [if_pos c14] at H
                  have LMc14 := Aside0.mk c14; clear c14; obtain ⟨y1108, hy1108⟩ : ∃ y_ : List (S34), y_ = (x5_1 ++ t1105) := ⟨_, rfl⟩
                  replace H : (impl_itemsFrom.l0 k1 y1108 t1100 (t1100.length : Int) (wrap64 (x12_1 + 1)) a0_0 l0_1) = some r := by first | (rw [hy1108]; with_reducible exact H) | (have H2_ := (Option.bind_some _ _).symm.trans H; rw [hy1108]; with_reducible exact H2_) | (have H2_ := (Option.bind_some _ _).symm.trans H; with_reducible exact H2_) | with_reducible exact H | (rw [hy1108]; exact H) | exact H
                  have Ny1108 := Aside0.mk hy1108; clear hy1108; have H' := Aside0.mk H; clear H; have p1103 : 0 ≤ (x12_1 : Int) := of_decide_eq_true uz; have q1103 : x12_1 < (t1100.length : Int) := of_decide_eq_true uz; obtain ⟨ad1103, e1103, hx1103_0⟩ := Kd.at_int (Kd.R_reads' HO_10.out).2.2 x12_1 p1103 q1103
                  cases e1103
                  replace p1103 := eq_true p1103; replace q1103 := eq_true q1103; have hcz15_0 := fz BK1099.out 0 (.int .i64 a0_0); have hcz15_1 := fz BK1099.out 1 (.slice A0_1 l0_1.length c0_1); have hfz15_0 := blk_frozen BK1099.out 0; have hfz15_1 := blk_frozen BK1099.out 1; have p1104 : 0 ≤ ((rd t1100 x12_1) : Int) := of_decide_eq_true uz; have q1104 : (rd t1100 x12_1) < (l0_1.length : Int) := of_decide_eq_true uz; obtain ⟨ad1104, A1104_2, c1104_2, e1104, hx1104_0, hx1104_1, hx1104_2, hl1104_2, hi1104_2⟩ := at_T90 HR0_1.out (rd t1100 x12_1) p1104 q1104
                  cases e1104
                  replace hx1104_0 := cz HB.out hx1104_0; replace hx1104_1 := cz HB.out hx1104_1; replace hx1104_2 := cz HB.out hx1104_2; have HR1104_2 := Aside0.mk hi1104_2; have HC1104_2 := Aside0.mk hl1104_2; clear hi1104_2 hl1104_2; replace p1104 := eq_true p1104; replace q1104 := eq_true q1104
                  go_wp2_with (first | ((with_reducible refine gate_callee (f := 149) rfl ?_); refine goesL_ (some 23) rfl rfl Try.func149 (by kernel_rfl) rfl #[.agg #[.bool ((rd_T90 l0_1 (rd t1100 x12_1)).f1.f0), .slice A1104_2 ((rd_T90 l0_1 (rd t1100 x12_1)).f1.f1).length c1104_2]] rfl dz ?_; (with_reducible refine (impl_ItemsOf.calls k1 ((rd_T90 l0_1 (rd t1100 x12_1)).f1.f0) _ _ ((rd_T90 l0_1 (rd t1100 x12_1)).f1.f1) t1105 _ ?side1 ?side2 A13.out).mono ?_); (case side1 => exact sz HR1104_2.out HB.out); (case side2 => exact HC1104_2.out); rintro e w16 ⟨v1106, rfl, ho0, hb⟩; refine ⟨_, rfl, ?_⟩; have n0_ := Aside0.mk (Kd.R_elder' (rz HO_5.out) (Kd.R_base ho0) hb); have n1_ := Aside0.mk (Kd.R_below (rz HO_10.out) hb); have n2_ := Aside0.mk (Kd.R_lower (Kd.R_new' ho0 (Kd.R_lt (rz HO_5.out))) (below_size (b1 GE1099.out HB.out))); have n3_ := Aside0.mk (blk_below (g := gb1099) (o := .cells #[.int .i64 a0_0, .slice (some ad1104) l0_1.length c0_1] 49 (0, 0)) (kz BK1099.out) hb); have n4_ := Aside0.mk (below_step (b1 GE1099.out HB.out) hb); clear HO_5; clear HO_10; clear BK1099; clear HB; have HO_5 := n0_; have HO_10 := n1_; have HO1107 := n2_; have BK1099 := n3_; have HB := n4_; clear n0_ n1_ n2_ n3_ n4_; (try clear hb); (try clear hb2); (try clear hk); (try clear hi); (try clear ho0); obtain ⟨Ao18, co18, eo18⟩ := Kd.R_slice HO1107.out; subst eo18) | ((with_reducible refine gate_builtin (b := .append) (xs := #[.tmp 16, .tmp 23]) rfl ?_); at_builtin; refine Kd.R_append_rows k34 (w0 := w) w.heap.size rfl (.tmp 16) (.tmp 23) 28 34 (.agg #[(.int .i64 0), (.int .i64 0), (.int .i64 0), (.int .i64 0), (.int .i64 0)]) 40 rfl Try.underlying28 info34 rfl (by decide) (by omega) u5 x5_1 t1105 _ _ _ (fun k_ => some k_ ≠ (.slice Ao18 t1105.length co18 : Value).ownBlock) (fun _ => False) rfl rfl ?aO ?aR (fun _ _ h => h) (fun _ h => h.elim) ?aF ?aB ?aS ?aL ?_; (case aR => repeat (first | exact (Kd.R_reads' HO1107.out).2.2 | (with_reducible refine Kd.C_alloc ?_ _) | (with_reducible refine Kd.C_drewN ?_ _) | (with_reducible refine Kd.C_drew ?_))); (case aB => exact (b1 GE1099.out HB.out)); (case aF => exact (fun k_ hk => Kd.fresh' (Kd.R_lt (rz HO1107.out)) k_ hk)); (case aO => exact (by (with_reducible repeat (first | apply Kd.R_alloc | apply Kd.R_drewN | apply Kd.R_drew)); exact Kd.R_mono HO_5.out (fun _ hk => hk.2))); (case aS => exact (below_size (b1 GE1099.out HB.out))); (case aL => have := LMc14.out; omega); intro v1109 w17 ho hb hg hat; rw [← Ny1108.out] at ho; have n0_ := Aside0.mk (Kd.R_over' (rz HO_10.out) (Kd.R_typed (rz HO_5.out)) (by decide) hg); have n1_ := Aside0.mk (blk_grown (g := gb1099) (o := .cells #[.int .i64 a0_0, .slice (some ad1104) l0_1.length c0_1] 49 (0, 0)) (kz BK1099.out) hg (Kd.R_ne HO_5.out BK1099.out (by decide))); have n2_ := Aside0.mk (Kd.R_after (ok := (fun _ => True)) (rz HO1107.out) hg hat); have n3_ := Aside0.mk (hb); have n4_ := Aside0.mk (ho); clear HO_10; clear BK1099; clear HO1107; clear HB; clear HO_5; have HO_10 := n0_; have BK1099 := n1_; have HO1107 := n2_; have HB := n3_; have HO1110 := n4_; clear n0_ n1_ n2_ n3_ n4_; clear ho hb hg hat))
                  go_roundg k1
                  case measure => have := HK1.out; omega
                  case rel => exact ⟨(y1108), (wrap64 (x12_1 + 1)), az, H', ⟨by have := HK1.out; omega⟩, ⟨by (with_reducible repeat (first | apply Kd.R_alloc | apply Kd.R_drewN | apply Kd.R_drew)); exact Kd.R_mono HO1110.out (fun _ hk => trivial)⟩, ⟨rz HO_10.out⟩, ⟨kz BK1099.out⟩, ⟨b1 GE1099.out HB.out⟩⟩
                · rw [if_neg c14] at H
                  exact absurd H (by simp)
              · rw [if_neg c12] at H
                exact absurd H (by simp)
            · rw [if_neg c11] at H
              exact absurd H (by simp)
          · rw [if_neg c10] at H
            exact absurd H (by simp)
        · rw [if_neg c9] at H
          exact absurd H (by simp)
      · rw [if_neg c8] at H
        have c8b0 : decide (x12_1 < (t1100.length : Int)) = false := decide_eq_false c8; clear c8; obtain rfl := Option.some.inj H; go_wp2; go_ret; exact ⟨_, by first | rfl | (simp [errW_none, errW_some] <;> rfl) | (simp [*, errW_none, errW_some] <;> rfl), by (with_reducible repeat (first | apply Kd.R_alloc | apply Kd.R_drewN | apply Kd.R_drew)); exact HO_5.out, b1 GE1099.out HB.out⟩

attribute [local go_sem] max2_int min2_int max_two min_two max_three min_three max_four min_four 
set_option linter.unusedVariables false
set_option linter.unusedSimpArgs false

/-! ### impl_All: function 108 -/
def impl_All.f (k : Nat) (a0_0 : Int) (l0_1 : List (S90)) : Option ((List (S34))) := (impl_itemsFrom.f k a0_0 l0_1 a0_0).bind fun t1112 => (some t1112)
theorem impl_All.mono : ∀ a0 a1 k, LeO (impl_All.f k a0 a1) (impl_All.f (k + 1) a0 a1) := by
  intro a0 a1 k
  unfold impl_All.f
  repeat' first | (with_reducible first | exact impl_itemsFrom.mono _ _ _ _ | exact LeO.refl _ | exact LeO.none _ | refine LeO.ite ?_ ?_ | refine LeO.bind ?_ (fun _ => ?_)) | exact impl_itemsFrom.mono _ _ _ _ | exact LeO.none _ | refine LeO.ite ?_ ?_ | refine LeO.bind ?_ (fun _ => ?_)
set_option maxHeartbeats 8000000 in
set_option maxRecDepth 100000 in
theorem impl_All.calls (k : Nat) (a0_0 : Int) (A0_1 : Option Addr) (c0_1 : Nat) (l0_1 : List (S90)) (r : List (S34)) (w : World) (hr0_1 : Kd.C k90 w A0_1 l0_1.length l0_1) (hc0_1 : l0_1.length ≤ c0_1) (h : impl_All.f k a0_0 l0_1 = some r) :
    Calls Try.prog 108 #[.agg #[.int .i64 a0_0, .slice A0_1 l0_1.length c0_1]] w fun e w' => ∃ v0_ : Value, e = .returned (v0_) ∧ Kd.R k34 34 w' w.heap.size (fun _ => True) v0_ r ∧ Below w.heap.size w w' := by
  have hu49 := Try.underlying49; have HR0_1 := Aside0.mk hr0_1; have HC0_1 := Aside0.mk hc0_1; clear hr0_1 hc0_1; have HB := Aside0.mk (Below.refl w.heap.size w); have H : ((impl_itemsFrom.f k a0_0 l0_1 a0_0).bind fun t1112 => (some t1112)) = some r := h; clear h; replace H := Option.bind_eq_some_iff.mp H; obtain ⟨t1112, A20, H⟩ := H; replace H : (some t1112) = some r := H; have A2 := Aside0.mk A20; clear A20; obtain rfl := Option.some.inj H
  go_enter Try.func108, Try.ntmps108
  go_wp2_with (first | ((with_reducible refine gate_dst (N := 1) rfl ?_); refine box_event ?hg (N := 1) ?hd (cs := #[.int .i64 a0_0, .slice A0_1 l0_1.length c0_1]) (t := 49) ?hr ?_; (case hd => rfl); (case hg => rfl); (case hr => first | (go_simp; done) | (go_simp; rfl)); intro gb1111 hg w3 hbox hb; have n0_ := Aside0.mk (below_step (bz HB.out) hb); have n1_ := Aside0.mk (hbox); have n2_ := Aside0.mk ((by rw [hg]; exact (below_size (bz HB.out)) : w.heap.size ≤ gb1111)); have n3_ := Aside0.mk ((by rw [hg]; exact (below_size (bz HB.out)) : w.heap.size ≤ gb1111)); clear HB; have HB := n0_; have BK1111 := n1_; have GW1111 := n2_; have GE1111 := n3_; clear n0_ n1_ n2_ n3_; clear hb hbox hg; have hcz4_0 := fz BK1111.out 0 (.int .i64 a0_0); have hcz4_1 := fz BK1111.out 1 (.slice A0_1 l0_1.length c0_1); have hfz4_0 := blk_frozen BK1111.out 0; have hfz4_1 := blk_frozen BK1111.out 1) | ((with_reducible refine gate_callee (f := 139) rfl ?_); refine goesL_ (some 6) rfl rfl Try.func139 (by kernel_rfl) rfl #[.agg #[.int .i64 a0_0, .slice A0_1 l0_1.length c0_1], .int .i64 a0_0] rfl dz ?_; (with_reducible refine (impl_itemsFrom.calls k a0_0 _ _ l0_1 a0_0 t1112 _ ?side1 ?side2 A2.out).mono ?_); (case side1 => exact sz HR0_1.out HB.out); (case side2 => exact HC0_1.out); rintro e w5 ⟨v1113, rfl, ho0, hb⟩; refine ⟨_, rfl, ?_⟩; have n0_ := Aside0.mk (Kd.R_lower ho0 (below_size (b1 GE1111.out HB.out))); have n1_ := Aside0.mk (blk_below (g := gb1111) (o := .cells #[.int .i64 a0_0, .slice A0_1 l0_1.length c0_1] 49 (0, 0)) (kz BK1111.out) hb); have n2_ := Aside0.mk (below_step (b1 GE1111.out HB.out) hb); clear BK1111; clear HB; have HO1114 := n0_; have BK1111 := n1_; have HB := n2_; clear n0_ n1_ n2_; (try clear hb); (try clear hb2); (try clear hk); (try clear hi); (try clear ho0)))
  go_ret; exact ⟨_, by first | rfl | (simp [errW_none, errW_some] <;> rfl) | (simp [*, errW_none, errW_some] <;> rfl), by (with_reducible repeat (first | apply Kd.R_alloc | apply Kd.R_drewN | apply Kd.R_drew)); exact HO1114.out, b1 GE1111.out HB.out⟩

attribute [local go_sem] max2_int min2_int max_two min_two max_three min_three max_four min_four 
set_option linter.unusedVariables false
set_option linter.unusedSimpArgs false

/-! ### impl_Dense: function 56 -/
mutual
def impl_Dense.j0 : Nat → Bool → Int → List (S90) → Option (Bool)
  | 0, _, _, _ => none
  | k + 1, x19, x1116000, x1116001 => if x19 = true then (some false) else (impl_Dense.l0 k (([x1116000] : List Int)) 1 x1116000 x1116001)
def impl_Dense.l0 : Nat → List Int → Int → Int → List (S90) → Option (Bool)
  | 0, _, _, _, _ => none
  | k + 1, x3, x4, x1116000, x1116001 => if x4 ≤ 12 then (impl_Dense.j2 k x3 x4 (decide ((x3.length : Int) > 0)) x1116000 x1116001) else (impl_Dense.j2 k x3 x4 false x1116000 x1116001)
def impl_Dense.j2 : Nat → List Int → Int → Bool → Int → List (S90) → Option (Bool)
  | 0, _, _, _, _, _ => none
  | k + 1, x3, x4, x29, x1116000, x1116001 => if x29 = true then (impl_Dense.l1 k x3 x4 ([] : List Int) x3 (x3.length : Int) 0 x1116000 x1116001) else (some true)
def impl_Dense.l1 : Nat → List Int → Int → List Int → List Int → Int → Int → Int → List (S90) → Option (Bool)
  | 0, _, _, _, _, _, _, _, _ => none
  | k + 1, x3, x4, x5, x32, x33, x34, x1116000, x1116001 => if x34 < x33 then (if 0 ≤ x34 then (if x34 < (x32.length : Int) then (if 0 ≤ (rd x32 x34) then (if (rd x32 x34) < (x1116001.length : Int) then (if x34 < (wrap64 ((x3.length : Int) - 1)) then (impl_Dense.j4 k x3 x4 x5 x32 x33 x34 ((((rd_T90 x1116001 (rd x32 x34)).f1.f1).length : Int) != 4) x1116000 x1116001 ((rd_T90 x1116001 (rd x32 x34)).f1.f0) ((rd_T90 x1116001 (rd x32 x34)).f1.f1)) else (impl_Dense.j4 k x3 x4 x5 x32 x33 x34 false x1116000 x1116001 ((rd_T90 x1116001 (rd x32 x34)).f1.f0) ((rd_T90 x1116001 (rd x32 x34)).f1.f1))) else (none)) else (none)) else (none)) else (none)) else (impl_Dense.l0 k x5 (wrap64 (x4 + 1)) x1116000 x1116001)
def impl_Dense.j4 : Nat → List Int → Int → List Int → List Int → Int → Int → Bool → Int → List (S90) → Bool → List (S103) → Option (Bool)
  | 0, _, _, _, _, _, _, _, _, _, _, _ => none
  | k + 1, x3, x4, x5, x32, x33, x34, x55, x1116000, x1116001, x1127000, x1127001 => if x55 = true then (some false) else (if x1127000 = true then (impl_Dense.l1 k x3 x4 x5 x32 x33 (wrap64 (x34 + 1)) x1116000 x1116001) else (impl_Dense.l2 k x3 x4 x5 x32 x33 x34 x1127001 (x1127001.length : Int) 0 x1116000 x1116001))
def impl_Dense.l2 : Nat → List Int → Int → List Int → List Int → Int → Int → List (S103) → Int → Int → Int → List (S90) → Option (Bool)
  | 0, _, _, _, _, _, _, _, _, _, _, _ => none
  | k + 1, x3, x4, x5, x32, x33, x34, x60, x61, x62, x1116000, x1116001 => if x62 < x61 then (if 0 ≤ x62 then (if x62 < (x60.length : Int) then (if x5.length < 17592186044416 then (impl_Dense.l2 k x3 x4 (x5 ++ [(rd_T103 x60 x62).f0]) x32 x33 x34 x60 x61 (wrap64 (x62 + 1)) x1116000 x1116001) else (none)) else (none)) else (none)) else (impl_Dense.l1 k x3 x4 x5 x32 x33 (wrap64 (x34 + 1)) x1116000 x1116001)
end
def impl_Dense.f (k : Nat) (a0_0 : Int) (l0_1 : List (S90)) : Option (Bool) := (impl_BookOk.f k a0_0 l0_1).bind fun t1116 => (if t1116 = true then ((impl_All.f k a0_0 l0_1).bind fun t1117 => ((impl_InOrder.f k t1117).bind fun t1120 => (impl_Dense.j0 k (!t1120) a0_0 l0_1))) else (impl_Dense.j0 k true a0_0 l0_1))
theorem impl_Dense.mono_l : ∀ k, (∀ y0 y1 y2, LeO (impl_Dense.j0 k y0 y1 y2) (impl_Dense.j0 (k + 1) y0 y1 y2)) ∧ (∀ y0 y1 y2 y3, LeO (impl_Dense.l0 k y0 y1 y2 y3) (impl_Dense.l0 (k + 1) y0 y1 y2 y3)) ∧ (∀ y0 y1 y2 y3 y4, LeO (impl_Dense.j2 k y0 y1 y2 y3 y4) (impl_Dense.j2 (k + 1) y0 y1 y2 y3 y4)) ∧ (∀ y0 y1 y2 y3 y4 y5 y6 y7, LeO (impl_Dense.l1 k y0 y1 y2 y3 y4 y5 y6 y7) (impl_Dense.l1 (k + 1) y0 y1 y2 y3 y4 y5 y6 y7)) ∧ (∀ y0 y1 y2 y3 y4 y5 y6 y7 y8 y9 y10, LeO (impl_Dense.j4 k y0 y1 y2 y3 y4 y5 y6 y7 y8 y9 y10) (impl_Dense.j4 (k + 1) y0 y1 y2 y3 y4 y5 y6 y7 y8 y9 y10)) ∧ (∀ y0 y1 y2 y3 y4 y5 y6 y7 y8 y9 y10, LeO (impl_Dense.l2 k y0 y1 y2 y3 y4 y5 y6 y7 y8 y9 y10) (impl_Dense.l2 (k + 1) y0 y1 y2 y3 y4 y5 y6 y7 y8 y9 y10))
  | 0 => ⟨fun _ _ _ r h => by simp [impl_Dense.j0] at h, fun _ _ _ _ r h => by simp [impl_Dense.l0] at h, fun _ _ _ _ _ r h => by simp [impl_Dense.j2] at h, fun _ _ _ _ _ _ _ _ r h => by simp [impl_Dense.l1] at h, fun _ _ _ _ _ _ _ _ _ _ _ r h => by simp [impl_Dense.j4] at h, fun _ _ _ _ _ _ _ _ _ _ _ r h => by simp [impl_Dense.l2] at h⟩
  | k + 1 => by
    obtain ⟨ih0, ih1, ih2, ih3, ih4, ih5⟩ := impl_Dense.mono_l k; refine ⟨?_, ?_, ?_, ?_, ?_, ?_⟩
    · intro y0 y1 y2
      unfold impl_Dense.j0
      repeat' first | (with_reducible first | exact ih0 _ _ _ | exact ih1 _ _ _ _ | exact ih2 _ _ _ _ _ | exact ih3 _ _ _ _ _ _ _ _ | exact ih4 _ _ _ _ _ _ _ _ _ _ _ | exact ih5 _ _ _ _ _ _ _ _ _ _ _ | exact impl_All.mono _ _ _ | exact impl_BookOk.mono _ _ _ | exact impl_InOrder.mono _ _ | exact LeO.refl _ | exact LeO.none _ | refine LeO.ite ?_ ?_ | refine LeO.bind ?_ (fun _ => ?_)) | exact ih0 _ _ _ | exact ih1 _ _ _ _ | exact ih2 _ _ _ _ _ | exact ih3 _ _ _ _ _ _ _ _ | exact ih4 _ _ _ _ _ _ _ _ _ _ _ | exact ih5 _ _ _ _ _ _ _ _ _ _ _ | exact impl_All.mono _ _ _ | exact impl_BookOk.mono _ _ _ | exact impl_InOrder.mono _ _ | exact LeO.none _ | refine LeO.ite ?_ ?_ | refine LeO.bind ?_ (fun _ => ?_)
    · intro y0 y1 y2 y3
      unfold impl_Dense.l0
      repeat' first | (with_reducible first | exact ih0 _ _ _ | exact ih1 _ _ _ _ | exact ih2 _ _ _ _ _ | exact ih3 _ _ _ _ _ _ _ _ | exact ih4 _ _ _ _ _ _ _ _ _ _ _ | exact ih5 _ _ _ _ _ _ _ _ _ _ _ | exact impl_All.mono _ _ _ | exact impl_BookOk.mono _ _ _ | exact impl_InOrder.mono _ _ | exact LeO.refl _ | exact LeO.none _ | refine LeO.ite ?_ ?_ | refine LeO.bind ?_ (fun _ => ?_)) | exact ih0 _ _ _ | exact ih1 _ _ _ _ | exact ih2 _ _ _ _ _ | exact ih3 _ _ _ _ _ _ _ _ | exact ih4 _ _ _ _ _ _ _ _ _ _ _ | exact ih5 _ _ _ _ _ _ _ _ _ _ _ | exact impl_All.mono _ _ _ | exact impl_BookOk.mono _ _ _ | exact impl_InOrder.mono _ _ | exact LeO.none _ | refine LeO.ite ?_ ?_ | refine LeO.bind ?_ (fun _ => ?_)
    · intro y0 y1 y2 y3 y4
      unfold impl_Dense.j2
      repeat' first | (with_reducible first | exact ih0 _ _ _ | exact ih1 _ _ _ _ | exact ih2 _ _ _ _ _ | exact ih3 _ _ _ _ _ _ _ _ | exact ih4 _ _ _ _ _ _ _ _ _ _ _ | exact ih5 _ _ _ _ _ _ _ _ _ _ _ | exact impl_All.mono _ _ _ | exact impl_BookOk.mono _ _ _ | exact impl_InOrder.mono _ _ | exact LeO.refl _ | exact LeO.none _ | refine LeO.ite ?_ ?_ | refine LeO.bind ?_ (fun _ => ?_)) | exact ih0 _ _ _ | exact ih1 _ _ _ _ | exact ih2 _ _ _ _ _ | exact ih3 _ _ _ _ _ _ _ _ | exact ih4 _ _ _ _ _ _ _ _ _ _ _ | exact ih5 _ _ _ _ _ _ _ _ _ _ _ | exact impl_All.mono _ _ _ | exact impl_BookOk.mono _ _ _ | exact impl_InOrder.mono _ _ | exact LeO.none _ | refine LeO.ite ?_ ?_ | refine LeO.bind ?_ (fun _ => ?_)
    · intro y0 y1 y2 y3 y4 y5 y6 y7
      unfold impl_Dense.l1
      repeat' first | (with_reducible first | exact ih0 _ _ _ | exact ih1 _ _ _ _ | exact ih2 _ _ _ _ _ | exact ih3 _ _ _ _ _ _ _ _ | exact ih4 _ _ _ _ _ _ _ _ _ _ _ | exact ih5 _ _ _ _ _ _ _ _ _ _ _ | exact impl_All.mono _ _ _ | exact impl_BookOk.mono _ _ _ | exact impl_InOrder.mono _ _ | exact LeO.refl _ | exact LeO.none _ | refine LeO.ite ?_ ?_ | refine LeO.bind ?_ (fun _ => ?_)) | exact ih0 _ _ _ | exact ih1 _ _ _ _ | exact ih2 _ _ _ _ _ | exact ih3 _ _ _ _ _ _ _ _ | exact ih4 _ _ _ _ _ _ _ _ _ _ _ | exact ih5 _ _ _ _ _ _ _ _ _ _ _ | exact impl_All.mono _ _ _ | exact impl_BookOk.mono _ _ _ | exact impl_InOrder.mono _ _ | exact LeO.none _ | refine LeO.ite ?_ ?_ | refine LeO.bind ?_ (fun _ => ?_)
    · intro y0 y1 y2 y3 y4 y5 y6 y7 y8 y9 y10
      unfold impl_Dense.j4
      repeat' first | (with_reducible first | exact ih0 _ _ _ | exact ih1 _ _ _ _ | exact ih2 _ _ _ _ _ | exact ih3 _ _ _ _ _ _ _ _ | exact ih4 _ _ _ _ _ _ _ _ _ _ _ | exact ih5 _ _ _ _ _ _ _ _ _ _ _ | exact impl_All.mono _ _ _ | exact impl_BookOk.mono _ _ _ | exact impl_InOrder.mono _ _ | exact LeO.refl _ | exact LeO.none _ | refine LeO.ite ?_ ?_ | refine LeO.bind ?_ (fun _ => ?_)) | exact ih0 _ _ _ | exact ih1 _ _ _ _ | exact ih2 _ _ _ _ _ | exact ih3 _ _ _ _ _ _ _ _ | exact ih4 _ _ _ _ _ _ _ _ _ _ _ | exact ih5 _ _ _ _ _ _ _ _ _ _ _ | exact impl_All.mono _ _ _ | exact impl_BookOk.mono _ _ _ | exact impl_InOrder.mono _ _ | exact LeO.none _ | refine LeO.ite ?_ ?_ | refine LeO.bind ?_ (fun _ => ?_)
    · intro y0 y1 y2 y3 y4 y5 y6 y7 y8 y9 y10
      unfold impl_Dense.l2
      repeat' first | (with_reducible first | exact ih0 _ _ _ | exact ih1 _ _ _ _ | exact ih2 _ _ _ _ _ | exact ih3 _ _ _ _ _ _ _ _ | exact ih4 _ _ _ _ _ _ _ _ _ _ _ | exact ih5 _ _ _ _ _ _ _ _ _ _ _ | exact impl_All.mono _ _ _ | exact impl_BookOk.mono _ _ _ | exact impl_InOrder.mono _ _ | exact LeO.refl _ | exact LeO.none _ | refine LeO.ite ?_ ?_ | refine LeO.bind ?_ (fun _ => ?_)) | exact ih0 _ _ _ | exact ih1 _ _ _ _ | exact ih2 _ _ _ _ _ | exact ih3 _ _ _ _ _ _ _ _ | exact ih4 _ _ _ _ _ _ _ _ _ _ _ | exact ih5 _ _ _ _ _ _ _ _ _ _ _ | exact impl_All.mono _ _ _ | exact impl_BookOk.mono _ _ _ | exact impl_InOrder.mono _ _ | exact LeO.none _ | refine LeO.ite ?_ ?_ | refine LeO.bind ?_ (fun _ => ?_)
theorem impl_Dense.mono : ∀ a0 a1 k, LeO (impl_Dense.f k a0 a1) (impl_Dense.f (k + 1) a0 a1) := by
  intro a0 a1 k
  obtain ⟨ih0, ih1, ih2, ih3, ih4, ih5⟩ := impl_Dense.mono_l k; unfold impl_Dense.f
  repeat' first | (with_reducible first | exact ih0 _ _ _ | exact ih1 _ _ _ _ | exact ih2 _ _ _ _ _ | exact ih3 _ _ _ _ _ _ _ _ | exact ih4 _ _ _ _ _ _ _ _ _ _ _ | exact ih5 _ _ _ _ _ _ _ _ _ _ _ | exact impl_All.mono _ _ _ | exact impl_BookOk.mono _ _ _ | exact impl_InOrder.mono _ _ | exact LeO.refl _ | exact LeO.none _ | refine LeO.ite ?_ ?_ | refine LeO.bind ?_ (fun _ => ?_)) | exact ih0 _ _ _ | exact ih1 _ _ _ _ | exact ih2 _ _ _ _ _ | exact ih3 _ _ _ _ _ _ _ _ | exact ih4 _ _ _ _ _ _ _ _ _ _ _ | exact ih5 _ _ _ _ _ _ _ _ _ _ _ | exact impl_All.mono _ _ _ | exact impl_BookOk.mono _ _ _ | exact impl_InOrder.mono _ _ | exact LeO.none _ | refine LeO.ite ?_ ?_ | refine LeO.bind ?_ (fun _ => ?_)
set_option maxHeartbeats 8000000 in
set_option maxRecDepth 100000 in
theorem impl_Dense.calls (k : Nat) (a0_0 : Int) (A0_1 : Option Addr) (c0_1 : Nat) (l0_1 : List (S90)) (r : Bool) (w : World) (hr0_1 : Kd.C k90 w A0_1 l0_1.length l0_1) (hc0_1 : l0_1.length ≤ c0_1) (h : impl_Dense.f k a0_0 l0_1 = some r) :
    Calls Try.prog 56 #[.agg #[.int .i64 a0_0, .slice A0_1 l0_1.length c0_1]] w fun e w' => e = .returned (.bool r) ∧ Below w.heap.size w w' := by
  have hu49 := Try.underlying49; have hu54 := Try.underlying54; have hu103 := Try.underlying103; have HR0_1 := Aside0.mk hr0_1; have HC0_1 := Aside0.mk hc0_1; clear hr0_1 hc0_1; have HB := Aside0.mk (Below.refl w.heap.size w); have H : ((impl_BookOk.f k a0_0 l0_1).bind fun t1116 => (if t1116 = true then ((impl_All.f k a0_0 l0_1).bind fun t1117 => ((impl_InOrder.f k t1117).bind fun t1120 => (impl_Dense.j0 k (!t1120) a0_0 l0_1))) else (impl_Dense.j0 k true a0_0 l0_1))) = some r := h; clear h; have HC2 := Aside0.mk H; clear H
  go_enter Try.func56, Try.ntmps56
  go_upto_region 1 with (first | ((with_reducible refine gate_dst (N := 1) rfl ?_); (try (refine gate_guard (by rfl) ?_; dsimp only)); refine box_event ?hg (N := 1) ?hd (cs := #[.int .i64 a0_0, .slice A0_1 l0_1.length c0_1]) (t := 49) ?hr ?_; (case hd => rfl); (case hg => rfl); (case hr => first | (go_simp; done) | (go_simp; rfl)); intro gb1115 hg w3 hbox hb; have n0_ := Aside0.mk (below_step (bz HB.out) hb); have n1_ := Aside0.mk (hbox); have n2_ := Aside0.mk ((by rw [hg]; exact (below_size (bz HB.out)) : w.heap.size ≤ gb1115)); have n3_ := Aside0.mk ((by rw [hg]; exact (below_size (bz HB.out)) : w.heap.size ≤ gb1115)); clear HB; have HB := n0_; have BK1115 := n1_; have GW1115 := n2_; have GE1115 := n3_; clear n0_ n1_ n2_ n3_; clear hb hbox hg))
  (try simp only [Act.put, List.setIfInBounds_toArray, List.set_cons_zero, List.set_cons_succ])
  go_cut [19] (fun v19 wc => ∃ (kq : Nat) (x19_1 : Bool), v19 = .bool x19_1 ∧ Aside0 (impl_Dense.j0 kq x19_1 a0_0 l0_1 = some r) ∧ Aside0 (kq ≤ k) ∧ Aside0 (wc.heap[gb1115]? = some (.cells #[.int .i64 a0_0, (.slice A0_1 l0_1.length c0_1)] 49 (0, 0))) ∧ Aside0 (Below w.heap.size w wc))
  case first =>
    have H := HC2.out; clear HC2; replace H := Option.bind_eq_some_iff.mp H; obtain ⟨t1116, A40, H⟩ := H; replace H : (if t1116 = true then ((impl_All.f k a0_0 l0_1).bind fun t1117 => ((impl_InOrder.f k t1117).bind fun t1120 => (impl_Dense.j0 k (!t1120) a0_0 l0_1))) else (impl_Dense.j0 k true a0_0 l0_1)) = some r := H; have A4 := Aside0.mk A40; clear A40
    by_cases c5 : t1116 = true
    · subst c5
      replace H : ((impl_All.f k a0_0 l0_1).bind fun t1117 => ((impl_InOrder.f k t1117).bind fun t1120 => (impl_Dense.j0 k (!t1120) a0_0 l0_1))) = some r := (by rw [if_pos rfl] at H; exact H); replace H := Option.bind_eq_some_iff.mp H; obtain ⟨t1117, A60, H⟩ := H; replace H : ((impl_InOrder.f k t1117).bind fun t1120 => (impl_Dense.j0 k (!t1120) a0_0 l0_1)) = some r := H; have A6 := Aside0.mk A60; clear A60; replace H := Option.bind_eq_some_iff.mp H; obtain ⟨t1120, A70, H⟩ := H; replace H : (impl_Dense.j0 k (!t1120) a0_0 l0_1) = some r := H; have A7 := Aside0.mk A70; clear A70; have H' := Aside0.mk H; clear H; have hcz8_0 := fz BK1115.out 0 (.int .i64 a0_0); have hcz8_1 := fz BK1115.out 1 (.slice A0_1 l0_1.length c0_1); have hfz8_0 := blk_frozen BK1115.out 0; have hfz8_1 := blk_frozen BK1115.out 1
      go_wp2_with (first | ((with_reducible refine gate_callee (f := 42) rfl ?_); refine goesL_ (some 12) rfl rfl Try.func42 (by kernel_rfl) rfl #[.agg #[.int .i64 a0_0, .slice A0_1 l0_1.length c0_1]] rfl dz ?_; (with_reducible refine (impl_BookOk.calls k a0_0 _ _ l0_1 true _ ?side1 ?side2 A4.out).mono ?_); (case side1 => exact sz HR0_1.out HB.out); (case side2 => exact HC0_1.out); rintro e w9 ⟨rfl, hb⟩; refine ⟨_, rfl, ?_⟩; have n0_ := Aside0.mk (blk_below (g := gb1115) (o := .cells #[.int .i64 a0_0, .slice A0_1 l0_1.length c0_1] 49 (0, 0)) (kz BK1115.out) hb); have n1_ := Aside0.mk (below_step (b1 GE1115.out HB.out) hb); clear BK1115; clear HB; have BK1115 := n0_; have HB := n1_; clear n0_ n1_; (try clear hb); (try clear hb2); (try clear hk); (try clear hi); have hcz10_0 := fz BK1115.out 0 (.int .i64 a0_0); have hcz10_1 := fz BK1115.out 1 (.slice A0_1 l0_1.length c0_1); have hfz10_0 := blk_frozen BK1115.out 0; have hfz10_1 := blk_frozen BK1115.out 1) | (go_at_call 108; (with_reducible refine (impl_All.calls k a0_0 _ _ l0_1 t1117 _ ?side1 ?side2 A6.out).mono ?_); (case side1 => exact sz HR0_1.out HB.out); (case side2 => exact HC0_1.out); rintro e w11 ⟨v1118, rfl, ho0, hb⟩; have n0_ := Aside0.mk (Kd.R_lower ho0 (below_size (b1 GE1115.out HB.out))); have n1_ := Aside0.mk (blk_below (g := gb1115) (o := .cells #[.int .i64 a0_0, .slice A0_1 l0_1.length c0_1] 49 (0, 0)) (kz BK1115.out) hb); have n2_ := Aside0.mk (below_step (b1 GE1115.out HB.out) hb); clear BK1115; clear HB; have HO1119 := n0_; have BK1115 := n1_; have HB := n2_; clear n0_ n1_ n2_; (try clear hb); (try clear hb2); (try clear hk); (try clear hi); (try clear ho0); obtain ⟨Ao12, co12, eo12⟩ := Kd.R_slice HO1119.out; subst eo12) | (go_at_call 107; (with_reducible refine (impl_InOrder.calls k _ _ t1117 t1120 _ ?side1 ?side2 A7.out).mono ?_); (case side1 => repeat (first | exact (Kd.R_reads' HO1119.out).2.2 | (with_reducible refine Kd.C_alloc ?_ _) | (with_reducible refine Kd.C_drewN ?_ _) | (with_reducible refine Kd.C_drew ?_))); (case side2 => exact (Kd.R_reads' HO1119.out).2.1); rintro e w13 ⟨rfl, hb⟩; have n0_ := Aside0.mk (Kd.R_below (rz HO1119.out) hb); have n1_ := Aside0.mk (blk_below (g := gb1115) (o := .cells #[.int .i64 a0_0, .slice A0_1 l0_1.length c0_1] 49 (0, 0)) (kz BK1115.out) hb); have n2_ := Aside0.mk (below_step (b1 GE1115.out HB.out) hb); clear HO1119; clear BK1115; clear HB; have HO1119 := n0_; have BK1115 := n1_; have HB := n2_; clear n0_ n1_ n2_; (try clear hb); (try clear hb2); (try clear hk); (try clear hi)))
      go_meet
      case rel => exact ⟨_, (!t1120), az, H', ⟨lz⟩, ⟨kz BK1115.out⟩, ⟨b1 GE1115.out HB.out⟩⟩
    · replace c5 := Bool.eq_false_iff.mpr c5
      subst c5; replace H : (impl_Dense.j0 k true a0_0 l0_1) = some r := (by rw [if_neg (show ¬ (false = true) by decide)] at H; exact H); have H' := Aside0.mk H; clear H; have hcz14_0 := fz BK1115.out 0 (.int .i64 a0_0); have hcz14_1 := fz BK1115.out 1 (.slice A0_1 l0_1.length c0_1); have hfz14_0 := blk_frozen BK1115.out 0; have hfz14_1 := blk_frozen BK1115.out 1
      go_wp2_with (first | ((with_reducible refine gate_callee (f := 42) rfl ?_); refine goesL_ (some 12) rfl rfl Try.func42 (by kernel_rfl) rfl #[.agg #[.int .i64 a0_0, .slice A0_1 l0_1.length c0_1]] rfl dz ?_; (with_reducible refine (impl_BookOk.calls k a0_0 _ _ l0_1 false _ ?side1 ?side2 A4.out).mono ?_); (case side1 => exact sz HR0_1.out HB.out); (case side2 => exact HC0_1.out); rintro e w15 ⟨rfl, hb⟩; refine ⟨_, rfl, ?_⟩; have n0_ := Aside0.mk (blk_below (g := gb1115) (o := .cells #[.int .i64 a0_0, .slice A0_1 l0_1.length c0_1] 49 (0, 0)) (kz BK1115.out) hb); have n1_ := Aside0.mk (below_step (b1 GE1115.out HB.out) hb); clear BK1115; clear HB; have BK1115 := n0_; have HB := n1_; clear n0_ n1_; (try clear hb); (try clear hb2); (try clear hk); (try clear hi)))
      go_meet
      case rel => exact ⟨_, (true), az, H', ⟨lz⟩, ⟨kz BK1115.out⟩, ⟨b1 GE1115.out HB.out⟩⟩
  case rest =>
    clear HC2; (try clear p2); (try clear c4); (try clear c5); (try clear hcz10_0); (try clear hcz10_1); (try clear hcz14_0); (try clear hcz14_1); (try clear hcz8_0); (try clear hcz8_1); (try clear hfz10_0); (try clear hfz10_1); (try clear hfz14_0); (try clear hfz14_1); (try clear hfz8_0); (try clear hfz8_1); obtain ⟨kq, x19_1, rfl, HA, HJ1, BK1115, HB⟩ := hcut
    cases kq with
    | zero => exact absurd HA.out (by simp [impl_Dense.j0])
    | succ kj1 =>
      have H := HA.out; clear HA
      simp only [impl_Dense.j0] at H
      by_cases c16 : x19_1 = true
      · subst c16
        replace H : (some false) = some r := (by rw [if_pos rfl] at H; exact H); obtain rfl := Option.some.inj H; go_wp2; go_ret; exact ⟨ez, b1 GE1115.out HB.out⟩
      · replace c16 := Bool.eq_false_iff.mpr c16
        subst c16; replace H : (impl_Dense.l0 kj1 (([a0_0] : List Int)) 1 a0_0 l0_1) = some r := (by rw [if_neg (show ¬ (false = true) by decide)] at H; exact H); obtain ⟨y1121, hy1121⟩ : ∃ y_ : List Int, y_ = (([a0_0] : List Int)) := ⟨_, rfl⟩
        replace H : (impl_Dense.l0 kj1 y1121 1 a0_0 l0_1) = some r := by first | (rw [hy1121]; with_reducible exact H) | (have H2_ := (Option.bind_some _ _).symm.trans H; rw [hy1121]; with_reducible exact H2_) | (have H2_ := (Option.bind_some _ _).symm.trans H; with_reducible exact H2_) | with_reducible exact H | (rw [hy1121]; exact H) | exact H
        have Ny1121 := Aside0.mk hy1121; clear hy1121; have H' := Aside0.mk H; clear H; have hcz17_0 := fz BK1115.out 0 (.int .i64 a0_0); have hcz17_1 := fz BK1115.out 1 (.slice A0_1 l0_1.length c0_1); have hfz17_0 := blk_frozen BK1115.out 0; have hfz17_1 := blk_frozen BK1115.out 1
        go_wp2_with (first | ((with_reducible refine gate_dst (N := 22) rfl ?_); (try (refine gate_guard (by rfl) ?_; dsimp only)); refine Kd.R_lit (Kd.int .i64) _ 3 ?hg (N := 22) ?hd (xs := ([a0_0] : List Int)) (inner := [.int .i64 a0_0]) (ok := fun _ => True) (okp := fun _ => True) ?hr ?hp (fun _ hk => hk) trivial (Below.refl _ _) (Nat.le_refl _) (by simp) ?_; (case hd => rfl); (case hg => rfl); (case hr => first | (go_simp; done) | (go_simp; rfl)); (case hp => exact (Reps.one (show Kd.M (Kd.int .i64) _ _ _ a0_0 [.int .i64 a0_0] from rfl) (Reps.none _ _))); intro v1122 w18 ho19 hb hg_ hnew_; clear hg_ hnew_; (first | rw [← Ny1121.out] at ho19 | (simp only [Int.reduceToNat] at ho19; rw [← Ny1121.out] at ho19)); have n0_ := Aside0.mk (Kd.R_lower ho19 (below_size (b1 GE1115.out HB.out))); have n1_ := Aside0.mk (blk_below (g := gb1115) (o := .cells #[.int .i64 a0_0, .slice A0_1 l0_1.length c0_1] 49 (0, 0)) (kz BK1115.out) hb); have n2_ := Aside0.mk (below_step (b1 GE1115.out HB.out) hb); clear BK1115; clear HB; have HO1123 := n0_; have BK1115 := n1_; have HB := n2_; clear n0_ n1_ n2_; clear hb ho19))
        go_loopg [3, 4] kj1 (fun kq v3 v4 w' => ∃ (x3_2 : List Int) (x4_2 : Int), v4 = .int .i64 x4_2 ∧ Aside0 (impl_Dense.l0 kq x3_2 x4_2 a0_0 l0_1 = some r) ∧ Aside0 (kq ≤ kj1) ∧ Aside0 (Kd.R (Kd.int .i64) 3 w' w.heap.size (fun _ => True) v3 x3_2) ∧ Aside0 (w'.heap[gb1115]? = some (.cells #[.int .i64 a0_0, (.slice A0_1 l0_1.length c0_1)] 49 (0, 0))) ∧ Aside0 (Below w.heap.size w w'))
        case atStart => exact ⟨(y1121), (1), az, H', ⟨Nat.le_refl _⟩, ⟨rz HO1123.out⟩, ⟨kz BK1115.out⟩, ⟨b1 GE1115.out HB.out⟩⟩
        case round =>
          clear H'; (try clear c1); (try clear p2); (try clear c4); (try clear c5); (try clear c16); (try clear hcz10_0); (try clear hcz10_1); (try clear hcz14_0); (try clear hcz14_1); (try clear hcz17_0); (try clear hcz17_1); (try clear hcz8_0); (try clear hcz8_1); (try clear hfz10_0); (try clear hfz10_1); (try clear hfz14_0); (try clear hfz14_1); (try clear hfz17_0); (try clear hfz17_1); (try clear hfz8_0); (try clear hfz8_1); (try clear p2); obtain ⟨x3_2, x4_2, rfl, HA, HK2, HO_3, BK1115, HB⟩ := hrel
          cases gk with
          | zero => exact absurd HA.out (by simp [impl_Dense.l0])
          | succ k2 =>
            have H := HA.out; clear HA
            simp only [impl_Dense.l0] at H
            have HC20 := Aside0.mk H; clear H
            go_upto_region 5 with (fail)
            go_cut [29] (fun v29 wc => ∃ (kq : Nat) (x29_19 : Bool), v29 = .bool x29_19 ∧ Aside0 (impl_Dense.j2 kq x3_2 x4_2 x29_19 a0_0 l0_1 = some r) ∧ Aside0 (kq ≤ k2) ∧ Aside0 (Kd.R (Kd.int .i64) 3 wc w.heap.size (fun _ => True) u3 x3_2) ∧ Aside0 (wc.heap[gb1115]? = some (.cells #[.int .i64 a0_0, (.slice A0_1 l0_1.length c0_1)] 49 (0, 0))) ∧ Aside0 (Below w.heap.size w wc))
            case first =>
              have H := HC20.out; clear HC20
              by_cases c21 : x4_2 ≤ 12
              · rw [if_pos c21] at H
                have c21b0 : decide (x4_2 ≤ 12) = true := decide_eq_true c21; clear c21
                (first | rw [c21b0] | (simp only [i64_w, i32_w]; rw [c21b0]) | skip)
                have H' := Aside0.mk H; clear H; obtain ⟨Ao22, co22, eo22⟩ := Kd.R_slice HO_3.out; subst eo22; go_wp2; go_meet
                case rel => exact ⟨_, (decide ((x3_2.length : Int) > 0)), az, H', ⟨by have := HJ1.out; have := HK2.out; first | omega | exact Nat.le_refl _⟩, ⟨rz HO_3.out⟩, ⟨kz BK1115.out⟩, ⟨b1 GE1115.out HB.out⟩⟩
              · rw [if_neg c21] at H
                have c21b0 : decide (x4_2 ≤ 12) = false := decide_eq_false c21; clear c21
                (first | rw [c21b0] | (simp only [i64_w, i32_w]; rw [c21b0]) | skip)
                have H' := Aside0.mk H; clear H; go_wp2; go_meet
                case rel => exact ⟨_, (false), az, H', ⟨by have := HJ1.out; have := HK2.out; first | omega | exact Nat.le_refl _⟩, ⟨rz HO_3.out⟩, ⟨kz BK1115.out⟩, ⟨b1 GE1115.out HB.out⟩⟩
            case rest =>
              clear HC20; (try clear c1); (try clear c2); (try clear p2); (try clear c4); (try clear c5); (try clear c16); (try clear c21); (try clear c21b0); (try clear hcz10_0); (try clear hcz10_1); (try clear hcz14_0); (try clear hcz14_1); (try clear hcz17_0); (try clear hcz17_1); (try clear hcz8_0); (try clear hcz8_1); (try clear hfz10_0); (try clear hfz10_1); (try clear hfz14_0); (try clear hfz14_1); (try clear hfz17_0); (try clear hfz17_1); (try clear hfz8_0); (try clear hfz8_1); (try clear p2); obtain ⟨kq, x29_19, rfl, HA, HJ19, HO_3, BK1115, HB⟩ := hcut
              cases kq with
              | zero => exact absurd HA.out (by simp [impl_Dense.j2])
              | succ kj19 =>
                have H := HA.out; clear HA
                simp only [impl_Dense.j2] at H
                by_cases c23 : x29_19 = true
                · subst c23
                  replace H : (impl_Dense.l1 kj19 x3_2 x4_2 ([] : List Int) x3_2 (x3_2.length : Int) 0 a0_0 l0_1) = some r := (by rw [if_pos rfl] at H; exact H); have H' := Aside0.mk H; clear H; obtain ⟨Ao24, co24, eo24⟩ := Kd.R_slice HO_3.out; subst eo24; go_wp2
                  go_loopg [5, 34] kj19 (fun kq v5 v34 w' => ∃ (x5_4 : List Int) (x34_4 : Int), v34 = .int .i64 x34_4 ∧ Aside0 (impl_Dense.l1 kq x3_2 x4_2 x5_4 x3_2 (x3_2.length : Int) x34_4 a0_0 l0_1 = some r) ∧ Aside0 (kq ≤ kj19) ∧ Aside0 (Kd.R (Kd.int .i64) 3 w' w.heap.size (fun k_ => some k_ ≠ (v5 : Value).ownBlock) (.slice Ao24 x3_2.length co24) x3_2) ∧ Aside0 (Kd.R (Kd.int .i64) 3 w' w.heap.size (fun k_ => some k_ ≠ ((.slice Ao24 x3_2.length co24) : Value).ownBlock ∧ some k_ ≠ ((.slice Ao24 x3_2.length co24) : Value).ownBlock) v5 x5_4) ∧ Aside0 (Kd.R (Kd.int .i64) 3 w' w.heap.size (fun k_ => some k_ ≠ (v5 : Value).ownBlock) (.slice Ao24 x3_2.length co24) x3_2) ∧ Aside0 (w'.heap[gb1115]? = some (.cells #[.int .i64 a0_0, (.slice A0_1 l0_1.length c0_1)] 49 (0, 0))) ∧ Aside0 (Below w.heap.size w w'))
                  case atStart => exact ⟨(([] : List Int)), (0), az, H', ⟨Nat.le_refl _⟩, ⟨by (with_reducible repeat (first | apply Kd.R_alloc | apply Kd.R_drewN | apply Kd.R_drew)); exact Kd.R_mono HO_3.out (fun _ hk => (by simp [Value.ownBlock]))⟩, ⟨by first | exact Kd.R_nil _ _ _ _ _ | exact Kd.N_nil _ _ _ _ _ | exact Kd.V_nil _ _ _ _ _ | exact Kd.Q_nil _ _ _ _ _ | exact Kd.S_nil _ _ _ _ _⟩, ⟨by (with_reducible repeat (first | apply Kd.R_alloc | apply Kd.R_drewN | apply Kd.R_drew)); exact Kd.R_mono HO_3.out (fun _ hk => (by simp [Value.ownBlock]))⟩, ⟨kz BK1115.out⟩, ⟨b1 GE1115.out HB.out⟩⟩
                  case round =>
                    clear H'; (try clear c1); (try clear c2); (try clear p2); (try clear c4); (try clear c5); (try clear c16); (try clear c21); (try clear c21b0); (try clear c23); (try clear hcz10_0); (try clear hcz10_1); (try clear hcz14_0); (try clear hcz14_1); (try clear hcz17_0); (try clear hcz17_1); (try clear hcz8_0); (try clear hcz8_1); (try clear hfz10_0); (try clear hfz10_1); (try clear hfz14_0); (try clear hfz14_1); (try clear hfz17_0); (try clear hfz17_1); (try clear hfz8_0); (try clear hfz8_1); (try clear p2); obtain ⟨x5_4, x34_4, rfl, HA, HK4, HO_3, HO_5, HO_32, BK1115, HB⟩ := hrel
                    cases gk with
                    | zero => exact absurd HA.out (by simp [impl_Dense.l1])
                    | succ k4 =>
                      have H := HA.out; clear HA
                      simp only [impl_Dense.l1] at H
                      by_cases c25 : x34_4 < (x3_2.length : Int)
                      · rw [if_pos c25] at H
                        have c25b0 : decide (x34_4 < (x3_2.length : Int)) = true := decide_eq_true c25; clear c25
                        by_cases c26 : 0 ≤ x34_4
                        · rw [if_pos c26] at H
                          have c26b0 : decide (0 ≤ x34_4) = true := decide_eq_true c26; clear c26
                          by_cases c27 : x34_4 < (x3_2.length : Int)
                          · rw [if_pos c27] at H
                            have c27b0 : decide (x34_4 < (x3_2.length : Int)) = true := decide_eq_true c27; clear c27
                            by_cases c28 : 0 ≤ (rd x3_2 x34_4)
                            · rw [if_pos c28] at H
                              have c28b0 : decide (0 ≤ (rd x3_2 x34_4)) = true := decide_eq_true c28; clear c28
                              by_cases c29 : (rd x3_2 x34_4) < (l0_1.length : Int)
                              · rw [if_pos c29] at H
                                have c29b0 : decide ((rd x3_2 x34_4) < (l0_1.length : Int)) = true := decide_eq_true c29; clear c29; have HC30 := Aside0.mk H; clear H; have p1124 : 0 ≤ (x34_4 : Int) := of_decide_eq_true uz; have q1124 : x34_4 < (x3_2.length : Int) := of_decide_eq_true uz; obtain ⟨ad1124, e1124, hx1124_0⟩ := Kd.at_int (Kd.R_reads' HO_32.out).2.2 x34_4 p1124 q1124
                                cases e1124
                                replace p1124 := eq_true p1124; replace q1124 := eq_true q1124; have hcz31_0 := fz BK1115.out 0 (.int .i64 a0_0); have hcz31_1 := fz BK1115.out 1 (.slice A0_1 l0_1.length c0_1); have hfz31_0 := blk_frozen BK1115.out 0; have hfz31_1 := blk_frozen BK1115.out 1; have p1125 : 0 ≤ ((rd x3_2 x34_4) : Int) := of_decide_eq_true uz; have q1125 : (rd x3_2 x34_4) < (l0_1.length : Int) := of_decide_eq_true uz; obtain ⟨ad1125, A1125_2, c1125_2, e1125, hx1125_0, hx1125_1, hx1125_2, hl1125_2, hi1125_2⟩ := at_T90 HR0_1.out (rd x3_2 x34_4) p1125 q1125
                                cases e1125
                                replace hx1125_0 := cz HB.out hx1125_0; replace hx1125_1 := cz HB.out hx1125_1; replace hx1125_2 := cz HB.out hx1125_2; have HR1125_2 := Aside0.mk hi1125_2; have HC1125_2 := Aside0.mk hl1125_2; clear hi1125_2 hl1125_2; replace p1125 := eq_true p1125; replace q1125 := eq_true q1125
                                go_upto_region 12 with (first | ((with_reducible refine gate_dst (N := 8) rfl ?_); (try (refine gate_guard (by rfl) ?_; dsimp only)); refine box_event ?hg (N := 8) ?hd (cs := #[.bool false, .slice none 0 0]) (t := 54) ?hr ?_; (case hd => rfl); (case hg => rfl); (case hr => first | (go_simp; done) | (go_simp; rfl)); intro gb1126 hg w32 hbox hb; have n0_ := Aside0.mk (Kd.R_below (rz HO_3.out) hb); have n1_ := Aside0.mk (Kd.R_below (rz HO_5.out) hb); have n2_ := Aside0.mk (Kd.R_below (rz HO_32.out) hb); have n3_ := Aside0.mk (blk_below (g := gb1115) (o := .cells #[.int .i64 a0_0, .slice (some ad1125) l0_1.length c0_1] 49 (0, 0)) (kz BK1115.out) hb); have n4_ := Aside0.mk (below_step (b1 GE1115.out HB.out) hb); have n5_ := Aside0.mk (hbox); have n6_ := Aside0.mk ((by rw [hg]; exact (below_size (b1 GE1115.out HB.out)) : w.heap.size ≤ gb1126)); have n7_ := Aside0.mk ((by rw [hg]; exact (below_size (b1 GE1115.out HB.out)) : w.heap.size ≤ gb1126)); have n8_ := Aside0.mk ((by rw [hg]; exact Nat.ne_of_lt (blk_lt (g := gb1115) (o := .cells #[.int .i64 a0_0, .slice (some ad1125) l0_1.length c0_1] 49 (0, 0)) (kz BK1115.out)) : gb1115 ≠ gb1126)); have n9_ := Aside0.mk ((by rw [hg]; exact Nat.ne_of_gt (blk_lt (g := gb1115) (o := .cells #[.int .i64 a0_0, .slice (some ad1125) l0_1.length c0_1] 49 (0, 0)) (kz BK1115.out)) : gb1126 ≠ gb1115)); clear HO_3; clear HO_5; clear HO_32; clear BK1115; clear HB; have HO_3 := n0_; have HO_5 := n1_; have HO_32 := n2_; have BK1115 := n3_; have HB := n4_; have BK1126 := n5_; have GW1126 := n6_; have GE1126 := n7_; have NB1115_1126 := n8_; have NB1126_1115 := n9_; clear n0_ n1_ n2_ n3_ n4_ n5_ n6_ n7_ n8_ n9_; clear hb hbox hg; have hnb33 := NB1126_1115.out; have hnc33 := NB1115_1126.out; have hcz34_0 := fz BK1126.out 0 (.bool false); have hcz34_1 := fz BK1126.out 1 (.slice none 0 0); have hfz34_0 := blk_frozen BK1126.out 0; have hfz34_1 := blk_frozen BK1126.out 1))
                                (try simp only [Act.put, List.setIfInBounds_toArray, List.set_cons_zero, List.set_cons_succ])
                                go_cut [55] (fun v55 wc => ∃ (kq : Nat) (x55_29 : Bool), v55 = .bool x55_29 ∧ Aside0 (impl_Dense.j4 kq x3_2 x4_2 x5_4 x3_2 (x3_2.length : Int) x34_4 x55_29 a0_0 l0_1 ((rd_T90 l0_1 (rd x3_2 x34_4)).f1.f0) ((rd_T90 l0_1 (rd x3_2 x34_4)).f1.f1) = some r) ∧ Aside0 (kq ≤ k4) ∧ Aside0 (Kd.R (Kd.int .i64) 3 wc w.heap.size (fun k_ => some k_ ≠ (u5 : Value).ownBlock) (.slice (some ad1124) x3_2.length co24) x3_2) ∧ Aside0 (Kd.R (Kd.int .i64) 3 wc w.heap.size (fun k_ => some k_ ≠ ((.slice (some ad1124) x3_2.length co24) : Value).ownBlock ∧ some k_ ≠ ((.slice (some ad1124) x3_2.length co24) : Value).ownBlock) u5 x5_4) ∧ Aside0 (Kd.R (Kd.int .i64) 3 wc w.heap.size (fun k_ => some k_ ≠ (u5 : Value).ownBlock) (.slice (some ad1124) x3_2.length co24) x3_2) ∧ Aside0 (wc.heap[gb1115]? = some (.cells #[.int .i64 a0_0, (.slice (some ad1125) l0_1.length c0_1)] 49 (0, 0))) ∧ Aside0 (wc.heap[gb1126]? = some (.cells #[.bool ((rd_T90 l0_1 (rd x3_2 x34_4)).f1.f0), (.slice A1125_2 ((rd_T90 l0_1 (rd x3_2 x34_4)).f1.f1).length c1125_2)] 54 (0, 0))) ∧ Aside0 (Below w.heap.size w wc))
                                case first =>
                                  have H := HC30.out; clear HC30
                                  by_cases c35 : x34_4 < (wrap64 ((x3_2.length : Int) - 1))
                                  · rw [if_pos c35] at H
                                    have c35b0 : decide (x34_4 < (wrap64 ((x3_2.length : Int) - 1))) = true := decide_eq_true c35; clear c35
                                    (first | rw [c35b0] | (simp only [i64_w, i32_w]; rw [c35b0]) | skip)
                                    have H' := Aside0.mk H; clear H; have hnb36 := NB1126_1115.out; have hnc36 := NB1115_1126.out; have hcz37_0 := fz BK1126.out 0 (.bool false); have hcz37_1 := fz BK1126.out 1 (.slice none 0 0); have hfz37_0 := blk_frozen BK1126.out 0; have hfz37_1 := blk_frozen BK1126.out 1; go_wp2; go_meet
                                    case rel => exact ⟨_, (((((rd_T90 l0_1 (rd x3_2 x34_4)).f1.f1).length : Int) != 4)), az, H', ⟨by have := HJ1.out; have := HK2.out; have := HJ19.out; have := HK4.out; first | omega | exact Nat.le_refl _⟩, ⟨by (with_reducible repeat (first | apply Kd.R_alloc | apply Kd.R_drewN | apply Kd.R_drew)); exact Kd.R_mono (Kd.R_far (p := ⟨gb1126, 1, none⟩) (Kd.R_far (p := ⟨gb1126, 0, none⟩) (Kd.R_types HO_3.out BK1126.out (by decide)) (fun _ hk => hk.2) (.bool ((rd_T90 l0_1 (rd x3_2 x34_4)).f1.f0))) (fun _ hk => hk.2) (.slice A1125_2 ((rd_T90 l0_1 (rd x3_2 x34_4)).f1.f1).length c1125_2)) (fun _ hk => hk.1)⟩, ⟨by (with_reducible repeat (first | apply Kd.R_alloc | apply Kd.R_drewN | apply Kd.R_drew)); exact Kd.R_mono (Kd.R_far (p := ⟨gb1126, 1, none⟩) (Kd.R_far (p := ⟨gb1126, 0, none⟩) (Kd.R_types HO_5.out BK1126.out (by decide)) (fun _ hk => hk.2) (.bool ((rd_T90 l0_1 (rd x3_2 x34_4)).f1.f0))) (fun _ hk => hk.2) (.slice A1125_2 ((rd_T90 l0_1 (rd x3_2 x34_4)).f1.f1).length c1125_2)) (fun _ hk => ⟨hk.1.1, hk.1.2⟩)⟩, ⟨by (with_reducible repeat (first | apply Kd.R_alloc | apply Kd.R_drewN | apply Kd.R_drew)); exact Kd.R_mono (Kd.R_far (p := ⟨gb1126, 1, none⟩) (Kd.R_far (p := ⟨gb1126, 0, none⟩) (Kd.R_types HO_32.out BK1126.out (by decide)) (fun _ hk => hk.2) (.bool ((rd_T90 l0_1 (rd x3_2 x34_4)).f1.f0))) (fun _ hk => hk.2) (.slice A1125_2 ((rd_T90 l0_1 (rd x3_2 x34_4)).f1.f1).length c1125_2)) (fun _ hk => hk.1)⟩, ⟨by (with_reducible repeat (first | refine blk_drewN ?_ _ | refine blk_drew ?_ | refine blk_alloc ?_ _)); refine blk_far ?_ NB1115_1126.out _; (with_reducible repeat (first | refine blk_drewN ?_ _ | refine blk_drew ?_ | refine blk_alloc ?_ _)); refine blk_far ?_ NB1115_1126.out _; (with_reducible repeat (first | refine blk_drewN ?_ _ | refine blk_drew ?_ | refine blk_alloc ?_ _)); exact BK1115.out⟩, ⟨by (with_reducible repeat (first | refine blk_drewN ?_ _ | refine blk_drew ?_ | refine blk_alloc ?_ _)); refine blk_put (cs := #[.bool ((rd_T90 l0_1 (rd x3_2 x34_4)).f1.f0), .slice none 0 0]) ?_ 1 _ rfl; (with_reducible repeat (first | refine blk_drewN ?_ _ | refine blk_drew ?_ | refine blk_alloc ?_ _)); refine blk_put (cs := #[.bool false, .slice none 0 0]) ?_ 0 _ rfl; (with_reducible repeat (first | refine blk_drewN ?_ _ | refine blk_drew ?_ | refine blk_alloc ?_ _)); exact BK1126.out⟩, ⟨b2 GE1115.out GE1126.out HB.out⟩⟩
                                  · rw [if_neg c35] at H
                                    have c35b0 : decide (x34_4 < (wrap64 ((x3_2.length : Int) - 1))) = false := decide_eq_false c35; clear c35
                                    (first | rw [c35b0] | (simp only [i64_w, i32_w]; rw [c35b0]) | skip)
                                    have H' := Aside0.mk H; clear H; go_wp2; go_meet
                                    case rel => exact ⟨_, (false), az, H', ⟨by have := HJ1.out; have := HK2.out; have := HJ19.out; have := HK4.out; first | omega | exact Nat.le_refl _⟩, ⟨by (with_reducible repeat (first | apply Kd.R_alloc | apply Kd.R_drewN | apply Kd.R_drew)); exact Kd.R_mono (Kd.R_far (p := ⟨gb1126, 1, none⟩) (Kd.R_far (p := ⟨gb1126, 0, none⟩) (Kd.R_types HO_3.out BK1126.out (by decide)) (fun _ hk => hk.2) (.bool ((rd_T90 l0_1 (rd x3_2 x34_4)).f1.f0))) (fun _ hk => hk.2) (.slice A1125_2 ((rd_T90 l0_1 (rd x3_2 x34_4)).f1.f1).length c1125_2)) (fun _ hk => hk.1)⟩, ⟨by (with_reducible repeat (first | apply Kd.R_alloc | apply Kd.R_drewN | apply Kd.R_drew)); exact Kd.R_mono (Kd.R_far (p := ⟨gb1126, 1, none⟩) (Kd.R_far (p := ⟨gb1126, 0, none⟩) (Kd.R_types HO_5.out BK1126.out (by decide)) (fun _ hk => hk.2) (.bool ((rd_T90 l0_1 (rd x3_2 x34_4)).f1.f0))) (fun _ hk => hk.2) (.slice A1125_2 ((rd_T90 l0_1 (rd x3_2 x34_4)).f1.f1).length c1125_2)) (fun _ hk => ⟨hk.1.1, hk.1.2⟩)⟩, ⟨by (with_reducible repeat (first | apply Kd.R_alloc | apply Kd.R_drewN | apply Kd.R_drew)); exact Kd.R_mono (Kd.R_far (p := ⟨gb1126, 1, none⟩) (Kd.R_far (p := ⟨gb1126, 0, none⟩) (Kd.R_types HO_32.out BK1126.out (by decide)) (fun _ hk => hk.2) (.bool ((rd_T90 l0_1 (rd x3_2 x34_4)).f1.f0))) (fun _ hk => hk.2) (.slice A1125_2 ((rd_T90 l0_1 (rd x3_2 x34_4)).f1.f1).length c1125_2)) (fun _ hk => hk.1)⟩, ⟨by (with_reducible repeat (first | refine blk_drewN ?_ _ | refine blk_drew ?_ | refine blk_alloc ?_ _)); refine blk_far ?_ NB1115_1126.out _; (with_reducible repeat (first | refine blk_drewN ?_ _ | refine blk_drew ?_ | refine blk_alloc ?_ _)); refine blk_far ?_ NB1115_1126.out _; (with_reducible repeat (first | refine blk_drewN ?_ _ | refine blk_drew ?_ | refine blk_alloc ?_ _)); exact BK1115.out⟩, ⟨by (with_reducible repeat (first | refine blk_drewN ?_ _ | refine blk_drew ?_ | refine blk_alloc ?_ _)); refine blk_put (cs := #[.bool ((rd_T90 l0_1 (rd x3_2 x34_4)).f1.f0), .slice none 0 0]) ?_ 1 _ rfl; (with_reducible repeat (first | refine blk_drewN ?_ _ | refine blk_drew ?_ | refine blk_alloc ?_ _)); refine blk_put (cs := #[.bool false, .slice none 0 0]) ?_ 0 _ rfl; (with_reducible repeat (first | refine blk_drewN ?_ _ | refine blk_drew ?_ | refine blk_alloc ?_ _)); exact BK1126.out⟩, ⟨b2 GE1115.out GE1126.out HB.out⟩⟩
                                case rest =>
                                  clear HC30; (try clear c1); (try clear p1); (try clear q1); (try clear hx1); (try clear c2); (try clear p2); (try clear c3); (try clear c4); (try clear c5); (try clear p6); (try clear c11); (try clear p11); (try clear q11); (try clear hx11); (try clear c16); (try clear c21); (try clear c21b0); (try clear c23); (try clear c25); (try clear c25b0); (try clear c26); (try clear c26b0); (try clear c27); (try clear c27b0); (try clear c28); (try clear c28b0); (try clear c29); (try clear c29b0); (try clear c33); (try clear c35); (try clear c35b0); (try clear c36); (try clear hcz10_0); (try clear hcz10_1); (try clear hcz14_0); (try clear hcz14_1); (try clear hcz17_0); (try clear hcz17_1); (try clear hcz31_0); (try clear hcz31_1); (try clear hcz34_0); (try clear hcz34_1); (try clear hcz37_0); (try clear hcz37_1); (try clear hcz8_0); (try clear hcz8_1); (try clear hfz10_0); (try clear hfz10_1); (try clear hfz14_0); (try clear hfz14_1); (try clear hfz17_0); (try clear hfz17_1); (try clear hfz31_0); (try clear hfz31_1); (try clear hfz34_0); (try clear hfz34_1); (try clear hfz37_0); (try clear hfz37_1); (try clear hfz8_0); (try clear hfz8_1); (try clear hx1124_0); (try clear hx1125_0); (try clear hx1125_1); (try clear hx1125_2); (try clear p1124); (try clear p1125); (try clear p2); (try clear q1124); (try clear q1125); obtain ⟨kq, x55_29, rfl, HA, HJ29, HO_3, HO_5, HO_32, BK1115, BK1126, HB⟩ := hcut
                                  cases kq with
                                  | zero => exact absurd HA.out (by simp [impl_Dense.j4])
                                  | succ kj29 =>
                                    have H := HA.out; clear HA
                                    simp only [impl_Dense.j4] at H
                                    by_cases c38 : x55_29 = true
                                    · subst c38
                                      replace H : (some false) = some r := (by rw [if_pos rfl] at H; exact H); obtain rfl := Option.some.inj H; go_wp2; go_ret; exact ⟨ez, b2 GE1115.out GE1126.out HB.out⟩
                                    · replace c38 := Bool.eq_false_iff.mpr c38
                                      subst c38; replace H : (if ((rd_T90 l0_1 (rd x3_2 x34_4)).f1.f0) = true then (impl_Dense.l1 kj29 x3_2 x4_2 x5_4 x3_2 (x3_2.length : Int) (wrap64 (x34_4 + 1)) a0_0 l0_1) else (impl_Dense.l2 kj29 x3_2 x4_2 x5_4 x3_2 (x3_2.length : Int) x34_4 ((rd_T90 l0_1 (rd x3_2 x34_4)).f1.f1) (((rd_T90 l0_1 (rd x3_2 x34_4)).f1.f1).length : Int) 0 a0_0 l0_1)) = some r := (by rw [if_neg (show ¬ (false = true) by decide)] at H; exact H)
                                      by_cases c39 : ((rd_T90 l0_1 (rd x3_2 x34_4)).f1.f0) = true
                                      · rw [if_pos c39] at H
                                        have c39b0 : ((rd_T90 l0_1 (rd x3_2 x34_4)).f1.f0) = true := c39; clear c39; have H' := Aside0.mk H; clear H; have hnb40 := NB1126_1115.out; have hnc40 := NB1115_1126.out; have hcz41_0 : wc.cell? ⟨gb1126, 0, none⟩ = some (.bool ((rd_T90 l0_1 (rd x3_2 x34_4)).f1.f0)) := (blk_cell BK1126.out 0).trans rfl; have hcz41_1 : wc.cell? ⟨gb1126, 1, none⟩ = some (.slice A1125_2 ((rd_T90 l0_1 (rd x3_2 x34_4)).f1.f1).length c1125_2) := (blk_cell BK1126.out 1).trans rfl; have hfz41_0 := blk_frozen BK1126.out 0; have hfz41_1 := blk_frozen BK1126.out 1; go_wp2; go_roundg kj29
                                        case measure => have := HJ1.out; have := HK2.out; have := HJ19.out; have := HK4.out; have := HJ29.out; omega
                                        case rel => exact ⟨(x5_4), (wrap64 (x34_4 + 1)), az, H', ⟨by have := HJ1.out; have := HK2.out; have := HJ19.out; have := HK4.out; have := HJ29.out; omega⟩, ⟨rz HO_3.out⟩, ⟨rz HO_5.out⟩, ⟨rz HO_32.out⟩, ⟨kz BK1115.out⟩, ⟨b2 GE1115.out GE1126.out HB.out⟩⟩
                                      · rw [if_neg c39] at H
                                        have c39b0 : ((rd_T90 l0_1 (rd x3_2 x34_4)).f1.f0) = false := by simpa using c39
                                        clear c39; have H' := Aside0.mk H; clear H; have hnb42 := NB1126_1115.out; have hnc42 := NB1115_1126.out; have hcz43_0 : wc.cell? ⟨gb1126, 0, none⟩ = some (.bool ((rd_T90 l0_1 (rd x3_2 x34_4)).f1.f0)) := (blk_cell BK1126.out 0).trans rfl; have hcz43_1 : wc.cell? ⟨gb1126, 1, none⟩ = some (.slice A1125_2 ((rd_T90 l0_1 (rd x3_2 x34_4)).f1.f1).length c1125_2) := (blk_cell BK1126.out 1).trans rfl; have hfz43_0 := blk_frozen BK1126.out 0; have hfz43_1 := blk_frozen BK1126.out 1; go_wp2
                                        go_loopg [5, 62] kj29 (fun kq v5 v62 w' => ∃ (x5_6 : List Int) (x62_6 : Int), v62 = .int .i64 x62_6 ∧ Aside0 (impl_Dense.l2 kq x3_2 x4_2 x5_6 x3_2 (x3_2.length : Int) x34_4 ((rd_T90 l0_1 (rd x3_2 x34_4)).f1.f1) (((rd_T90 l0_1 (rd x3_2 x34_4)).f1.f1).length : Int) x62_6 a0_0 l0_1 = some r) ∧ Aside0 (kq ≤ kj29) ∧ Aside0 (Kd.R (Kd.int .i64) 3 w' w.heap.size (fun k_ => some k_ ≠ (v5 : Value).ownBlock) (.slice (some ad1124) x3_2.length co24) x3_2) ∧ Aside0 (Kd.R (Kd.int .i64) 3 w' w.heap.size (fun k_ => some k_ ≠ ((.slice (some ad1124) x3_2.length co24) : Value).ownBlock ∧ some k_ ≠ ((.slice (some ad1124) x3_2.length co24) : Value).ownBlock) v5 x5_6) ∧ Aside0 (Kd.R (Kd.int .i64) 3 w' w.heap.size (fun k_ => some k_ ≠ (v5 : Value).ownBlock) (.slice (some ad1124) x3_2.length co24) x3_2) ∧ Aside0 (w'.heap[gb1115]? = some (.cells #[.int .i64 a0_0, (.slice (some ad1125) l0_1.length c0_1)] 49 (0, 0))) ∧ Aside0 (w'.heap[gb1126]? = some (.cells #[.bool ((rd_T90 l0_1 (rd x3_2 x34_4)).f1.f0), (.slice A1125_2 ((rd_T90 l0_1 (rd x3_2 x34_4)).f1.f1).length c1125_2)] 54 (0, 0))) ∧ Aside0 (Below w.heap.size w w'))
                                        case atStart => exact ⟨(x5_4), (0), az, H', ⟨Nat.le_refl _⟩, ⟨rz HO_3.out⟩, ⟨rz HO_5.out⟩, ⟨rz HO_32.out⟩, ⟨kz BK1115.out⟩, ⟨kz BK1126.out⟩, ⟨b2 GE1115.out GE1126.out HB.out⟩⟩
                                        case round =>
                                          clear H'; (try clear c1); (try clear p1); (try clear q1); (try clear hx1); (try clear c2); (try clear p2); (try clear c3); (try clear c4); (try clear c5); (try clear p6); (try clear c11); (try clear p11); (try clear q11); (try clear hx11); (try clear c16); (try clear c21); (try clear c21b0); (try clear c23); (try clear c25); (try clear c25b0); (try clear c26); (try clear c26b0); (try clear c27); (try clear c27b0); (try clear c28); (try clear c28b0); (try clear c29); (try clear c29b0); (try clear c33); (try clear c35); (try clear c35b0); (try clear c36); (try clear c38); (try clear c39); (try clear c39b0); (try clear c40); (try clear c42); (try clear hcz10_0); (try clear hcz10_1); (try clear hcz14_0); (try clear hcz14_1); (try clear hcz17_0); (try clear hcz17_1); (try clear hcz31_0); (try clear hcz31_1); (try clear hcz34_0); (try clear hcz34_1); (try clear hcz37_0); (try clear hcz37_1); (try clear hcz41_0); (try clear hcz41_1); (try clear hcz43_0); (try clear hcz43_1); (try clear hcz8_0); (try clear hcz8_1); (try clear hfz10_0); (try clear hfz10_1); (try clear hfz14_0); (try clear hfz14_1); (try clear hfz17_0); (try clear hfz17_1); (try clear hfz31_0); (try clear hfz31_1); (try clear hfz34_0); (try clear hfz34_1); (try clear hfz37_0); (try clear hfz37_1); (try clear hfz41_0); (try clear hfz41_1); (try clear hfz43_0); (try clear hfz43_1); (try clear hfz8_0); (try clear hfz8_1); (try clear hx1124_0); (try clear hx1125_0); (try clear hx1125_1); (try clear hx1125_2); (try clear p1); (try clear p11); (try clear p1124); (try clear p1125); (try clear p2); (try clear p6); (try clear q1); (try clear q11); (try clear q1124); (try clear q1125); obtain ⟨x5_6, x62_6, rfl, HA, HK6, HO_3, HO_5, HO_32, BK1115, BK1126, HB⟩ := hrel
                                          cases gk with
                                          | zero => exact absurd HA.out (by simp [impl_Dense.l2])
                                          | succ k6 =>
                                            have H := HA.out; clear HA
                                            simp only [impl_Dense.l2] at H
                                            by_cases c44 : x62_6 < (((rd_T90 l0_1 (rd x3_2 x34_4)).f1.f1).length : Int)
                                            · rw [if_pos c44] at H
                                              have c44b0 : decide (x62_6 < (((rd_T90 l0_1 (rd x3_2 x34_4)).f1.f1).length : Int)) = true := decide_eq_true c44; clear c44
                                              by_cases c45 : 0 ≤ x62_6
                                              · rw [if_pos c45] at H
                                                have c45b0 : decide (0 ≤ x62_6) = true := decide_eq_true c45; clear c45
                                                by_cases c46 : x62_6 < (((rd_T90 l0_1 (rd x3_2 x34_4)).f1.f1).length : Int)
                                                · rw [if_pos c46] at H
                                                  have c46b0 : decide (x62_6 < (((rd_T90 l0_1 (rd x3_2 x34_4)).f1.f1).length : Int)) = true := decide_eq_true c46; clear c46
                                                  by_cases c47 : x5_6.length < 17592186044416
                                                  · rw [if_pos c47] at H
                                                    have LMc47 := Aside0.mk c47; clear c47; obtain ⟨y1129, hy1129⟩ : ∃ y_ : List Int, y_ = (x5_6 ++ [(rd_T103 ((rd_T90 l0_1 (rd x3_2 x34_4)).f1.f1) x62_6).f0]) := ⟨_, rfl⟩
                                                    replace H : (impl_Dense.l2 k6 x3_2 x4_2 y1129 x3_2 (x3_2.length : Int) x34_4 ((rd_T90 l0_1 (rd x3_2 x34_4)).f1.f1) (((rd_T90 l0_1 (rd x3_2 x34_4)).f1.f1).length : Int) (wrap64 (x62_6 + 1)) a0_0 l0_1) = some r := by first | (rw [hy1129]; with_reducible exact H) | (have H2_ := (Option.bind_some _ _).symm.trans H; rw [hy1129]; with_reducible exact H2_) | (have H2_ := (Option.bind_some _ _).symm.trans H; with_reducible exact H2_) | with_reducible exact H | (rw [hy1129]; exact H) | exact H
                                                    have Ny1129 := Aside0.mk hy1129; clear hy1129; have H' := Aside0.mk H; clear H; have p1127 : 0 ≤ (x62_6 : Int) := of_decide_eq_true uz; have q1127 : x62_6 < (((rd_T90 l0_1 (rd x3_2 x34_4)).f1.f1).length : Int) := of_decide_eq_true uz; obtain ⟨ad1127, e1127, hx1127_0, hx1127_1, hx1127_2, hx1127_3, hx1127_4⟩ := at_T103 HR1125_2.out x62_6 p1127 q1127
                                                    cases e1127
                                                    replace hx1127_0 := cz HB.out hx1127_0; replace hx1127_1 := cz HB.out hx1127_1; replace hx1127_2 := cz HB.out hx1127_2; replace hx1127_3 := cz HB.out hx1127_3; replace hx1127_4 := cz HB.out hx1127_4; replace p1127 := eq_true p1127; replace q1127 := eq_true q1127
                                                    go_wp2_with (first | ((with_reducible refine gate_dst (N := 10) rfl ?_); (try (refine gate_guard (by rfl) ?_; dsimp only)); refine box_event ?hg (N := 10) ?hd (cs := #[.int .i64 0, .int .i64 0, .int .i64 0, .int .i64 0, .int .i64 0]) (t := 103) ?hr ?_; (case hd => rfl); (case hg => rfl); (case hr => first | (go_simp; done) | (go_simp; rfl)); intro gb1128 hg w48 hbox hb; have n0_ := Aside0.mk (Kd.R_below (rz HO_3.out) hb); have n1_ := Aside0.mk (Kd.R_below (rz HO_5.out) hb); have n2_ := Aside0.mk (Kd.R_below (rz HO_32.out) hb); have n3_ := Aside0.mk (blk_below (g := gb1115) (o := .cells #[.int .i64 a0_0, .slice (some ad1125) l0_1.length c0_1] 49 (0, 0)) (kz BK1115.out) hb); have n4_ := Aside0.mk (blk_below (g := gb1126) (o := .cells #[.bool ((rd_T90 l0_1 (rd x3_2 x34_4)).f1.f0), .slice (some ad1127) ((rd_T90 l0_1 (rd x3_2 x34_4)).f1.f1).length c1125_2] 54 (0, 0)) (kz BK1126.out) hb); have n5_ := Aside0.mk (below_step (b2 GE1115.out GE1126.out HB.out) hb); have n6_ := Aside0.mk (hbox); have n7_ := Aside0.mk ((by rw [hg]; exact (below_size (b2 GE1115.out GE1126.out HB.out)) : w.heap.size ≤ gb1128)); have n8_ := Aside0.mk ((by rw [hg]; exact (below_size (b2 GE1115.out GE1126.out HB.out)) : w.heap.size ≤ gb1128)); have n9_ := Aside0.mk ((by rw [hg]; exact Nat.ne_of_lt (blk_lt (g := gb1115) (o := .cells #[.int .i64 a0_0, .slice (some ad1125) l0_1.length c0_1] 49 (0, 0)) (kz BK1115.out)) : gb1115 ≠ gb1128)); have n10_ := Aside0.mk ((by rw [hg]; exact Nat.ne_of_gt (blk_lt (g := gb1115) (o := .cells #[.int .i64 a0_0, .slice (some ad1125) l0_1.length c0_1] 49 (0, 0)) (kz BK1115.out)) : gb1128 ≠ gb1115)); have n11_ := Aside0.mk ((by rw [hg]; exact Nat.ne_of_lt (blk_lt (g := gb1126) (o := .cells #[.bool ((rd_T90 l0_1 (rd x3_2 x34_4)).f1.f0), .slice (some ad1127) ((rd_T90 l0_1 (rd x3_2 x34_4)).f1.f1).length c1125_2] 54 (0, 0)) (kz BK1126.out)) : gb1126 ≠ gb1128)); have n12_ := Aside0.mk ((by rw [hg]; exact Nat.ne_of_gt (blk_lt (g := gb1126) (o := .cells #[.bool ((rd_T90 l0_1 (rd x3_2 x34_4)).f1.f0), .slice (some ad1127) ((rd_T90 l0_1 (rd x3_2 x34_4)).f1.f1).length c1125_2] 54 (0, 0)) (kz BK1126.out)) : gb1128 ≠ gb1126)); clear HO_3; clear HO_5; clear HO_32; clear BK1115; clear BK1126; clear HB; have HO_3 := n0_; have HO_5 := n1_; have HO_32 := n2_; have BK1115 := n3_; have BK1126 := n4_; have HB := n5_; have BK1128 := n6_; have GW1128 := n7_; have GE1128 := n8_; have NB1115_1128 := n9_; have NB1128_1115 := n10_; have NB1126_1128 := n11_; have NB1128_1126 := n12_; clear n0_ n1_ n2_ n3_ n4_ n5_ n6_ n7_ n8_ n9_ n10_ n11_ n12_; clear hb hbox hg; have hnb49 := NB1128_1115.out; have hnc49 := NB1115_1128.out; have hnb50 := NB1128_1126.out; have hnc50 := NB1126_1128.out; have hcz51_0 := fz BK1128.out 0 (.int .i64 0); have hcz51_1 := fz BK1128.out 1 (.int .i64 0); have hcz51_2 := fz BK1128.out 2 (.int .i64 0); have hcz51_3 := fz BK1128.out 3 (.int .i64 0); have hcz51_4 := fz BK1128.out 4 (.int .i64 0); have hfz51_0 := blk_frozen BK1128.out 0; have hfz51_1 := blk_frozen BK1128.out 1; have hfz51_2 := blk_frozen BK1128.out 2; have hfz51_3 := blk_frozen BK1128.out 3; have hfz51_4 := blk_frozen BK1128.out 4) | ((with_reducible refine gate_builtin (b := .append) (xs := #[.tmp 66, .tmp 69]) rfl ?_); (try (refine gate_guard (by rfl) ?_; dsimp only)); at_builtin; refine Kd.R_append (Kd.int .i64) (w0 := w) w.heap.size rfl (.tmp 66) (.tmp 69) 64 3 (.int .i64 0) 8 rfl Try.underlying64 info3 rfl (by decide) (by omega) u5 x5_6 ((rd_T103 ((rd_T90 l0_1 (rd x3_2 x34_4)).f1.f1) x62_6).f0) [.int .i64 ((rd_T103 ((rd_T90 l0_1 (rd x3_2 x34_4)).f1.f1) x62_6).f0)] (fun k_ => some k_ ≠ (.slice (some ad1124) x3_2.length co24 : Value).ownBlock ∧ some k_ ≠ (.slice (some ad1124) x3_2.length co24 : Value).ownBlock) (fun _ => False) rfl (by first | (go_simp; done) | (go_simp; rfl)) ?aP (fun _ hk => hk.elim) ?aF ?aO ?aB ?aS ?aL ?_; (case aP => exact rfl); (case aB => exact (by repeat (first | (with_reducible first | exact HB.out | apply below_alloc | apply pw_below_drewN | apply below_drew1 | refine below_set ?_ GE1115.out | refine below_set ?_ GE1126.out | refine below_set ?_ GE1128.out) | exact HB.out))); (case aF => exact (fun k_ hk => ⟨Kd.fresh' (Kd.R_lt (by (with_reducible repeat (first | apply Kd.R_alloc | apply Kd.R_drewN | apply Kd.R_drew)); exact (Kd.R_mono (Kd.R_far (p := ⟨gb1128, 4, none⟩) (Kd.R_far (p := ⟨gb1128, 3, none⟩) (Kd.R_far (p := ⟨gb1128, 2, none⟩) (Kd.R_far (p := ⟨gb1128, 1, none⟩) (Kd.R_far (p := ⟨gb1128, 0, none⟩) (Kd.R_types HO_3.out BK1128.out (by decide)) (fun _ hk => hk.2) (.int .i64 ((rd_T103 ((rd_T90 l0_1 (rd x3_2 x34_4)).f1.f1) x62_6).f0))) (fun _ hk => hk.2) (.int .i64 ((rd_T103 ((rd_T90 l0_1 (rd x3_2 x34_4)).f1.f1) x62_6).f1.f0))) (fun _ hk => hk.2) (.int .i64 ((rd_T103 ((rd_T90 l0_1 (rd x3_2 x34_4)).f1.f1) x62_6).f1.f1))) (fun _ hk => hk.2) (.int .i64 ((rd_T103 ((rd_T90 l0_1 (rd x3_2 x34_4)).f1.f1) x62_6).f1.f2))) (fun _ hk => hk.2) (.int .i64 ((rd_T103 ((rd_T90 l0_1 (rd x3_2 x34_4)).f1.f1) x62_6).f1.f3))) (fun _ h_ => h_.1)))) k_ hk, Kd.fresh' (Kd.R_lt (by (with_reducible repeat (first | apply Kd.R_alloc | apply Kd.R_drewN | apply Kd.R_drew)); exact (Kd.R_mono (Kd.R_far (p := ⟨gb1128, 4, none⟩) (Kd.R_far (p := ⟨gb1128, 3, none⟩) (Kd.R_far (p := ⟨gb1128, 2, none⟩) (Kd.R_far (p := ⟨gb1128, 1, none⟩) (Kd.R_far (p := ⟨gb1128, 0, none⟩) (Kd.R_types HO_32.out BK1128.out (by decide)) (fun _ hk => hk.2) (.int .i64 ((rd_T103 ((rd_T90 l0_1 (rd x3_2 x34_4)).f1.f1) x62_6).f0))) (fun _ hk => hk.2) (.int .i64 ((rd_T103 ((rd_T90 l0_1 (rd x3_2 x34_4)).f1.f1) x62_6).f1.f0))) (fun _ hk => hk.2) (.int .i64 ((rd_T103 ((rd_T90 l0_1 (rd x3_2 x34_4)).f1.f1) x62_6).f1.f1))) (fun _ hk => hk.2) (.int .i64 ((rd_T103 ((rd_T90 l0_1 (rd x3_2 x34_4)).f1.f1) x62_6).f1.f2))) (fun _ hk => hk.2) (.int .i64 ((rd_T103 ((rd_T90 l0_1 (rd x3_2 x34_4)).f1.f1) x62_6).f1.f3))) (fun _ h_ => h_.1)))) k_ hk⟩)); (case aO => exact (by (with_reducible repeat (first | apply Kd.R_alloc | apply Kd.R_drewN | apply Kd.R_drew)); exact Kd.R_mono (Kd.R_far (p := ⟨gb1128, 4, none⟩) (Kd.R_far (p := ⟨gb1128, 3, none⟩) (Kd.R_far (p := ⟨gb1128, 2, none⟩) (Kd.R_far (p := ⟨gb1128, 1, none⟩) (Kd.R_far (p := ⟨gb1128, 0, none⟩) (Kd.R_types HO_5.out BK1128.out (by decide)) (fun _ hk => hk.2) (.int .i64 ((rd_T103 ((rd_T90 l0_1 (rd x3_2 x34_4)).f1.f1) x62_6).f0))) (fun _ hk => hk.2) (.int .i64 ((rd_T103 ((rd_T90 l0_1 (rd x3_2 x34_4)).f1.f1) x62_6).f1.f0))) (fun _ hk => hk.2) (.int .i64 ((rd_T103 ((rd_T90 l0_1 (rd x3_2 x34_4)).f1.f1) x62_6).f1.f1))) (fun _ hk => hk.2) (.int .i64 ((rd_T103 ((rd_T90 l0_1 (rd x3_2 x34_4)).f1.f1) x62_6).f1.f2))) (fun _ hk => hk.2) (.int .i64 ((rd_T103 ((rd_T90 l0_1 (rd x3_2 x34_4)).f1.f1) x62_6).f1.f3))) (fun _ hk => ⟨hk.1.1, hk.1.2⟩))); (case aS => exact (below_size (by repeat (first | (with_reducible first | exact HB.out | apply below_alloc | apply pw_below_drewN | apply below_drew1 | refine below_set ?_ GE1115.out | refine below_set ?_ GE1126.out | refine below_set ?_ GE1128.out) | exact HB.out)))); (case aL => have := LMc47.out; omega); intro v1130 w52 ho hb hg hat; rw [← Ny1129.out] at ho; have n0_ := Aside0.mk (Kd.R_after (ok := (fun _ => True)) (by (with_reducible repeat (first | apply Kd.R_alloc | apply Kd.R_drewN | apply Kd.R_drew)); exact Kd.R_mono (Kd.R_far (p := ⟨gb1128, 4, none⟩) (Kd.R_far (p := ⟨gb1128, 3, none⟩) (Kd.R_far (p := ⟨gb1128, 2, none⟩) (Kd.R_far (p := ⟨gb1128, 1, none⟩) (Kd.R_far (p := ⟨gb1128, 0, none⟩) (Kd.R_types HO_3.out BK1128.out (by decide)) (fun _ hk => hk.2) (.int .i64 ((rd_T103 ((rd_T90 l0_1 (rd x3_2 x34_4)).f1.f1) x62_6).f0))) (fun _ hk => hk.2) (.int .i64 ((rd_T103 ((rd_T90 l0_1 (rd x3_2 x34_4)).f1.f1) x62_6).f1.f0))) (fun _ hk => hk.2) (.int .i64 ((rd_T103 ((rd_T90 l0_1 (rd x3_2 x34_4)).f1.f1) x62_6).f1.f1))) (fun _ hk => hk.2) (.int .i64 ((rd_T103 ((rd_T90 l0_1 (rd x3_2 x34_4)).f1.f1) x62_6).f1.f2))) (fun _ hk => hk.2) (.int .i64 ((rd_T103 ((rd_T90 l0_1 (rd x3_2 x34_4)).f1.f1) x62_6).f1.f3))) (fun _ hk => ⟨trivial, hk.1⟩)) hg hat); have n1_ := Aside0.mk (Kd.R_after (ok := (fun _ => True)) (by (with_reducible repeat (first | apply Kd.R_alloc | apply Kd.R_drewN | apply Kd.R_drew)); exact Kd.R_mono (Kd.R_far (p := ⟨gb1128, 4, none⟩) (Kd.R_far (p := ⟨gb1128, 3, none⟩) (Kd.R_far (p := ⟨gb1128, 2, none⟩) (Kd.R_far (p := ⟨gb1128, 1, none⟩) (Kd.R_far (p := ⟨gb1128, 0, none⟩) (Kd.R_types HO_32.out BK1128.out (by decide)) (fun _ hk => hk.2) (.int .i64 ((rd_T103 ((rd_T90 l0_1 (rd x3_2 x34_4)).f1.f1) x62_6).f0))) (fun _ hk => hk.2) (.int .i64 ((rd_T103 ((rd_T90 l0_1 (rd x3_2 x34_4)).f1.f1) x62_6).f1.f0))) (fun _ hk => hk.2) (.int .i64 ((rd_T103 ((rd_T90 l0_1 (rd x3_2 x34_4)).f1.f1) x62_6).f1.f1))) (fun _ hk => hk.2) (.int .i64 ((rd_T103 ((rd_T90 l0_1 (rd x3_2 x34_4)).f1.f1) x62_6).f1.f2))) (fun _ hk => hk.2) (.int .i64 ((rd_T103 ((rd_T90 l0_1 (rd x3_2 x34_4)).f1.f1) x62_6).f1.f3))) (fun _ hk => ⟨trivial, hk.1⟩)) hg hat); have n2_ := Aside0.mk (blk_grown (g := gb1115) (o := .cells #[.int .i64 a0_0, .slice (some ad1125) l0_1.length c0_1] 49 (0, 0)) (by (with_reducible repeat (first | refine blk_drewN ?_ _ | refine blk_drew ?_ | refine blk_alloc ?_ _)); refine blk_far ?_ NB1115_1128.out _; (with_reducible repeat (first | refine blk_drewN ?_ _ | refine blk_drew ?_ | refine blk_alloc ?_ _)); refine blk_far ?_ NB1115_1128.out _; (with_reducible repeat (first | refine blk_drewN ?_ _ | refine blk_drew ?_ | refine blk_alloc ?_ _)); refine blk_far ?_ NB1115_1128.out _; (with_reducible repeat (first | refine blk_drewN ?_ _ | refine blk_drew ?_ | refine blk_alloc ?_ _)); refine blk_far ?_ NB1115_1128.out _; (with_reducible repeat (first | refine blk_drewN ?_ _ | refine blk_drew ?_ | refine blk_alloc ?_ _)); refine blk_far ?_ NB1115_1128.out _; (with_reducible repeat (first | refine blk_drewN ?_ _ | refine blk_drew ?_ | refine blk_alloc ?_ _)); exact BK1115.out) hg (Kd.R_ne HO_5.out BK1115.out (by decide))); have n3_ := Aside0.mk (blk_grown (g := gb1126) (o := .cells #[.bool ((rd_T90 l0_1 (rd x3_2 x34_4)).f1.f0), .slice (some ad1127) ((rd_T90 l0_1 (rd x3_2 x34_4)).f1.f1).length c1125_2] 54 (0, 0)) (by (with_reducible repeat (first | refine blk_drewN ?_ _ | refine blk_drew ?_ | refine blk_alloc ?_ _)); refine blk_far ?_ NB1126_1128.out _; (with_reducible repeat (first | refine blk_drewN ?_ _ | refine blk_drew ?_ | refine blk_alloc ?_ _)); refine blk_far ?_ NB1126_1128.out _; (with_reducible repeat (first | refine blk_drewN ?_ _ | refine blk_drew ?_ | refine blk_alloc ?_ _)); refine blk_far ?_ NB1126_1128.out _; (with_reducible repeat (first | refine blk_drewN ?_ _ | refine blk_drew ?_ | refine blk_alloc ?_ _)); refine blk_far ?_ NB1126_1128.out _; (with_reducible repeat (first | refine blk_drewN ?_ _ | refine blk_drew ?_ | refine blk_alloc ?_ _)); refine blk_far ?_ NB1126_1128.out _; (with_reducible repeat (first | refine blk_drewN ?_ _ | refine blk_drew ?_ | refine blk_alloc ?_ _)); exact BK1126.out) hg (Kd.R_ne HO_5.out BK1126.out (by decide))); have n4_ := Aside0.mk (blk_grown (g := gb1128) (o := .cells #[.int .i64 ((rd_T103 ((rd_T90 l0_1 (rd x3_2 x34_4)).f1.f1) x62_6).f0), .int .i64 ((rd_T103 ((rd_T90 l0_1 (rd x3_2 x34_4)).f1.f1) x62_6).f1.f0), .int .i64 ((rd_T103 ((rd_T90 l0_1 (rd x3_2 x34_4)).f1.f1) x62_6).f1.f1), .int .i64 ((rd_T103 ((rd_T90 l0_1 (rd x3_2 x34_4)).f1.f1) x62_6).f1.f2), .int .i64 ((rd_T103 ((rd_T90 l0_1 (rd x3_2 x34_4)).f1.f1) x62_6).f1.f3)] 103 (0, 0)) (by (with_reducible repeat (first | refine blk_drewN ?_ _ | refine blk_drew ?_ | refine blk_alloc ?_ _)); refine blk_put (cs := #[.int .i64 ((rd_T103 ((rd_T90 l0_1 (rd x3_2 x34_4)).f1.f1) x62_6).f0), .int .i64 ((rd_T103 ((rd_T90 l0_1 (rd x3_2 x34_4)).f1.f1) x62_6).f1.f0), .int .i64 ((rd_T103 ((rd_T90 l0_1 (rd x3_2 x34_4)).f1.f1) x62_6).f1.f1), .int .i64 ((rd_T103 ((rd_T90 l0_1 (rd x3_2 x34_4)).f1.f1) x62_6).f1.f2), .int .i64 0]) ?_ 4 _ rfl; (with_reducible repeat (first | refine blk_drewN ?_ _ | refine blk_drew ?_ | refine blk_alloc ?_ _)); refine blk_put (cs := #[.int .i64 ((rd_T103 ((rd_T90 l0_1 (rd x3_2 x34_4)).f1.f1) x62_6).f0), .int .i64 ((rd_T103 ((rd_T90 l0_1 (rd x3_2 x34_4)).f1.f1) x62_6).f1.f0), .int .i64 ((rd_T103 ((rd_T90 l0_1 (rd x3_2 x34_4)).f1.f1) x62_6).f1.f1), .int .i64 0, .int .i64 0]) ?_ 3 _ rfl; (with_reducible repeat (first | refine blk_drewN ?_ _ | refine blk_drew ?_ | refine blk_alloc ?_ _)); refine blk_put (cs := #[.int .i64 ((rd_T103 ((rd_T90 l0_1 (rd x3_2 x34_4)).f1.f1) x62_6).f0), .int .i64 ((rd_T103 ((rd_T90 l0_1 (rd x3_2 x34_4)).f1.f1) x62_6).f1.f0), .int .i64 0, .int .i64 0, .int .i64 0]) ?_ 2 _ rfl; (with_reducible repeat (first | refine blk_drewN ?_ _ | refine blk_drew ?_ | refine blk_alloc ?_ _)); refine blk_put (cs := #[.int .i64 ((rd_T103 ((rd_T90 l0_1 (rd x3_2 x34_4)).f1.f1) x62_6).f0), .int .i64 0, .int .i64 0, .int .i64 0, .int .i64 0]) ?_ 1 _ rfl; (with_reducible repeat (first | refine blk_drewN ?_ _ | refine blk_drew ?_ | refine blk_alloc ?_ _)); refine blk_put (cs := #[.int .i64 0, .int .i64 0, .int .i64 0, .int .i64 0, .int .i64 0]) ?_ 0 _ rfl; (with_reducible repeat (first | refine blk_drewN ?_ _ | refine blk_drew ?_ | refine blk_alloc ?_ _)); exact BK1128.out) hg (Kd.R_ne HO_5.out BK1128.out (by decide))); have n5_ := Aside0.mk (hb); have n6_ := Aside0.mk (ho); clear HO_3; clear HO_32; clear BK1115; clear BK1126; clear BK1128; clear HB; clear HO_5; have HO_3 := n0_; have HO_32 := n1_; have BK1115 := n2_; have BK1126 := n3_; have BK1128 := n4_; have HB := n5_; have HO1131 := n6_; clear n0_ n1_ n2_ n3_ n4_ n5_ n6_; clear ho hb hg hat))
                                                    go_roundg k6
                                                    case measure => have := HJ1.out; have := HK2.out; have := HJ19.out; have := HK4.out; have := HJ29.out; have := HK6.out; omega
                                                    case rel => exact ⟨(y1129), (wrap64 (x62_6 + 1)), az, H', ⟨by have := HJ1.out; have := HK2.out; have := HJ19.out; have := HK4.out; have := HJ29.out; have := HK6.out; omega⟩, ⟨by (with_reducible repeat (first | apply Kd.R_alloc | apply Kd.R_drewN | apply Kd.R_drew)); exact Kd.R_mono HO_3.out (fun _ hk => hk.2)⟩, ⟨rz HO1131.out⟩, ⟨by (with_reducible repeat (first | apply Kd.R_alloc | apply Kd.R_drewN | apply Kd.R_drew)); exact Kd.R_mono HO_32.out (fun _ hk => hk.2)⟩, ⟨kz BK1115.out⟩, ⟨kz BK1126.out⟩, ⟨by repeat (first | (with_reducible first | exact HB.out | apply below_alloc | apply pw_below_drewN | apply below_drew1 | refine below_set ?_ GE1115.out | refine below_set ?_ GE1126.out | refine below_set ?_ GE1128.out) | exact HB.out)⟩⟩
                                                  · rw [if_neg c47] at H
                                                    exact absurd H (by simp)
                                                · rw [if_neg c46] at H
                                                  exact absurd H (by simp)
                                              · rw [if_neg c45] at H
                                                exact absurd H (by simp)
                                            · rw [if_neg c44] at H
                                              have c44b0 : decide (x62_6 < (((rd_T90 l0_1 (rd x3_2 x34_4)).f1.f1).length : Int)) = false := decide_eq_false c44; clear c44; have H' := Aside0.mk H; clear H; go_wp2; go_roundg k6
                                              case measure => have := HJ1.out; have := HK2.out; have := HJ19.out; have := HK4.out; have := HJ29.out; have := HK6.out; omega
                                              case rel => exact ⟨(x5_6), (wrap64 (x34_4 + 1)), az, H', ⟨by have := HJ1.out; have := HK2.out; have := HJ19.out; have := HK4.out; have := HJ29.out; have := HK6.out; omega⟩, ⟨rz HO_3.out⟩, ⟨rz HO_5.out⟩, ⟨rz HO_32.out⟩, ⟨kz BK1115.out⟩, ⟨b2 GE1115.out GE1126.out HB.out⟩⟩
                              · rw [if_neg c29] at H
                                exact absurd H (by simp)
                            · rw [if_neg c28] at H
                              exact absurd H (by simp)
                          · rw [if_neg c27] at H
                            exact absurd H (by simp)
                        · rw [if_neg c26] at H
                          exact absurd H (by simp)
                      · rw [if_neg c25] at H
                        have c25b0 : decide (x34_4 < (x3_2.length : Int)) = false := decide_eq_false c25; clear c25; have H' := Aside0.mk H; clear H; go_wp2; go_roundg k4
                        case measure => have := HJ1.out; have := HK2.out; have := HJ19.out; have := HK4.out; omega
                        case rel => exact ⟨(x5_4), (wrap64 (x4_2 + 1)), az, H', ⟨by have := HJ1.out; have := HK2.out; have := HJ19.out; have := HK4.out; omega⟩, ⟨by (with_reducible repeat (first | apply Kd.R_alloc | apply Kd.R_drewN | apply Kd.R_drew)); exact Kd.R_mono HO_5.out (fun _ hk => trivial)⟩, ⟨kz BK1115.out⟩, ⟨b1 GE1115.out HB.out⟩⟩
                · replace c23 := Bool.eq_false_iff.mpr c23
                  subst c23; replace H : (some true) = some r := (by rw [if_neg (show ¬ (false = true) by decide)] at H; exact H); obtain rfl := Option.some.inj H; go_wp2; go_ret; exact ⟨ez, b1 GE1115.out HB.out⟩

attribute [local go_sem] max2_int min2_int max_two min_two max_three min_three max_four min_four 
set_option linter.unusedVariables false
set_option linter.unusedSimpArgs false

/-! ### laws_FnExactDense: function 13 -/
def laws_FnExactDense.f (k : Nat) (a0_0 : Int) (l0_1 : List (S118)) : Option (Bool) := (laws_szBook.f k a0_0 l0_1 1048576).bind fun t1133 => (if t1133 < 0 then (some true) else ((laws_toBook.f k a0_0 l0_1).bind fun bt1134 => ((spec_Dense.f k bt1134.1 bt1134.2).bind fun t1138 => ((laws_toBook.f k a0_0 l0_1).bind fun bt1139 => ((impl_Dense.f k bt1139.1 bt1139.2).bind fun t1144 => (if (t1144 != t1138) = true then (some false) else ((laws_toBook.f k a0_0 l0_1).bind fun bt1145 => ((laws_eqBook.f k bt1139.1 bt1139.2 bt1145.1 bt1145.2).bind fun t1149 => (if t1149 = true then (some true) else (some false))))))))))
theorem laws_FnExactDense.mono : ∀ a0 a1 k, LeO (laws_FnExactDense.f k a0 a1) (laws_FnExactDense.f (k + 1) a0 a1) := by
  intro a0 a1 k
  unfold laws_FnExactDense.f
  repeat' first | (with_reducible first | exact impl_Dense.mono _ _ _ | exact laws_eqBook.mono _ _ _ _ _ | exact laws_szBook.mono _ _ _ _ | exact laws_toBook.mono _ _ _ | exact spec_Dense.mono _ _ _ | exact LeO.refl _ | exact LeO.none _ | refine LeO.ite ?_ ?_ | refine LeO.bind ?_ (fun _ => ?_)) | exact impl_Dense.mono _ _ _ | exact laws_eqBook.mono _ _ _ _ _ | exact laws_szBook.mono _ _ _ _ | exact laws_toBook.mono _ _ _ | exact spec_Dense.mono _ _ _ | exact LeO.none _ | refine LeO.ite ?_ ?_ | refine LeO.bind ?_ (fun _ => ?_)
set_option maxHeartbeats 8000000 in
set_option maxRecDepth 100000 in
theorem laws_FnExactDense.calls (k : Nat) (a0_0 : Int) (A0_1 : Option Addr) (c0_1 : Nat) (l0_1 : List (S118)) (r : Bool) (w : World) (hr0_1 : Kd.C k118 w A0_1 l0_1.length l0_1) (hc0_1 : l0_1.length ≤ c0_1) (h : laws_FnExactDense.f k a0_0 l0_1 = some r) :
    Calls Try.prog 13 #[.agg #[.int .i64 a0_0, .slice A0_1 l0_1.length c0_1]] w fun e w' => e = .returned (.bool r) ∧ Below w.heap.size w w' := by
  have hu41 := Try.underlying41; have hu49 := Try.underlying49; have HR0_1 := Aside0.mk hr0_1; have HC0_1 := Aside0.mk hc0_1; clear hr0_1 hc0_1; have HB := Aside0.mk (Below.refl w.heap.size w); have H : ((laws_szBook.f k a0_0 l0_1 1048576).bind fun t1133 => (if t1133 < 0 then (some true) else ((laws_toBook.f k a0_0 l0_1).bind fun bt1134 => ((spec_Dense.f k bt1134.1 bt1134.2).bind fun t1138 => ((laws_toBook.f k a0_0 l0_1).bind fun bt1139 => ((impl_Dense.f k bt1139.1 bt1139.2).bind fun t1144 => (if (t1144 != t1138) = true then (some false) else ((laws_toBook.f k a0_0 l0_1).bind fun bt1145 => ((laws_eqBook.f k bt1139.1 bt1139.2 bt1145.1 bt1145.2).bind fun t1149 => (if t1149 = true then (some true) else (some false))))))))))) = some r := h; clear h; replace H := Option.bind_eq_some_iff.mp H; obtain ⟨t1133, A20, H⟩ := H; replace H : (if t1133 < 0 then (some true) else ((laws_toBook.f k a0_0 l0_1).bind fun bt1134 => ((spec_Dense.f k bt1134.1 bt1134.2).bind fun t1138 => ((laws_toBook.f k a0_0 l0_1).bind fun bt1139 => ((impl_Dense.f k bt1139.1 bt1139.2).bind fun t1144 => (if (t1144 != t1138) = true then (some false) else ((laws_toBook.f k a0_0 l0_1).bind fun bt1145 => ((laws_eqBook.f k bt1139.1 bt1139.2 bt1145.1 bt1145.2).bind fun t1149 => (if t1149 = true then (some true) else (some false)))))))))) = some r := H; have A2 := Aside0.mk A20; clear A20
  by_cases c3 : t1133 < 0
  · rw [if_pos c3] at H
    have c3b0 : decide (t1133 < 0) = true := decide_eq_true c3; clear c3; obtain rfl := Option.some.inj H
    go_enter Try.func13, Try.ntmps13
    go_wp2_with (first | ((with_reducible refine gate_dst (N := 1) rfl ?_); refine box_event ?hg (N := 1) ?hd (cs := #[.int .i64 a0_0, .slice A0_1 l0_1.length c0_1]) (t := 41) ?hr ?_; (case hd => rfl); (case hg => rfl); (case hr => first | (go_simp; done) | (go_simp; rfl)); intro gb1132 hg w4 hbox hb; have n0_ := Aside0.mk (below_step (bz HB.out) hb); have n1_ := Aside0.mk (hbox); have n2_ := Aside0.mk ((by rw [hg]; exact (below_size (bz HB.out)) : w.heap.size ≤ gb1132)); have n3_ := Aside0.mk ((by rw [hg]; exact (below_size (bz HB.out)) : w.heap.size ≤ gb1132)); clear HB; have HB := n0_; have BK1132 := n1_; have GW1132 := n2_; have GE1132 := n3_; clear n0_ n1_ n2_ n3_; clear hb hbox hg; have hcz5_0 := fz BK1132.out 0 (.int .i64 a0_0); have hcz5_1 := fz BK1132.out 1 (.slice A0_1 l0_1.length c0_1); have hfz5_0 := blk_frozen BK1132.out 0; have hfz5_1 := blk_frozen BK1132.out 1) | ((with_reducible refine gate_callee (f := 23) rfl ?_); refine goesL_ (some 9) rfl rfl Try.func23 (by kernel_rfl) rfl #[.agg #[.int .i64 a0_0, .slice A0_1 l0_1.length c0_1], .int .i64 1048576] rfl dz ?_; (with_reducible refine (laws_szBook.calls k a0_0 _ _ l0_1 1048576 t1133 _ ?side1 ?side2 A2.out).mono ?_); (case side1 => exact sz HR0_1.out HB.out); (case side2 => exact HC0_1.out); rintro e w6 ⟨rfl, hb⟩; refine ⟨_, rfl, ?_⟩; have n0_ := Aside0.mk (blk_below (g := gb1132) (o := .cells #[.int .i64 a0_0, .slice A0_1 l0_1.length c0_1] 41 (0, 0)) (kz BK1132.out) hb); have n1_ := Aside0.mk (below_step (b1 GE1132.out HB.out) hb); clear BK1132; clear HB; have BK1132 := n0_; have HB := n1_; clear n0_ n1_; (try clear hb); (try clear hb2); (try clear hk); (try clear hi)))
    go_ret; exact ⟨ez, b1 GE1132.out HB.out⟩
  · rw [if_neg c3] at H
    have c3b0 : decide (t1133 < 0) = false := decide_eq_false c3; clear c3; replace H := Option.bind_eq_some_iff.mp H; obtain ⟨⟨t1134, t1135⟩, A70, H⟩ := H; replace H : ((spec_Dense.f k t1134 t1135).bind fun t1138 => ((laws_toBook.f k a0_0 l0_1).bind fun bt1139 => ((impl_Dense.f k bt1139.1 bt1139.2).bind fun t1144 => (if (t1144 != t1138) = true then (some false) else ((laws_toBook.f k a0_0 l0_1).bind fun bt1145 => ((laws_eqBook.f k bt1139.1 bt1139.2 bt1145.1 bt1145.2).bind fun t1149 => (if t1149 = true then (some true) else (some false)))))))) = some r := H; have A7 := Aside0.mk A70; clear A70; replace H := Option.bind_eq_some_iff.mp H; obtain ⟨t1138, A80, H⟩ := H; replace H : ((laws_toBook.f k a0_0 l0_1).bind fun bt1139 => ((impl_Dense.f k bt1139.1 bt1139.2).bind fun t1144 => (if (t1144 != t1138) = true then (some false) else ((laws_toBook.f k a0_0 l0_1).bind fun bt1145 => ((laws_eqBook.f k bt1139.1 bt1139.2 bt1145.1 bt1145.2).bind fun t1149 => (if t1149 = true then (some true) else (some false))))))) = some r := H; have A8 := Aside0.mk A80; clear A80; replace H := Option.bind_eq_some_iff.mp H; obtain ⟨⟨t1139, t1140⟩, A90, H⟩ := H; replace H : ((impl_Dense.f k t1139 t1140).bind fun t1144 => (if (t1144 != t1138) = true then (some false) else ((laws_toBook.f k a0_0 l0_1).bind fun bt1145 => ((laws_eqBook.f k t1139 t1140 bt1145.1 bt1145.2).bind fun t1149 => (if t1149 = true then (some true) else (some false)))))) = some r := H; have A9 := Aside0.mk A90; clear A90; replace H := Option.bind_eq_some_iff.mp H; obtain ⟨t1144, A100, H⟩ := H; replace H : (if (t1144 != t1138) = true then (some false) else ((laws_toBook.f k a0_0 l0_1).bind fun bt1145 => ((laws_eqBook.f k t1139 t1140 bt1145.1 bt1145.2).bind fun t1149 => (if t1149 = true then (some true) else (some false))))) = some r := H; have A10 := Aside0.mk A100; clear A100
    by_cases c11 : (t1144 != t1138) = true
    · rw [if_pos c11] at H
      have c11b0 : (t1144 != t1138) = true := c11
      (try (have c11b1 : decide (t1144 = t1138) = false := by simpa using c11))
      (try (have c11b2 : (t1144 == t1138) = false := by simpa using c11))
      (try (have c11b3 : ¬ (t1144 = t1138) := by simpa using c11))
      clear c11; obtain rfl := Option.some.inj H
      go_enter Try.func13, Try.ntmps13
      go_wp2_with (first | ((with_reducible refine gate_dst (N := 1) rfl ?_); refine box_event ?hg (N := 1) ?hd (cs := #[.int .i64 a0_0, .slice A0_1 l0_1.length c0_1]) (t := 41) ?hr ?_; (case hd => rfl); (case hg => rfl); (case hr => first | (go_simp; done) | (go_simp; rfl)); intro gb1132 hg w12 hbox hb; have n0_ := Aside0.mk (below_step (bz HB.out) hb); have n1_ := Aside0.mk (hbox); have n2_ := Aside0.mk ((by rw [hg]; exact (below_size (bz HB.out)) : w.heap.size ≤ gb1132)); have n3_ := Aside0.mk ((by rw [hg]; exact (below_size (bz HB.out)) : w.heap.size ≤ gb1132)); clear HB; have HB := n0_; have BK1132 := n1_; have GW1132 := n2_; have GE1132 := n3_; clear n0_ n1_ n2_ n3_; clear hb hbox hg; have hcz13_0 := fz BK1132.out 0 (.int .i64 a0_0); have hcz13_1 := fz BK1132.out 1 (.slice A0_1 l0_1.length c0_1); have hfz13_0 := blk_frozen BK1132.out 0; have hfz13_1 := blk_frozen BK1132.out 1) | ((with_reducible refine gate_callee (f := 23) rfl ?_); refine goesL_ (some 9) rfl rfl Try.func23 (by kernel_rfl) rfl #[.agg #[.int .i64 a0_0, .slice A0_1 l0_1.length c0_1], .int .i64 1048576] rfl dz ?_; (with_reducible refine (laws_szBook.calls k a0_0 _ _ l0_1 1048576 t1133 _ ?side1 ?side2 A2.out).mono ?_); (case side1 => exact sz HR0_1.out HB.out); (case side2 => exact HC0_1.out); rintro e w14 ⟨rfl, hb⟩; refine ⟨_, rfl, ?_⟩; have n0_ := Aside0.mk (blk_below (g := gb1132) (o := .cells #[.int .i64 a0_0, .slice A0_1 l0_1.length c0_1] 41 (0, 0)) (kz BK1132.out) hb); have n1_ := Aside0.mk (below_step (b1 GE1132.out HB.out) hb); clear BK1132; clear HB; have BK1132 := n0_; have HB := n1_; clear n0_ n1_; (try clear hb); (try clear hb2); (try clear hk); (try clear hi); have hcz15_0 := fz BK1132.out 0 (.int .i64 a0_0); have hcz15_1 := fz BK1132.out 1 (.slice A0_1 l0_1.length c0_1); have hfz15_0 := blk_frozen BK1132.out 0; have hfz15_1 := blk_frozen BK1132.out 1) | ((with_reducible refine gate_callee (f := 26) rfl ?_); refine goesL_ (some 13) rfl rfl Try.func26 (by kernel_rfl) rfl #[.agg #[.int .i64 a0_0, .slice A0_1 l0_1.length c0_1]] rfl dz ?_; (with_reducible refine (laws_toBook.calls k a0_0 _ _ l0_1 t1134 t1135 _ ?side1 ?side2 A7.out).mono ?_); (case side1 => exact sz HR0_1.out HB.out); (case side2 => exact HC0_1.out); rintro e w16 ⟨v1136, rfl, ho0, hb⟩; refine ⟨_, rfl, ?_⟩; have n0_ := Aside0.mk (Kd.S_lower ho0 (below_size (b1 GE1132.out HB.out))); have n1_ := Aside0.mk (blk_below (g := gb1132) (o := .cells #[.int .i64 a0_0, .slice A0_1 l0_1.length c0_1] 41 (0, 0)) (kz BK1132.out) hb); have n2_ := Aside0.mk (below_step (b1 GE1132.out HB.out) hb); clear BK1132; clear HB; have HO1137 := n0_; have BK1132 := n1_; have HB := n2_; clear n0_ n1_ n2_; (try clear hb); (try clear hb2); (try clear hk); (try clear hi); (try clear ho0); obtain ⟨Ao17, co17, eo17⟩ := Kd.S_slice HO1137.out; subst eo17) | ((with_reducible refine gate_callee (f := 55) rfl ?_); refine goesL_ (some 14) rfl rfl Try.func55 (by kernel_rfl) rfl #[.agg #[.int .i64 t1134, .slice Ao17 t1135.length co17]] rfl dz ?_; (with_reducible refine (spec_Dense.calls k t1134 _ _ t1135 t1138 _ ?side1 ?side2 A8.out).mono ?_); (case side1 => repeat (first | exact (Kd.S_reads' HO1137.out).2.2 | (with_reducible refine Kd.C_alloc ?_ _) | (with_reducible refine Kd.C_drewN ?_ _) | (with_reducible refine Kd.C_drew ?_))); (case side2 => exact (Kd.S_reads' HO1137.out).2.1); rintro e w18 ⟨rfl, hb⟩; refine ⟨_, rfl, ?_⟩; have n0_ := Aside0.mk (Kd.S_below (by (with_reducible repeat (first | apply Kd.S_alloc | apply Kd.S_drewN | apply Kd.S_drew)); exact HO1137.out) hb); have n1_ := Aside0.mk (blk_below (g := gb1132) (o := .cells #[.int .i64 a0_0, .slice A0_1 l0_1.length c0_1] 41 (0, 0)) (kz BK1132.out) hb); have n2_ := Aside0.mk (below_step (b1 GE1132.out HB.out) hb); clear HO1137; clear BK1132; clear HB; have HO1137 := n0_; have BK1132 := n1_; have HB := n2_; clear n0_ n1_ n2_; (try clear hb); (try clear hb2); (try clear hk); (try clear hi); have hcz19_0 := fz BK1132.out 0 (.int .i64 a0_0); have hcz19_1 := fz BK1132.out 1 (.slice A0_1 l0_1.length c0_1); have hfz19_0 := blk_frozen BK1132.out 0; have hfz19_1 := blk_frozen BK1132.out 1) | ((with_reducible refine gate_callee (f := 26) rfl ?_); refine goesL_ (some 16) rfl rfl Try.func26 (by kernel_rfl) rfl #[.agg #[.int .i64 a0_0, .slice A0_1 l0_1.length c0_1]] rfl dz ?_; (with_reducible refine (laws_toBook.calls k a0_0 _ _ l0_1 t1139 t1140 _ ?side1 ?side2 A9.out).mono ?_); (case side1 => exact sz HR0_1.out HB.out); (case side2 => exact HC0_1.out); rintro e w20 ⟨v1141, rfl, ho0, hb⟩; refine ⟨_, rfl, ?_⟩; have n0_ := Aside0.mk (Kd.S_elder' (by (with_reducible repeat (first | apply Kd.S_alloc | apply Kd.S_drewN | apply Kd.S_drew)); exact HO1137.out) (Kd.S_base ho0) hb); have n1_ := Aside0.mk (Kd.S_lower (Kd.S_new' ho0 (Kd.S_lt (by (with_reducible repeat (first | apply Kd.S_alloc | apply Kd.S_drewN | apply Kd.S_drew)); exact HO1137.out))) (below_size (b1 GE1132.out HB.out))); have n2_ := Aside0.mk (blk_below (g := gb1132) (o := .cells #[.int .i64 a0_0, .slice A0_1 l0_1.length c0_1] 41 (0, 0)) (kz BK1132.out) hb); have n3_ := Aside0.mk (below_step (b1 GE1132.out HB.out) hb); clear HO1137; clear BK1132; clear HB; have HO1137 := n0_; have HO1142 := n1_; have BK1132 := n2_; have HB := n3_; clear n0_ n1_ n2_ n3_; (try clear hb); (try clear hb2); (try clear hk); (try clear hi); (try clear ho0)) | ((with_reducible refine gate_dst (N := 5) rfl ?_); refine box_event ?hg (N := 5) ?hd (cs := #[.int .i64 0, .slice none 0 0]) (t := 49) ?hr ?_; (case hd => rfl); (case hg => rfl); (case hr => first | (go_simp; done) | (go_simp; rfl)); intro gb1143 hg w21 hbox hb; have n0_ := Aside0.mk (Kd.S_below (by (with_reducible repeat (first | apply Kd.S_alloc | apply Kd.S_drewN | apply Kd.S_drew)); exact HO1137.out) hb); have n1_ := Aside0.mk (Kd.S_below (by (with_reducible repeat (first | apply Kd.S_alloc | apply Kd.S_drewN | apply Kd.S_drew)); exact HO1142.out) hb); have n2_ := Aside0.mk (blk_below (g := gb1132) (o := .cells #[.int .i64 a0_0, .slice A0_1 l0_1.length c0_1] 41 (0, 0)) (kz BK1132.out) hb); have n3_ := Aside0.mk (below_step (b1 GE1132.out HB.out) hb); have n4_ := Aside0.mk (hbox); have n5_ := Aside0.mk ((by rw [hg]; exact (below_size (b1 GE1132.out HB.out)) : w.heap.size ≤ gb1143)); have n6_ := Aside0.mk ((by rw [hg]; exact (below_size (b1 GE1132.out HB.out)) : w.heap.size ≤ gb1143)); have n7_ := Aside0.mk ((by rw [hg]; exact Nat.ne_of_lt (blk_lt (g := gb1132) (o := .cells #[.int .i64 a0_0, .slice A0_1 l0_1.length c0_1] 41 (0, 0)) (kz BK1132.out)) : gb1132 ≠ gb1143)); have n8_ := Aside0.mk ((by rw [hg]; exact Nat.ne_of_gt (blk_lt (g := gb1132) (o := .cells #[.int .i64 a0_0, .slice A0_1 l0_1.length c0_1] 41 (0, 0)) (kz BK1132.out)) : gb1143 ≠ gb1132)); clear HO1137; clear HO1142; clear BK1132; clear HB; have HO1137 := n0_; have HO1142 := n1_; have BK1132 := n2_; have HB := n3_; have BK1143 := n4_; have GW1143 := n5_; have GE1143 := n6_; have NB1132_1143 := n7_; have NB1143_1132 := n8_; clear n0_ n1_ n2_ n3_ n4_ n5_ n6_ n7_ n8_; clear hb hbox hg; have hnb22 := NB1143_1132.out; have hnc22 := NB1132_1143.out; have hcz23_0 := fz BK1143.out 0 (.int .i64 0); have hcz23_1 := fz BK1143.out 1 (.slice none 0 0); have hfz23_0 := blk_frozen BK1143.out 0; have hfz23_1 := blk_frozen BK1143.out 1; obtain ⟨Ao24, co24, eo24⟩ := Kd.S_slice HO1142.out; subst eo24) | ((with_reducible refine gate_callee (f := 56) rfl ?_); refine goesL_ (some 18) rfl rfl Try.func56 (by kernel_rfl) rfl #[.agg #[.int .i64 t1139, .slice Ao24 t1140.length co24]] rfl dz ?_; (with_reducible refine (impl_Dense.calls k t1139 _ _ t1140 t1144 _ ?side1 ?side2 A10.out).mono ?_); (case side1 => refine (Kd.S_reads' (e := 90) (base := w.heap.size) (ok := fun k_ => (True ∧ some k_ ≠ (.slice Ao17 t1135.length co17 : Value).ownBlock)) (n := t1140.length) (c := co24) ?_).2.2; exact (by (with_reducible repeat (first | apply Kd.S_alloc | apply Kd.S_drewN | apply Kd.S_drew)); exact (Kd.S_mono (Kd.S_far (p := ⟨gb1143, 1, none⟩) (Kd.S_far (p := ⟨gb1143, 0, none⟩) (Kd.S_types HO1142.out BK1143.out (by decide)) (fun _ hk => hk.2) (.int .i64 t1139)) (fun _ hk => hk.2) (.slice Ao24 t1140.length co24)) (fun _ h_ => h_.1)))); (case side2 => exact (Kd.S_reads' HO1142.out).2.1); rintro e w25 ⟨rfl, hb⟩; refine ⟨_, rfl, ?_⟩; have n0_ := Aside0.mk (Kd.S_below (by (with_reducible repeat (first | apply Kd.S_alloc | apply Kd.S_drewN | apply Kd.S_drew)); exact (Kd.S_mono (Kd.S_far (p := ⟨gb1143, 1, none⟩) (Kd.S_far (p := ⟨gb1143, 0, none⟩) (Kd.S_types HO1137.out BK1143.out (by decide)) (fun _ hk => hk.2) (.int .i64 t1139)) (fun _ hk => hk.2) (.slice Ao24 t1140.length co24)) (fun _ h_ => h_.1))) hb); have n1_ := Aside0.mk (Kd.S_below (by (with_reducible repeat (first | apply Kd.S_alloc | apply Kd.S_drewN | apply Kd.S_drew)); exact (Kd.S_mono (Kd.S_far (p := ⟨gb1143, 1, none⟩) (Kd.S_far (p := ⟨gb1143, 0, none⟩) (Kd.S_types HO1142.out BK1143.out (by decide)) (fun _ hk => hk.2) (.int .i64 t1139)) (fun _ hk => hk.2) (.slice Ao24 t1140.length co24)) (fun _ h_ => h_.1))) hb); have n2_ := Aside0.mk (blk_below (g := gb1132) (o := .cells #[.int .i64 a0_0, .slice A0_1 l0_1.length c0_1] 41 (0, 0)) (by (with_reducible repeat (first | refine blk_drewN ?_ _ | refine blk_drew ?_ | refine blk_alloc ?_ _)); refine blk_far ?_ NB1132_1143.out _; (with_reducible repeat (first | refine blk_drewN ?_ _ | refine blk_drew ?_ | refine blk_alloc ?_ _)); refine blk_far ?_ NB1132_1143.out _; (with_reducible repeat (first | refine blk_drewN ?_ _ | refine blk_drew ?_ | refine blk_alloc ?_ _)); exact BK1132.out) hb); have n3_ := Aside0.mk (blk_below (g := gb1143) (o := .cells #[.int .i64 t1139, .slice Ao24 t1140.length co24] 49 (0, 0)) (by (with_reducible repeat (first | refine blk_drewN ?_ _ | refine blk_drew ?_ | refine blk_alloc ?_ _)); refine blk_put (cs := #[.int .i64 t1139, .slice none 0 0]) ?_ 1 _ rfl; (with_reducible repeat (first | refine blk_drewN ?_ _ | refine blk_drew ?_ | refine blk_alloc ?_ _)); refine blk_put (cs := #[.int .i64 0, .slice none 0 0]) ?_ 0 _ rfl; (with_reducible repeat (first | refine blk_drewN ?_ _ | refine blk_drew ?_ | refine blk_alloc ?_ _)); exact BK1143.out) hb); have n4_ := Aside0.mk (below_step (b2 GE1132.out GE1143.out HB.out) hb); clear HO1137; clear HO1142; clear BK1132; clear BK1143; clear HB; have HO1137 := n0_; have HO1142 := n1_; have BK1132 := n2_; have BK1143 := n3_; have HB := n4_; clear n0_ n1_ n2_ n3_ n4_; (try clear hb); (try clear hb2); (try clear hk); (try clear hi)))
      go_ret; exact ⟨ez, b2 GE1132.out GE1143.out HB.out⟩
    · rw [if_neg c11] at H
      have c11b0 : (t1144 != t1138) = false := by simpa using c11
      (try (have c11b1 : decide (t1144 = t1138) = true := by simpa using c11))
      (try (have c11b2 : (t1144 == t1138) = true := by simpa using c11))
      clear c11; replace H := Option.bind_eq_some_iff.mp H; obtain ⟨⟨t1145, t1146⟩, A260, H⟩ := H; replace H : ((laws_eqBook.f k t1139 t1140 t1145 t1146).bind fun t1149 => (if t1149 = true then (some true) else (some false))) = some r := H; have A26 := Aside0.mk A260; clear A260; replace H := Option.bind_eq_some_iff.mp H; obtain ⟨t1149, A270, H⟩ := H; replace H : (if t1149 = true then (some true) else (some false)) = some r := H; have A27 := Aside0.mk A270; clear A270
      by_cases c28 : t1149 = true
      · subst c28
        replace H : (some true) = some r := (by rw [if_pos rfl] at H; exact H); obtain rfl := Option.some.inj H
        go_enter Try.func13, Try.ntmps13
        try go_wp2_with (first | ((with_reducible refine gate_dst (N := 1) rfl ?_); refine box_event ?hg (N := 1) ?hd (cs := #[.int .i64 a0_0, .slice A0_1 l0_1.length c0_1]) (t := 41) ?hr ?_; (case hd => rfl); (case hg => rfl); (case hr => first | (go_simp; done) | (go_simp; rfl)); intro gb1132 hg w29 hbox hb; have n0_ := Aside0.mk (below_step (bz HB.out) hb); have n1_ := Aside0.mk (hbox); have n2_ := Aside0.mk ((by rw [hg]; exact (below_size (bz HB.out)) : w.heap.size ≤ gb1132)); have n3_ := Aside0.mk ((by rw [hg]; exact (below_size (bz HB.out)) : w.heap.size ≤ gb1132)); clear HB; have HB := n0_; have BK1132 := n1_; have GW1132 := n2_; have GE1132 := n3_; clear n0_ n1_ n2_ n3_; clear hb hbox hg; have hcz30_0 := fz BK1132.out 0 (.int .i64 a0_0); have hcz30_1 := fz BK1132.out 1 (.slice A0_1 l0_1.length c0_1); have hfz30_0 := blk_frozen BK1132.out 0; have hfz30_1 := blk_frozen BK1132.out 1) | ((with_reducible refine gate_callee (f := 23) rfl ?_); refine goesL_ (some 9) rfl rfl Try.func23 (by kernel_rfl) rfl #[.agg #[.int .i64 a0_0, .slice A0_1 l0_1.length c0_1], .int .i64 1048576] rfl dz ?_; (with_reducible refine (laws_szBook.calls k a0_0 _ _ l0_1 1048576 t1133 _ ?side1 ?side2 A2.out).mono ?_); (case side1 => exact sz HR0_1.out HB.out); (case side2 => exact HC0_1.out); rintro e w31 ⟨rfl, hb⟩; refine ⟨_, rfl, ?_⟩; have n0_ := Aside0.mk (blk_below (g := gb1132) (o := .cells #[.int .i64 a0_0, .slice A0_1 l0_1.length c0_1] 41 (0, 0)) (kz BK1132.out) hb); have n1_ := Aside0.mk (below_step (b1 GE1132.out HB.out) hb); clear BK1132; clear HB; have BK1132 := n0_; have HB := n1_; clear n0_ n1_; (try clear hb); (try clear hb2); (try clear hk); (try clear hi); have hcz32_0 := fz BK1132.out 0 (.int .i64 a0_0); have hcz32_1 := fz BK1132.out 1 (.slice A0_1 l0_1.length c0_1); have hfz32_0 := blk_frozen BK1132.out 0; have hfz32_1 := blk_frozen BK1132.out 1) | ((with_reducible refine gate_callee (f := 26) rfl ?_); refine goesL_ (some 13) rfl rfl Try.func26 (by kernel_rfl) rfl #[.agg #[.int .i64 a0_0, .slice A0_1 l0_1.length c0_1]] rfl dz ?_; (with_reducible refine (laws_toBook.calls k a0_0 _ _ l0_1 t1134 t1135 _ ?side1 ?side2 A7.out).mono ?_); (case side1 => exact sz HR0_1.out HB.out); (case side2 => exact HC0_1.out); rintro e w33 ⟨v1136, rfl, ho0, hb⟩; refine ⟨_, rfl, ?_⟩; have n0_ := Aside0.mk (Kd.S_lower ho0 (below_size (b1 GE1132.out HB.out))); have n1_ := Aside0.mk (blk_below (g := gb1132) (o := .cells #[.int .i64 a0_0, .slice A0_1 l0_1.length c0_1] 41 (0, 0)) (kz BK1132.out) hb); have n2_ := Aside0.mk (below_step (b1 GE1132.out HB.out) hb); clear BK1132; clear HB; have HO1137 := n0_; have BK1132 := n1_; have HB := n2_; clear n0_ n1_ n2_; (try clear hb); (try clear hb2); (try clear hk); (try clear hi); (try clear ho0); obtain ⟨Ao34, co34, eo34⟩ := Kd.S_slice HO1137.out; subst eo34) | ((with_reducible refine gate_callee (f := 55) rfl ?_); refine goesL_ (some 14) rfl rfl Try.func55 (by kernel_rfl) rfl #[.agg #[.int .i64 t1134, .slice Ao34 t1135.length co34]] rfl dz ?_; (with_reducible refine (spec_Dense.calls k t1134 _ _ t1135 t1138 _ ?side1 ?side2 A8.out).mono ?_); (case side1 => repeat (first | exact (Kd.S_reads' HO1137.out).2.2 | (with_reducible refine Kd.C_alloc ?_ _) | (with_reducible refine Kd.C_drewN ?_ _) | (with_reducible refine Kd.C_drew ?_))); (case side2 => exact (Kd.S_reads' HO1137.out).2.1); rintro e w35 ⟨rfl, hb⟩; refine ⟨_, rfl, ?_⟩; have n0_ := Aside0.mk (Kd.S_below (by (with_reducible repeat (first | apply Kd.S_alloc | apply Kd.S_drewN | apply Kd.S_drew)); exact HO1137.out) hb); have n1_ := Aside0.mk (blk_below (g := gb1132) (o := .cells #[.int .i64 a0_0, .slice A0_1 l0_1.length c0_1] 41 (0, 0)) (kz BK1132.out) hb); have n2_ := Aside0.mk (below_step (b1 GE1132.out HB.out) hb); clear HO1137; clear BK1132; clear HB; have HO1137 := n0_; have BK1132 := n1_; have HB := n2_; clear n0_ n1_ n2_; (try clear hb); (try clear hb2); (try clear hk); (try clear hi); have hcz36_0 := fz BK1132.out 0 (.int .i64 a0_0); have hcz36_1 := fz BK1132.out 1 (.slice A0_1 l0_1.length c0_1); have hfz36_0 := blk_frozen BK1132.out 0; have hfz36_1 := blk_frozen BK1132.out 1) | ((with_reducible refine gate_callee (f := 26) rfl ?_); refine goesL_ (some 16) rfl rfl Try.func26 (by kernel_rfl) rfl #[.agg #[.int .i64 a0_0, .slice A0_1 l0_1.length c0_1]] rfl dz ?_; (with_reducible refine (laws_toBook.calls k a0_0 _ _ l0_1 t1139 t1140 _ ?side1 ?side2 A9.out).mono ?_); (case side1 => exact sz HR0_1.out HB.out); (case side2 => exact HC0_1.out); rintro e w37 ⟨v1141, rfl, ho0, hb⟩; refine ⟨_, rfl, ?_⟩; have n0_ := Aside0.mk (Kd.S_elder' (by (with_reducible repeat (first | apply Kd.S_alloc | apply Kd.S_drewN | apply Kd.S_drew)); exact HO1137.out) (Kd.S_base ho0) hb); have n1_ := Aside0.mk (Kd.S_lower (Kd.S_new' ho0 (Kd.S_lt (by (with_reducible repeat (first | apply Kd.S_alloc | apply Kd.S_drewN | apply Kd.S_drew)); exact HO1137.out))) (below_size (b1 GE1132.out HB.out))); have n2_ := Aside0.mk (blk_below (g := gb1132) (o := .cells #[.int .i64 a0_0, .slice A0_1 l0_1.length c0_1] 41 (0, 0)) (kz BK1132.out) hb); have n3_ := Aside0.mk (below_step (b1 GE1132.out HB.out) hb); clear HO1137; clear BK1132; clear HB; have HO1137 := n0_; have HO1142 := n1_; have BK1132 := n2_; have HB := n3_; clear n0_ n1_ n2_ n3_; (try clear hb); (try clear hb2); (try clear hk); (try clear hi); (try clear ho0)) | ((with_reducible refine gate_dst (N := 5) rfl ?_); refine box_event ?hg (N := 5) ?hd (cs := #[.int .i64 0, .slice none 0 0]) (t := 49) ?hr ?_; (case hd => rfl); (case hg => rfl); (case hr => first | (go_simp; done) | (go_simp; rfl)); intro gb1143 hg w38 hbox hb; have n0_ := Aside0.mk (Kd.S_below (by (with_reducible repeat (first | apply Kd.S_alloc | apply Kd.S_drewN | apply Kd.S_drew)); exact HO1137.out) hb); have n1_ := Aside0.mk (Kd.S_below (by (with_reducible repeat (first | apply Kd.S_alloc | apply Kd.S_drewN | apply Kd.S_drew)); exact HO1142.out) hb); have n2_ := Aside0.mk (blk_below (g := gb1132) (o := .cells #[.int .i64 a0_0, .slice A0_1 l0_1.length c0_1] 41 (0, 0)) (kz BK1132.out) hb); have n3_ := Aside0.mk (below_step (b1 GE1132.out HB.out) hb); have n4_ := Aside0.mk (hbox); have n5_ := Aside0.mk ((by rw [hg]; exact (below_size (b1 GE1132.out HB.out)) : w.heap.size ≤ gb1143)); have n6_ := Aside0.mk ((by rw [hg]; exact (below_size (b1 GE1132.out HB.out)) : w.heap.size ≤ gb1143)); have n7_ := Aside0.mk ((by rw [hg]; exact Nat.ne_of_lt (blk_lt (g := gb1132) (o := .cells #[.int .i64 a0_0, .slice A0_1 l0_1.length c0_1] 41 (0, 0)) (kz BK1132.out)) : gb1132 ≠ gb1143)); have n8_ := Aside0.mk ((by rw [hg]; exact Nat.ne_of_gt (blk_lt (g := gb1132) (o := .cells #[.int .i64 a0_0, .slice A0_1 l0_1.length c0_1] 41 (0, 0)) (kz BK1132.out)) : gb1143 ≠ gb1132)); clear HO1137; clear HO1142; clear BK1132; clear HB; have HO1137 := n0_; have HO1142 := n1_; have BK1132 := n2_; have HB := n3_; have BK1143 := n4_; have GW1143 := n5_; have GE1143 := n6_; have NB1132_1143 := n7_; have NB1143_1132 := n8_; clear n0_ n1_ n2_ n3_ n4_ n5_ n6_ n7_ n8_; clear hb hbox hg; have hnb39 := NB1143_1132.out; have hnc39 := NB1132_1143.out; have hcz40_0 := fz BK1143.out 0 (.int .i64 0); have hcz40_1 := fz BK1143.out 1 (.slice none 0 0); have hfz40_0 := blk_frozen BK1143.out 0; have hfz40_1 := blk_frozen BK1143.out 1; obtain ⟨Ao41, co41, eo41⟩ := Kd.S_slice HO1142.out; subst eo41) | ((with_reducible refine gate_callee (f := 56) rfl ?_); refine goesL_ (some 18) rfl rfl Try.func56 (by kernel_rfl) rfl #[.agg #[.int .i64 t1139, .slice Ao41 t1140.length co41]] rfl dz ?_; (with_reducible refine (impl_Dense.calls k t1139 _ _ t1140 t1144 _ ?side1 ?side2 A10.out).mono ?_); (case side1 => refine (Kd.S_reads' (e := 90) (base := w.heap.size) (ok := fun k_ => (True ∧ some k_ ≠ (.slice Ao34 t1135.length co34 : Value).ownBlock)) (n := t1140.length) (c := co41) ?_).2.2; exact (by (with_reducible repeat (first | apply Kd.S_alloc | apply Kd.S_drewN | apply Kd.S_drew)); exact (Kd.S_mono (Kd.S_far (p := ⟨gb1143, 1, none⟩) (Kd.S_far (p := ⟨gb1143, 0, none⟩) (Kd.S_types HO1142.out BK1143.out (by decide)) (fun _ hk => hk.2) (.int .i64 t1139)) (fun _ hk => hk.2) (.slice Ao41 t1140.length co41)) (fun _ h_ => h_.1)))); (case side2 => exact (Kd.S_reads' HO1142.out).2.1); rintro e w42 ⟨rfl, hb⟩; refine ⟨_, rfl, ?_⟩; have n0_ := Aside0.mk (Kd.S_below (by (with_reducible repeat (first | apply Kd.S_alloc | apply Kd.S_drewN | apply Kd.S_drew)); exact (Kd.S_mono (Kd.S_far (p := ⟨gb1143, 1, none⟩) (Kd.S_far (p := ⟨gb1143, 0, none⟩) (Kd.S_types HO1137.out BK1143.out (by decide)) (fun _ hk => hk.2) (.int .i64 t1139)) (fun _ hk => hk.2) (.slice Ao41 t1140.length co41)) (fun _ h_ => h_.1))) hb); have n1_ := Aside0.mk (Kd.S_below (by (with_reducible repeat (first | apply Kd.S_alloc | apply Kd.S_drewN | apply Kd.S_drew)); exact (Kd.S_mono (Kd.S_far (p := ⟨gb1143, 1, none⟩) (Kd.S_far (p := ⟨gb1143, 0, none⟩) (Kd.S_types HO1142.out BK1143.out (by decide)) (fun _ hk => hk.2) (.int .i64 t1139)) (fun _ hk => hk.2) (.slice Ao41 t1140.length co41)) (fun _ h_ => h_.1))) hb); have n2_ := Aside0.mk (blk_below (g := gb1132) (o := .cells #[.int .i64 a0_0, .slice A0_1 l0_1.length c0_1] 41 (0, 0)) (by (with_reducible repeat (first | refine blk_drewN ?_ _ | refine blk_drew ?_ | refine blk_alloc ?_ _)); refine blk_far ?_ NB1132_1143.out _; (with_reducible repeat (first | refine blk_drewN ?_ _ | refine blk_drew ?_ | refine blk_alloc ?_ _)); refine blk_far ?_ NB1132_1143.out _; (with_reducible repeat (first | refine blk_drewN ?_ _ | refine blk_drew ?_ | refine blk_alloc ?_ _)); exact BK1132.out) hb); have n3_ := Aside0.mk (blk_below (g := gb1143) (o := .cells #[.int .i64 t1139, .slice Ao41 t1140.length co41] 49 (0, 0)) (by (with_reducible repeat (first | refine blk_drewN ?_ _ | refine blk_drew ?_ | refine blk_alloc ?_ _)); refine blk_put (cs := #[.int .i64 t1139, .slice none 0 0]) ?_ 1 _ rfl; (with_reducible repeat (first | refine blk_drewN ?_ _ | refine blk_drew ?_ | refine blk_alloc ?_ _)); refine blk_put (cs := #[.int .i64 0, .slice none 0 0]) ?_ 0 _ rfl; (with_reducible repeat (first | refine blk_drewN ?_ _ | refine blk_drew ?_ | refine blk_alloc ?_ _)); exact BK1143.out) hb); have n4_ := Aside0.mk (below_step (b2 GE1132.out GE1143.out HB.out) hb); clear HO1137; clear HO1142; clear BK1132; clear BK1143; clear HB; have HO1137 := n0_; have HO1142 := n1_; have BK1132 := n2_; have BK1143 := n3_; have HB := n4_; clear n0_ n1_ n2_ n3_ n4_; (try clear hb); (try clear hb2); (try clear hk); (try clear hi)))
        have n0_ := Aside0.mk (Kd.S_drew HO1137.out); have n1_ := Aside0.mk (Kd.S_drew HO1142.out); have n2_ := Aside0.mk (blk_drew BK1132.out); have n3_ := Aside0.mk (blk_drew BK1143.out); have n4_ := Aside0.mk (below_drew1 HB.out); clear HO1137; clear HO1142; clear BK1132; clear BK1143; clear HB; have HO1137 := n0_; have HO1142 := n1_; have BK1132 := n2_; have BK1143 := n3_; have HB := n4_; clear n0_ n1_ n2_ n3_ n4_; refine start_ (n := 5) (S := fun w' => w'.cell? ⟨gb1143, 0, none⟩ = some (.int .i64 t1139) ∧ w'.cell? ⟨gb1143, 1, none⟩ = some (.slice Ao41 t1140.length co41) ∧ w'.cell? ⟨gb1132, 0, none⟩ = some (.int .i64 a0_0) ∧ w'.cell? ⟨gb1132, 1, none⟩ = some (.slice A0_1 l0_1.length c0_1)) (ds := []) #[false, false, false, false, false] (by kernel_rfl) rfl rfl ⟨(blk_cell BK1143.out 0).trans rfl, (blk_cell BK1143.out 1).trans rfl, (blk_cell BK1132.out 0).trans rfl, (blk_cell BK1132.out 1).trans rfl⟩ (fun hHeld => ?_)
        generalize w42.drew = w43 at HO1137 HO1142 BK1132 BK1143 HB hHeld ⊢
        refine take_ (i := 0) (N := some 22) (v := ?_) (a' := ?_) #[true, false, false, false, false] rfl rfl (by kernel_rfl) (fun _ _ _ h => h) (Or.inl ⟨by rfl, ?_⟩) hHeld ?_ ?_; rotate_left
        · rintro w' ⟨s0, s1, s2, s3⟩
          go_simp
          with_reducible rfl
        rotate_left
        · exact pz
        refine take_ (i := 1) (N := some 23) (v := ?_) (a' := ?_) #[true, true, false, false, false] rfl rfl (by kernel_rfl) (fun _ _ _ h => h) (Or.inl ⟨by rfl, ?_⟩) hHeld ?_ ?_; rotate_left
        · rintro w' ⟨s0, s1, s2, s3⟩
          go_simp
          with_reducible rfl
        rotate_left
        · exact pz
        refine one_ (i := 2) (N := some 24) #[true, true, true, false, false] rfl rfl (by kernel_rfl) (by decide) (fun K hK => ?_); refine goes_ Try.func26 (by kernel_rfl) rfl #[.agg #[.int .i64 a0_0, .slice A0_1 l0_1.length c0_1]] (by rfl) rfl rfl dz ?_
        with_reducible refine (laws_toBook.calls k a0_0 _ _ l0_1 t1145 t1146 _ ?side1 ?side2 A26.out).mono ?_
        (case side1 => exact sz HR0_1.out HB.out)
        (case side2 => exact HC0_1.out)
        rintro e w44 ⟨v1147, rfl, ho0, hb⟩
        refine ⟨_, rfl, ?_⟩; have n0_ := Aside0.mk (Kd.S_elder' (by (with_reducible repeat (first | apply Kd.S_alloc | apply Kd.S_drewN | apply Kd.S_drew)); exact HO1137.out) (Kd.S_base ho0) hb); have n1_ := Aside0.mk (Kd.S_elder' (by (with_reducible repeat (first | apply Kd.S_alloc | apply Kd.S_drewN | apply Kd.S_drew)); exact HO1142.out) (Kd.S_base ho0) hb); have n2_ := Aside0.mk (Kd.S_lower (Kd.S_new' (Kd.S_new' ho0 (Kd.S_lt (by (with_reducible repeat (first | apply Kd.S_alloc | apply Kd.S_drewN | apply Kd.S_drew)); exact HO1137.out))) (Kd.S_lt (by (with_reducible repeat (first | apply Kd.S_alloc | apply Kd.S_drewN | apply Kd.S_drew)); exact HO1142.out))) (below_size (b2 GE1132.out GE1143.out HB.out))); have n3_ := Aside0.mk (blk_below (g := gb1132) (o := .cells #[.int .i64 a0_0, .slice A0_1 l0_1.length c0_1] 41 (0, 0)) (kz BK1132.out) hb); have n4_ := Aside0.mk (blk_below (g := gb1143) (o := .cells #[.int .i64 t1139, .slice Ao41 t1140.length co41] 49 (0, 0)) (kz BK1143.out) hb); have n5_ := Aside0.mk (below_step (b2 GE1132.out GE1143.out HB.out) hb); clear HO1137; clear HO1142; clear BK1132; clear BK1143; clear HB; have HO1137 := n0_; have HO1142 := n1_; have HO1148 := n2_; have BK1132 := n3_; have BK1143 := n4_; have HB := n5_; clear n0_ n1_ n2_ n3_ n4_ n5_
        (try clear hb)
        (try clear hb2)
        (try clear hk)
        (try clear hi)
        (try clear ho0)
        obtain ⟨Ao45, co45, eo45⟩ := Kd.S_slice HO1148.out
        (first | subst eo45 | (injection eo45 with f1_ f2_ f3_; have f4_ := f1_.symm; have f5_ := f3_.symm; clear f1_ f2_ f3_; subst f4_; subst f5_))
        refine hK.out _ _ ⟨(blk_cell BK1143.out 0).trans rfl, (blk_cell BK1143.out 1).trans rfl, (blk_cell BK1132.out 0).trans rfl, (blk_cell BK1132.out 1).trans rfl⟩ (fun hHeld => ?_); clear hK K; refine norm_ (a' := ?_) ?_ ?_; rotate_left
        · show Act.put _ (some 24) _ = _
          simp only [Act.put, List.setIfInBounds_toArray, List.set_cons_zero, List.set_cons_succ, i64_w, i32_w]
          rfl
        refine one_ (i := 3) (N := some 25) #[true, true, true, true, false] rfl rfl (by kernel_rfl) (by decide) (fun K hK => ?_); refine goes_ Try.func29 (by kernel_rfl) rfl #[.agg #[.int .i64 t1139, .slice Ao41 t1140.length co41], .agg #[.int .i64 t1145, .slice Ao45 t1146.length co45]] (by rfl) rfl rfl dz ?_
        with_reducible refine (laws_eqBook.calls k t1139 _ _ t1140 t1145 _ _ t1146 true _ ?side1 ?side2 ?side3 ?side4 A27.out).mono ?_
        (case side1 => repeat (first | exact (Kd.S_reads' HO1142.out).2.2 | (with_reducible refine Kd.C_alloc ?_ _) | (with_reducible refine Kd.C_drewN ?_ _) | (with_reducible refine Kd.C_drew ?_)))
        (case side2 => exact (Kd.S_reads' HO1142.out).2.1)
        (case side3 => repeat (first | exact (Kd.S_reads' HO1148.out).2.2 | (with_reducible refine Kd.C_alloc ?_ _) | (with_reducible refine Kd.C_drewN ?_ _) | (with_reducible refine Kd.C_drew ?_)))
        (case side4 => exact (Kd.S_reads' HO1148.out).2.1)
        rintro e w46 ⟨rfl, hb⟩
        refine ⟨_, rfl, ?_⟩; have n0_ := Aside0.mk (Kd.S_below (by (with_reducible repeat (first | apply Kd.S_alloc | apply Kd.S_drewN | apply Kd.S_drew)); exact HO1137.out) hb); have n1_ := Aside0.mk (Kd.S_below (by (with_reducible repeat (first | apply Kd.S_alloc | apply Kd.S_drewN | apply Kd.S_drew)); exact HO1142.out) hb); have n2_ := Aside0.mk (Kd.S_below (by (with_reducible repeat (first | apply Kd.S_alloc | apply Kd.S_drewN | apply Kd.S_drew)); exact HO1148.out) hb); have n3_ := Aside0.mk (blk_below (g := gb1132) (o := .cells #[.int .i64 a0_0, .slice A0_1 l0_1.length c0_1] 41 (0, 0)) (kz BK1132.out) hb); have n4_ := Aside0.mk (blk_below (g := gb1143) (o := .cells #[.int .i64 t1139, .slice Ao41 t1140.length co41] 49 (0, 0)) (kz BK1143.out) hb); have n5_ := Aside0.mk (below_step (b2 GE1132.out GE1143.out HB.out) hb); clear HO1137; clear HO1142; clear HO1148; clear BK1132; clear BK1143; clear HB; have HO1137 := n0_; have HO1142 := n1_; have HO1148 := n2_; have BK1132 := n3_; have BK1143 := n4_; have HB := n5_; clear n0_ n1_ n2_ n3_ n4_ n5_
        (try clear hb)
        (try clear hb2)
        (try clear hk)
        (try clear hi)
        refine hK.out _ _ ⟨(blk_cell BK1143.out 0).trans rfl, (blk_cell BK1143.out 1).trans rfl, (blk_cell BK1132.out 0).trans rfl, (blk_cell BK1132.out 1).trans rfl⟩ (fun hHeld => ?_); clear hK K; refine norm_ (a' := ?_) ?_ ?_; rotate_left
        · show Act.put _ (some 25) _ = _
          simp only [Act.put, List.setIfInBounds_toArray, List.set_cons_zero, List.set_cons_succ, i64_w, i32_w]
          rfl
        refine pure_ (i := 4) (N := some 26) (v := ?_) (a' := ?_) #[true, true, true, true, true] rfl rfl (by kernel_rfl) (fun _ _ _ h => h) (Or.inl ⟨by rfl, ?_⟩) ?_ ?_; rotate_left
        · intro w'
          go_simp
          with_reducible rfl
        rotate_left
        · exact pz
        refine done_ (by kernel_rfl) ?_
        try go_wp2
        go_ret; exact ⟨ez, b2 GE1132.out GE1143.out HB.out⟩
      · replace c28 := Bool.eq_false_iff.mpr c28
        subst c28; replace H : (some false) = some r := (by rw [if_neg (show ¬ (false = true) by decide)] at H; exact H); obtain rfl := Option.some.inj H
        go_enter Try.func13, Try.ntmps13
        try go_wp2_with (first | ((with_reducible refine gate_dst (N := 1) rfl ?_); refine box_event ?hg (N := 1) ?hd (cs := #[.int .i64 a0_0, .slice A0_1 l0_1.length c0_1]) (t := 41) ?hr ?_; (case hd => rfl); (case hg => rfl); (case hr => first | (go_simp; done) | (go_simp; rfl)); intro gb1132 hg w47 hbox hb; have n0_ := Aside0.mk (below_step (bz HB.out) hb); have n1_ := Aside0.mk (hbox); have n2_ := Aside0.mk ((by rw [hg]; exact (below_size (bz HB.out)) : w.heap.size ≤ gb1132)); have n3_ := Aside0.mk ((by rw [hg]; exact (below_size (bz HB.out)) : w.heap.size ≤ gb1132)); clear HB; have HB := n0_; have BK1132 := n1_; have GW1132 := n2_; have GE1132 := n3_; clear n0_ n1_ n2_ n3_; clear hb hbox hg; have hcz48_0 := fz BK1132.out 0 (.int .i64 a0_0); have hcz48_1 := fz BK1132.out 1 (.slice A0_1 l0_1.length c0_1); have hfz48_0 := blk_frozen BK1132.out 0; have hfz48_1 := blk_frozen BK1132.out 1) | ((with_reducible refine gate_callee (f := 23) rfl ?_); refine goesL_ (some 9) rfl rfl Try.func23 (by kernel_rfl) rfl #[.agg #[.int .i64 a0_0, .slice A0_1 l0_1.length c0_1], .int .i64 1048576] rfl dz ?_; (with_reducible refine (laws_szBook.calls k a0_0 _ _ l0_1 1048576 t1133 _ ?side1 ?side2 A2.out).mono ?_); (case side1 => exact sz HR0_1.out HB.out); (case side2 => exact HC0_1.out); rintro e w49 ⟨rfl, hb⟩; refine ⟨_, rfl, ?_⟩; have n0_ := Aside0.mk (blk_below (g := gb1132) (o := .cells #[.int .i64 a0_0, .slice A0_1 l0_1.length c0_1] 41 (0, 0)) (kz BK1132.out) hb); have n1_ := Aside0.mk (below_step (b1 GE1132.out HB.out) hb); clear BK1132; clear HB; have BK1132 := n0_; have HB := n1_; clear n0_ n1_; (try clear hb); (try clear hb2); (try clear hk); (try clear hi); have hcz50_0 := fz BK1132.out 0 (.int .i64 a0_0); have hcz50_1 := fz BK1132.out 1 (.slice A0_1 l0_1.length c0_1); have hfz50_0 := blk_frozen BK1132.out 0; have hfz50_1 := blk_frozen BK1132.out 1) | ((with_reducible refine gate_callee (f := 26) rfl ?_); refine goesL_ (some 13) rfl rfl Try.func26 (by kernel_rfl) rfl #[.agg #[.int .i64 a0_0, .slice A0_1 l0_1.length c0_1]] rfl dz ?_; (with_reducible refine (laws_toBook.calls k a0_0 _ _ l0_1 t1134 t1135 _ ?side1 ?side2 A7.out).mono ?_); (case side1 => exact sz HR0_1.out HB.out); (case side2 => exact HC0_1.out); rintro e w51 ⟨v1136, rfl, ho0, hb⟩; refine ⟨_, rfl, ?_⟩; have n0_ := Aside0.mk (Kd.S_lower ho0 (below_size (b1 GE1132.out HB.out))); have n1_ := Aside0.mk (blk_below (g := gb1132) (o := .cells #[.int .i64 a0_0, .slice A0_1 l0_1.length c0_1] 41 (0, 0)) (kz BK1132.out) hb); have n2_ := Aside0.mk (below_step (b1 GE1132.out HB.out) hb); clear BK1132; clear HB; have HO1137 := n0_; have BK1132 := n1_; have HB := n2_; clear n0_ n1_ n2_; (try clear hb); (try clear hb2); (try clear hk); (try clear hi); (try clear ho0); obtain ⟨Ao52, co52, eo52⟩ := Kd.S_slice HO1137.out; subst eo52) | ((with_reducible refine gate_callee (f := 55) rfl ?_); refine goesL_ (some 14) rfl rfl Try.func55 (by kernel_rfl) rfl #[.agg #[.int .i64 t1134, .slice Ao52 t1135.length co52]] rfl dz ?_; (with_reducible refine (spec_Dense.calls k t1134 _ _ t1135 t1138 _ ?side1 ?side2 A8.out).mono ?_); (case side1 => repeat (first | exact (Kd.S_reads' HO1137.out).2.2 | (with_reducible refine Kd.C_alloc ?_ _) | (with_reducible refine Kd.C_drewN ?_ _) | (with_reducible refine Kd.C_drew ?_))); (case side2 => exact (Kd.S_reads' HO1137.out).2.1); rintro e w53 ⟨rfl, hb⟩; refine ⟨_, rfl, ?_⟩; have n0_ := Aside0.mk (Kd.S_below (by (with_reducible repeat (first | apply Kd.S_alloc | apply Kd.S_drewN | apply Kd.S_drew)); exact HO1137.out) hb); have n1_ := Aside0.mk (blk_below (g := gb1132) (o := .cells #[.int .i64 a0_0, .slice A0_1 l0_1.length c0_1] 41 (0, 0)) (kz BK1132.out) hb); have n2_ := Aside0.mk (below_step (b1 GE1132.out HB.out) hb); clear HO1137; clear BK1132; clear HB; have HO1137 := n0_; have BK1132 := n1_; have HB := n2_; clear n0_ n1_ n2_; (try clear hb); (try clear hb2); (try clear hk); (try clear hi); have hcz54_0 := fz BK1132.out 0 (.int .i64 a0_0); have hcz54_1 := fz BK1132.out 1 (.slice A0_1 l0_1.length c0_1); have hfz54_0 := blk_frozen BK1132.out 0; have hfz54_1 := blk_frozen BK1132.out 1) | ((with_reducible refine gate_callee (f := 26) rfl ?_); refine goesL_ (some 16) rfl rfl Try.func26 (by kernel_rfl) rfl #[.agg #[.int .i64 a0_0, .slice A0_1 l0_1.length c0_1]] rfl dz ?_; (with_reducible refine (laws_toBook.calls k a0_0 _ _ l0_1 t1139 t1140 _ ?side1 ?side2 A9.out).mono ?_); (case side1 => exact sz HR0_1.out HB.out); (case side2 => exact HC0_1.out); rintro e w55 ⟨v1141, rfl, ho0, hb⟩; refine ⟨_, rfl, ?_⟩; have n0_ := Aside0.mk (Kd.S_elder' (by (with_reducible repeat (first | apply Kd.S_alloc | apply Kd.S_drewN | apply Kd.S_drew)); exact HO1137.out) (Kd.S_base ho0) hb); have n1_ := Aside0.mk (Kd.S_lower (Kd.S_new' ho0 (Kd.S_lt (by (with_reducible repeat (first | apply Kd.S_alloc | apply Kd.S_drewN | apply Kd.S_drew)); exact HO1137.out))) (below_size (b1 GE1132.out HB.out))); have n2_ := Aside0.mk (blk_below (g := gb1132) (o := .cells #[.int .i64 a0_0, .slice A0_1 l0_1.length c0_1] 41 (0, 0)) (kz BK1132.out) hb); have n3_ := Aside0.mk (below_step (b1 GE1132.out HB.out) hb); clear HO1137; clear BK1132; clear HB; have HO1137 := n0_; have HO1142 := n1_; have BK1132 := n2_; have HB := n3_; clear n0_ n1_ n2_ n3_; (try clear hb); (try clear hb2); (try clear hk); (try clear hi); (try clear ho0)) | ((with_reducible refine gate_dst (N := 5) rfl ?_); refine box_event ?hg (N := 5) ?hd (cs := #[.int .i64 0, .slice none 0 0]) (t := 49) ?hr ?_; (case hd => rfl); (case hg => rfl); (case hr => first | (go_simp; done) | (go_simp; rfl)); intro gb1143 hg w56 hbox hb; have n0_ := Aside0.mk (Kd.S_below (by (with_reducible repeat (first | apply Kd.S_alloc | apply Kd.S_drewN | apply Kd.S_drew)); exact HO1137.out) hb); have n1_ := Aside0.mk (Kd.S_below (by (with_reducible repeat (first | apply Kd.S_alloc | apply Kd.S_drewN | apply Kd.S_drew)); exact HO1142.out) hb); have n2_ := Aside0.mk (blk_below (g := gb1132) (o := .cells #[.int .i64 a0_0, .slice A0_1 l0_1.length c0_1] 41 (0, 0)) (kz BK1132.out) hb); have n3_ := Aside0.mk (below_step (b1 GE1132.out HB.out) hb); have n4_ := Aside0.mk (hbox); have n5_ := Aside0.mk ((by rw [hg]; exact (below_size (b1 GE1132.out HB.out)) : w.heap.size ≤ gb1143)); have n6_ := Aside0.mk ((by rw [hg]; exact (below_size (b1 GE1132.out HB.out)) : w.heap.size ≤ gb1143)); have n7_ := Aside0.mk ((by rw [hg]; exact Nat.ne_of_lt (blk_lt (g := gb1132) (o := .cells #[.int .i64 a0_0, .slice A0_1 l0_1.length c0_1] 41 (0, 0)) (kz BK1132.out)) : gb1132 ≠ gb1143)); have n8_ := Aside0.mk ((by rw [hg]; exact Nat.ne_of_gt (blk_lt (g := gb1132) (o := .cells #[.int .i64 a0_0, .slice A0_1 l0_1.length c0_1] 41 (0, 0)) (kz BK1132.out)) : gb1143 ≠ gb1132)); clear HO1137; clear HO1142; clear BK1132; clear HB; have HO1137 := n0_; have HO1142 := n1_; have BK1132 := n2_; have HB := n3_; have BK1143 := n4_; have GW1143 := n5_; have GE1143 := n6_; have NB1132_1143 := n7_; have NB1143_1132 := n8_; clear n0_ n1_ n2_ n3_ n4_ n5_ n6_ n7_ n8_; clear hb hbox hg; have hnb57 := NB1143_1132.out; have hnc57 := NB1132_1143.out; have hcz58_0 := fz BK1143.out 0 (.int .i64 0); have hcz58_1 := fz BK1143.out 1 (.slice none 0 0); have hfz58_0 := blk_frozen BK1143.out 0; have hfz58_1 := blk_frozen BK1143.out 1; obtain ⟨Ao59, co59, eo59⟩ := Kd.S_slice HO1142.out; subst eo59) | ((with_reducible refine gate_callee (f := 56) rfl ?_); refine goesL_ (some 18) rfl rfl Try.func56 (by kernel_rfl) rfl #[.agg #[.int .i64 t1139, .slice Ao59 t1140.length co59]] rfl dz ?_; (with_reducible refine (impl_Dense.calls k t1139 _ _ t1140 t1144 _ ?side1 ?side2 A10.out).mono ?_); (case side1 => refine (Kd.S_reads' (e := 90) (base := w.heap.size) (ok := fun k_ => (True ∧ some k_ ≠ (.slice Ao52 t1135.length co52 : Value).ownBlock)) (n := t1140.length) (c := co59) ?_).2.2; exact (by (with_reducible repeat (first | apply Kd.S_alloc | apply Kd.S_drewN | apply Kd.S_drew)); exact (Kd.S_mono (Kd.S_far (p := ⟨gb1143, 1, none⟩) (Kd.S_far (p := ⟨gb1143, 0, none⟩) (Kd.S_types HO1142.out BK1143.out (by decide)) (fun _ hk => hk.2) (.int .i64 t1139)) (fun _ hk => hk.2) (.slice Ao59 t1140.length co59)) (fun _ h_ => h_.1)))); (case side2 => exact (Kd.S_reads' HO1142.out).2.1); rintro e w60 ⟨rfl, hb⟩; refine ⟨_, rfl, ?_⟩; have n0_ := Aside0.mk (Kd.S_below (by (with_reducible repeat (first | apply Kd.S_alloc | apply Kd.S_drewN | apply Kd.S_drew)); exact (Kd.S_mono (Kd.S_far (p := ⟨gb1143, 1, none⟩) (Kd.S_far (p := ⟨gb1143, 0, none⟩) (Kd.S_types HO1137.out BK1143.out (by decide)) (fun _ hk => hk.2) (.int .i64 t1139)) (fun _ hk => hk.2) (.slice Ao59 t1140.length co59)) (fun _ h_ => h_.1))) hb); have n1_ := Aside0.mk (Kd.S_below (by (with_reducible repeat (first | apply Kd.S_alloc | apply Kd.S_drewN | apply Kd.S_drew)); exact (Kd.S_mono (Kd.S_far (p := ⟨gb1143, 1, none⟩) (Kd.S_far (p := ⟨gb1143, 0, none⟩) (Kd.S_types HO1142.out BK1143.out (by decide)) (fun _ hk => hk.2) (.int .i64 t1139)) (fun _ hk => hk.2) (.slice Ao59 t1140.length co59)) (fun _ h_ => h_.1))) hb); have n2_ := Aside0.mk (blk_below (g := gb1132) (o := .cells #[.int .i64 a0_0, .slice A0_1 l0_1.length c0_1] 41 (0, 0)) (by (with_reducible repeat (first | refine blk_drewN ?_ _ | refine blk_drew ?_ | refine blk_alloc ?_ _)); refine blk_far ?_ NB1132_1143.out _; (with_reducible repeat (first | refine blk_drewN ?_ _ | refine blk_drew ?_ | refine blk_alloc ?_ _)); refine blk_far ?_ NB1132_1143.out _; (with_reducible repeat (first | refine blk_drewN ?_ _ | refine blk_drew ?_ | refine blk_alloc ?_ _)); exact BK1132.out) hb); have n3_ := Aside0.mk (blk_below (g := gb1143) (o := .cells #[.int .i64 t1139, .slice Ao59 t1140.length co59] 49 (0, 0)) (by (with_reducible repeat (first | refine blk_drewN ?_ _ | refine blk_drew ?_ | refine blk_alloc ?_ _)); refine blk_put (cs := #[.int .i64 t1139, .slice none 0 0]) ?_ 1 _ rfl; (with_reducible repeat (first | refine blk_drewN ?_ _ | refine blk_drew ?_ | refine blk_alloc ?_ _)); refine blk_put (cs := #[.int .i64 0, .slice none 0 0]) ?_ 0 _ rfl; (with_reducible repeat (first | refine blk_drewN ?_ _ | refine blk_drew ?_ | refine blk_alloc ?_ _)); exact BK1143.out) hb); have n4_ := Aside0.mk (below_step (b2 GE1132.out GE1143.out HB.out) hb); clear HO1137; clear HO1142; clear BK1132; clear BK1143; clear HB; have HO1137 := n0_; have HO1142 := n1_; have BK1132 := n2_; have BK1143 := n3_; have HB := n4_; clear n0_ n1_ n2_ n3_ n4_; (try clear hb); (try clear hb2); (try clear hk); (try clear hi)))
        have n0_ := Aside0.mk (Kd.S_drew HO1137.out); have n1_ := Aside0.mk (Kd.S_drew HO1142.out); have n2_ := Aside0.mk (blk_drew BK1132.out); have n3_ := Aside0.mk (blk_drew BK1143.out); have n4_ := Aside0.mk (below_drew1 HB.out); clear HO1137; clear HO1142; clear BK1132; clear BK1143; clear HB; have HO1137 := n0_; have HO1142 := n1_; have BK1132 := n2_; have BK1143 := n3_; have HB := n4_; clear n0_ n1_ n2_ n3_ n4_; refine start_ (n := 5) (S := fun w' => w'.cell? ⟨gb1143, 0, none⟩ = some (.int .i64 t1139) ∧ w'.cell? ⟨gb1143, 1, none⟩ = some (.slice Ao59 t1140.length co59) ∧ w'.cell? ⟨gb1132, 0, none⟩ = some (.int .i64 a0_0) ∧ w'.cell? ⟨gb1132, 1, none⟩ = some (.slice A0_1 l0_1.length c0_1)) (ds := []) #[false, false, false, false, false] (by kernel_rfl) rfl rfl ⟨(blk_cell BK1143.out 0).trans rfl, (blk_cell BK1143.out 1).trans rfl, (blk_cell BK1132.out 0).trans rfl, (blk_cell BK1132.out 1).trans rfl⟩ (fun hHeld => ?_)
        generalize w60.drew = w61 at HO1137 HO1142 BK1132 BK1143 HB hHeld ⊢
        refine take_ (i := 0) (N := some 22) (v := ?_) (a' := ?_) #[true, false, false, false, false] rfl rfl (by kernel_rfl) (fun _ _ _ h => h) (Or.inl ⟨by rfl, ?_⟩) hHeld ?_ ?_; rotate_left
        · rintro w' ⟨s0, s1, s2, s3⟩
          go_simp
          with_reducible rfl
        rotate_left
        · exact pz
        refine take_ (i := 1) (N := some 23) (v := ?_) (a' := ?_) #[true, true, false, false, false] rfl rfl (by kernel_rfl) (fun _ _ _ h => h) (Or.inl ⟨by rfl, ?_⟩) hHeld ?_ ?_; rotate_left
        · rintro w' ⟨s0, s1, s2, s3⟩
          go_simp
          with_reducible rfl
        rotate_left
        · exact pz
        refine one_ (i := 2) (N := some 24) #[true, true, true, false, false] rfl rfl (by kernel_rfl) (by decide) (fun K hK => ?_); refine goes_ Try.func26 (by kernel_rfl) rfl #[.agg #[.int .i64 a0_0, .slice A0_1 l0_1.length c0_1]] (by rfl) rfl rfl dz ?_
        with_reducible refine (laws_toBook.calls k a0_0 _ _ l0_1 t1145 t1146 _ ?side1 ?side2 A26.out).mono ?_
        (case side1 => exact sz HR0_1.out HB.out)
        (case side2 => exact HC0_1.out)
        rintro e w62 ⟨v1147, rfl, ho0, hb⟩
        refine ⟨_, rfl, ?_⟩; have n0_ := Aside0.mk (Kd.S_elder' (by (with_reducible repeat (first | apply Kd.S_alloc | apply Kd.S_drewN | apply Kd.S_drew)); exact HO1137.out) (Kd.S_base ho0) hb); have n1_ := Aside0.mk (Kd.S_elder' (by (with_reducible repeat (first | apply Kd.S_alloc | apply Kd.S_drewN | apply Kd.S_drew)); exact HO1142.out) (Kd.S_base ho0) hb); have n2_ := Aside0.mk (Kd.S_lower (Kd.S_new' (Kd.S_new' ho0 (Kd.S_lt (by (with_reducible repeat (first | apply Kd.S_alloc | apply Kd.S_drewN | apply Kd.S_drew)); exact HO1137.out))) (Kd.S_lt (by (with_reducible repeat (first | apply Kd.S_alloc | apply Kd.S_drewN | apply Kd.S_drew)); exact HO1142.out))) (below_size (b2 GE1132.out GE1143.out HB.out))); have n3_ := Aside0.mk (blk_below (g := gb1132) (o := .cells #[.int .i64 a0_0, .slice A0_1 l0_1.length c0_1] 41 (0, 0)) (kz BK1132.out) hb); have n4_ := Aside0.mk (blk_below (g := gb1143) (o := .cells #[.int .i64 t1139, .slice Ao59 t1140.length co59] 49 (0, 0)) (kz BK1143.out) hb); have n5_ := Aside0.mk (below_step (b2 GE1132.out GE1143.out HB.out) hb); clear HO1137; clear HO1142; clear BK1132; clear BK1143; clear HB; have HO1137 := n0_; have HO1142 := n1_; have HO1148 := n2_; have BK1132 := n3_; have BK1143 := n4_; have HB := n5_; clear n0_ n1_ n2_ n3_ n4_ n5_
        (try clear hb)
        (try clear hb2)
        (try clear hk)
        (try clear hi)
        (try clear ho0)
        obtain ⟨Ao63, co63, eo63⟩ := Kd.S_slice HO1148.out
        (first | subst eo63 | (injection eo63 with f1_ f2_ f3_; have f4_ := f1_.symm; have f5_ := f3_.symm; clear f1_ f2_ f3_; subst f4_; subst f5_))
        refine hK.out _ _ ⟨(blk_cell BK1143.out 0).trans rfl, (blk_cell BK1143.out 1).trans rfl, (blk_cell BK1132.out 0).trans rfl, (blk_cell BK1132.out 1).trans rfl⟩ (fun hHeld => ?_); clear hK K; refine norm_ (a' := ?_) ?_ ?_; rotate_left
        · show Act.put _ (some 24) _ = _
          simp only [Act.put, List.setIfInBounds_toArray, List.set_cons_zero, List.set_cons_succ, i64_w, i32_w]
          rfl
        refine one_ (i := 3) (N := some 25) #[true, true, true, true, false] rfl rfl (by kernel_rfl) (by decide) (fun K hK => ?_); refine goes_ Try.func29 (by kernel_rfl) rfl #[.agg #[.int .i64 t1139, .slice Ao59 t1140.length co59], .agg #[.int .i64 t1145, .slice Ao63 t1146.length co63]] (by rfl) rfl rfl dz ?_
        with_reducible refine (laws_eqBook.calls k t1139 _ _ t1140 t1145 _ _ t1146 false _ ?side1 ?side2 ?side3 ?side4 A27.out).mono ?_
        (case side1 => repeat (first | exact (Kd.S_reads' HO1142.out).2.2 | (with_reducible refine Kd.C_alloc ?_ _) | (with_reducible refine Kd.C_drewN ?_ _) | (with_reducible refine Kd.C_drew ?_)))
        (case side2 => exact (Kd.S_reads' HO1142.out).2.1)
        (case side3 => repeat (first | exact (Kd.S_reads' HO1148.out).2.2 | (with_reducible refine Kd.C_alloc ?_ _) | (with_reducible refine Kd.C_drewN ?_ _) | (with_reducible refine Kd.C_drew ?_)))
        (case side4 => exact (Kd.S_reads' HO1148.out).2.1)
        rintro e w64 ⟨rfl, hb⟩
        refine ⟨_, rfl, ?_⟩; have n0_ := Aside0.mk (Kd.S_below (by (with_reducible repeat (first | apply Kd.S_alloc | apply Kd.S_drewN | apply Kd.S_drew)); exact HO1137.out) hb); have n1_ := Aside0.mk (Kd.S_below (by (with_reducible repeat (first | apply Kd.S_alloc | apply Kd.S_drewN | apply Kd.S_drew)); exact HO1142.out) hb); have n2_ := Aside0.mk (Kd.S_below (by (with_reducible repeat (first | apply Kd.S_alloc | apply Kd.S_drewN | apply Kd.S_drew)); exact HO1148.out) hb); have n3_ := Aside0.mk (blk_below (g := gb1132) (o := .cells #[.int .i64 a0_0, .slice A0_1 l0_1.length c0_1] 41 (0, 0)) (kz BK1132.out) hb); have n4_ := Aside0.mk (blk_below (g := gb1143) (o := .cells #[.int .i64 t1139, .slice Ao59 t1140.length co59] 49 (0, 0)) (kz BK1143.out) hb); have n5_ := Aside0.mk (below_step (b2 GE1132.out GE1143.out HB.out) hb); clear HO1137; clear HO1142; clear HO1148; clear BK1132; clear BK1143; clear HB; have HO1137 := n0_; have HO1142 := n1_; have HO1148 := n2_; have BK1132 := n3_; have BK1143 := n4_; have HB := n5_; clear n0_ n1_ n2_ n3_ n4_ n5_
        (try clear hb)
        (try clear hb2)
        (try clear hk)
        (try clear hi)
        refine hK.out _ _ ⟨(blk_cell BK1143.out 0).trans rfl, (blk_cell BK1143.out 1).trans rfl, (blk_cell BK1132.out 0).trans rfl, (blk_cell BK1132.out 1).trans rfl⟩ (fun hHeld => ?_); clear hK K; refine norm_ (a' := ?_) ?_ ?_; rotate_left
        · show Act.put _ (some 25) _ = _
          simp only [Act.put, List.setIfInBounds_toArray, List.set_cons_zero, List.set_cons_succ, i64_w, i32_w]
          rfl
        refine pure_ (i := 4) (N := some 26) (v := ?_) (a' := ?_) #[true, true, true, true, true] rfl rfl (by kernel_rfl) (fun _ _ _ h => h) (Or.inl ⟨by rfl, ?_⟩) ?_ ?_; rotate_left
        · intro w'
          go_simp
          with_reducible rfl
        rotate_left
        · exact pz
        refine done_ (by kernel_rfl) ?_
        try go_wp2
        go_ret; exact ⟨ez, b2 GE1132.out GE1143.out HB.out⟩

end Go.Proofs.Ytngjaajcdbodeaa.All

/- Opening of arguments: what reads as data of a type is of its kind. No condition. -/
namespace Go.Proofs.Ytngjaajcdbodeaa.Op
open Go.Proofs.YtngjaajcdbodeaaW.PrintWords
open Go.Deep
set_option linter.unusedVariables false

/-- What reads as data of type t is of the kind d, and good. -/
def Opens {α : Type} (P : Program) (t : TypeId) (d : Kd α) (good : α → Prop) : Prop :=
  ∀ {H : Type} {enc : TypeId × Value → H} {w : World} {base : Nat} {spare : Nat → Bool} {held : Bool} {fuel : Nat} {cs : List Value} {x : DataW H × List MemPlace},
    DataW.trod enc P w base spare held fuel t cs = some x → ∃ y, d.K w y cs ∧ good y

def goodInt (n : Int) : Prop := -9223372036854775808 ≤ n ∧ n ≤ 9223372036854775807

theorem goodInt_of_wf {n : Int} (h : (Lit.int .i64 n).wf = true) : goodInt n := by
  simp [Lit.wf, IntKind.min, IntKind.max, IntKind.signed, IntKind.bits] at h
  unfold goodInt
  omega

theorem opens_int {P : Program} {t : TypeId} (ht : P.underlying t = some (.int .i64)) : Opens P t (Kd.int .i64) goodInt := by
  intro H enc w base spare held fuel cs x h
  obtain ⟨n, rfl, _, hw⟩ := DataW.trod_int ht h; exact ⟨n, rfl, goodInt_of_wf hw⟩

theorem opens_bool {P : Program} {t : TypeId} (ht : P.underlying t = some .bool) : Opens P t Kd.bool (fun _ => True) := by
  intro H enc w base spare held fuel cs x h
  obtain ⟨n, rfl, _⟩ := DataW.trod_bool ht h; exact ⟨n, rfl, trivial⟩

theorem opens_slice {α : Type} {P : Program} {t e : TypeId} {d : Kd α} {good : α → Prop} (ht : P.underlying t = some (.slice e)) (hC : P.cellsOf e = d.sz) (he : Opens P e d good) :
    Opens P t (Kd.slice e d) (fun xs => xs.length ≤ 9223372036854775807 ∧ ∀ y ∈ xs, good y) := by
  intro H enc w base spare held fuel cs x h
  rcases open_slice ht h with ⟨rfl, _⟩ | ⟨a, len, cap, m, n, D, Pl, rfl, hb, hl, hm, hmm, rfl, hx⟩
  · exact ⟨[], ⟨none, 0, rfl, Nat.le_refl _, ⟨rfl, by simp, fun h => absurd h (Nat.lt_irrefl 0)⟩⟩, by simp, by simp⟩
  · have hlm : len ≤ m := by rw [hmm]; split <;> omega
    have hex : ∀ i : Nat, ∃ y : α ⊕ Unit, i < len → ∃ z cs', y = .inl z ∧ d.K w z cs' ∧ good z ∧ w.cells? base (a.add (i * d.sz)) d.sz = some cs' := by
      intro i
      by_cases hi : i < len
      · obtain ⟨cs', h1, h2⟩ := hx i (by omega)
        obtain ⟨z, hz, hg⟩ := he h2; exact ⟨.inl z, fun _ => ⟨z, cs', rfl, hz, hg, by rw [← hC]; exact h1⟩⟩
      · exact ⟨.inr (), fun h => absurd h hi⟩
    obtain ⟨f, hf⟩ := Classical.axiomOfChoice hex
    have hlist : ∀ k, k ≤ len → ∃ ys : List α, ys.length = k ∧ ∀ i y, ys[i]? = some y → f i = .inl y := by
      intro k
      induction k with
      | zero => exact fun _ => ⟨[], rfl, fun i y h => by simp at h⟩
      | succ k ih =>
        intro hk
        obtain ⟨ys, hys, hall⟩ := ih (by omega); obtain ⟨z, cs', hz, _⟩ := hf k (by omega); refine ⟨ys ++ [z], by simp [hys], fun i y hy => ?_⟩
        rcases Nat.lt_or_ge i ys.length with hi | hi
        · rw [List.getElem?_append_left hi] at hy
          exact hall i y hy
        · have hik : i = k := by
            have := (List.getElem?_eq_some_iff.1 hy).1
            simp at this
            omega
          subst hik; rw [List.getElem?_append_right (by omega)] at hy
          simp [hys] at hy
          rw [hz, hy]
    obtain ⟨ys, hys, hall⟩ := hlist len (Nat.le_refl _)
    have hget : ∀ i y, ys[i]? = some y → ∃ cs', d.K w y cs' ∧ good y ∧ w.cells? base (a.add (i * d.sz)) d.sz = some cs' := by
      intro i y hy
      have hi : i < len := by rw [← hys]; exact (List.getElem?_eq_some_iff.1 hy).1
      obtain ⟨z, cs', hz, hK, hg, hc⟩ := hf i hi; have := hall i y hy; rw [hz] at this
      cases this
      exact ⟨cs', hK, hg, hc⟩
    subst hys; refine ⟨ys, ⟨some a, cap, rfl, hl, ⟨rfl, by unfold maxLen at hm; omega, fun _ => ⟨a, rfl, fun j p hp => ?_⟩⟩⟩, by unfold maxLen at hm; omega, fun y hy => ?_⟩
    · obtain ⟨cs', hK, _, hc⟩ := hget j p hp
      obtain ⟨_, hcl, hat⟩ := World.cells?_some hc; refine ⟨cs', hcl, hK, fun i u hu => ?_⟩
      have hi : i < d.sz := by rw [← hcl]; exact (List.getElem?_eq_some_iff.1 hu).1
      have := hat i hi; rw [← Go.Deep.add_add, this, hu]
    · obtain ⟨i, hi⟩ := List.getElem?_of_mem hy
      obtain ⟨_, _, hg, _⟩ := hget i y hi; exact hg

theorem opens_pair2 {α β γ : Type} {P : Program} {t : TypeId} {f0 f1 : Field} {d0 : Kd α} {d1 : Kd β} {g0 : α → Prop} {g1 : β → Prop} (f : γ → α × β) (mk : α → β → γ) (hmk : ∀ a b, f (mk a b) = (a, b))
    (ht : P.underlying t = some (.struct #[f0, f1])) (hc : P.cellsOf t = d0.sz + d1.sz) (ho0 : f0.offset = 0) (ho1 : f1.offset = d0.sz) (hc0 : P.cellsOf f0.type = d0.sz) (hc1 : P.cellsOf f1.type = d1.sz)
    (h0 : Opens P f0.type d0 g0) (h1 : Opens P f1.type d1 g1) : Opens P t (Kd.iso (Kd.pair d0 d1) f) (fun y => g0 (f y).1 ∧ g1 (f y).2) := by
  intro H enc w base spare held fuel cs x h
  obtain ⟨y0, y1, n, _, hl, ht0, ht1⟩ := ChangeShapes.trod_struct2 ht h; obtain ⟨a, ha, ga⟩ := h0 ht0; obtain ⟨b, hb, gb⟩ := h1 ht1; rw [ho0, hc0] at ha; rw [ho1, hc1] at hb; refine ⟨mk a b, ⟨_, _, ?_, by rw [hmk]; exact ha, by rw [hmk]; exact hb⟩, show g0 (f (mk a b)).1 ∧ g1 (f (mk a b)).2 by rw [hmk]; exact ⟨ga, gb⟩⟩; rw [List.drop_zero, List.take_of_length_le (l := List.drop d0.sz cs) (by rw [List.length_drop]; omega), List.take_append_drop]

def goodByte (n : Int) : Prop := 0 ≤ n ∧ n ≤ 255

theorem opens_byte {P : Program} {t : TypeId} (ht : P.underlying t = some (.int .u8)) : Opens P t (Kd.int .u8) goodByte := by
  intro H enc w base spare held fuel cs x h
  obtain ⟨n, rfl, _, hw⟩ := DataW.trod_int ht h; refine ⟨n, rfl, ?_⟩
  simp [Lit.wf, IntKind.min, IntKind.max, IntKind.signed, IntKind.bits] at hw
  unfold goodByte
  omega

theorem opens_int4 {γ : Type} {P : Program} {t : TypeId} {f0 f1 f2 f3 : Field} {g0 g1 g2 g3 : Int → Prop} (f : γ → Int × Int × Int × Int) (mk : Int → Int → Int → Int → γ) (hmk : ∀ a b c d, f (mk a b c d) = (a, b, c, d))
    (ht : P.underlying t = some (.struct #[f0, f1, f2, f3])) (hc : P.cellsOf t = 4) (ho0 : f0.offset = 0) (ho1 : f1.offset = 1) (ho2 : f2.offset = 2) (ho3 : f3.offset = 3)
    (hc0 : P.cellsOf f0.type = 1) (hc1 : P.cellsOf f1.type = 1) (hc2 : P.cellsOf f2.type = 1) (hc3 : P.cellsOf f3.type = 1)
    (h0 : Opens P f0.type (Kd.int .i64) g0) (h1 : Opens P f1.type (Kd.int .i64) g1) (h2 : Opens P f2.type (Kd.int .i64) g2) (h3 : Opens P f3.type (Kd.int .i64) g3) :
    Opens P t (Kd.iso (Kd.pair (Kd.int .i64) (Kd.pair (Kd.int .i64) (Kd.pair (Kd.int .i64) (Kd.int .i64)))) f) (fun y => g0 (f y).1 ∧ g1 (f y).2.1 ∧ g2 (f y).2.2.1 ∧ g3 (f y).2.2.2) := by
  intro H enc w base spare held fuel cs x h
  obtain ⟨xs, n, _, _, hl, hlen, hf⟩ := DataW.trod_struct ht h
  have hn : ∀ i, i < 4 → ∃ y, xs[i]? = some y := fun i hi => ⟨_, List.getElem?_eq_getElem (by rw [hlen]; exact hi)⟩
  obtain ⟨y0, e0⟩ := hn 0 (by omega); obtain ⟨y1, e1⟩ := hn 1 (by omega); obtain ⟨y2, e2⟩ := hn 2 (by omega); obtain ⟨y3, e3⟩ := hn 3 (by omega); obtain ⟨a, ha, ga⟩ := h0 ((hf 0 f0 rfl).trans e0); obtain ⟨b, hb, gb⟩ := h1 ((hf 1 f1 rfl).trans e1); obtain ⟨c, hcc, gc⟩ := h2 ((hf 2 f2 rfl).trans e2); obtain ⟨d, hd, gd⟩ := h3 ((hf 3 f3 rfl).trans e3); rw [ho0, hc0] at ha; rw [ho1, hc1] at hb; rw [ho2, hc2] at hcc; rw [ho3, hc3] at hd; rw [hc] at hl
  match cs, hl with
  | [v0, v1, v2, v3], _ =>
    have ea : v0 = .int .i64 a := by simpa [Kd.int, Kd.scalar] using ha
    have eb : v1 = .int .i64 b := by simpa [Kd.int, Kd.scalar] using hb
    have ec : v2 = .int .i64 c := by simpa [Kd.int, Kd.scalar] using hcc
    have ed : v3 = .int .i64 d := by simpa [Kd.int, Kd.scalar] using hd
    subst ea eb ec ed; refine ⟨mk a b c d, ?_, ?_⟩
    · show (Kd.pair (Kd.int .i64) (Kd.pair (Kd.int .i64) (Kd.pair (Kd.int .i64) (Kd.int .i64)))).K w (f (mk a b c d)) _
      rw [hmk]; exact ⟨[_], [_, _, _], rfl, rfl, ⟨[_], [_, _], rfl, rfl, ⟨[_], [_], rfl, rfl, rfl⟩⟩⟩
    · show g0 (f (mk a b c d)).1 ∧ g1 (f (mk a b c d)).2.1 ∧ g2 (f (mk a b c d)).2.2.1 ∧ g3 (f (mk a b c d)).2.2.2
      rw [hmk]; exact ⟨ga, gb, gc, gd⟩

end Go.Proofs.Ytngjaajcdbodeaa.Op

/- What reads as data of the laws' argument types is of their kinds. -/
namespace Go.Proofs.Ytngjaajcdbodeaa.Op
open Go.Proofs.Ytngjaajcdbodeaa.All Go.Proofs.YtngjaajcdbodeaaW.PrintWords
def good3 (n : Int) : Prop := goodInt n
theorem op3 : Opens Try.prog 3 (Kd.int .i64) good3 := opens_int Try.underlying3
def good4 (_ : Bool) : Prop := True
theorem op4 : Opens Try.prog 4 Kd.bool good4 := opens_bool Try.underlying4
def good24 (x : S24) : Prop := good3 x.f0 ∧ good3 x.f1 ∧ good3 x.f2 ∧ good3 x.f3
theorem op24 : Opens Try.prog 24 k24 good24 := opens_int4 (fun x : S24 => (x.f0, x.f1, x.f2, x.f3)) (fun a b c d => ⟨a, b, c, d⟩) (fun _ _ _ _ => rfl) Try.underlying24 (by kernel_rfl) rfl rfl rfl rfl (by kernel_rfl) (by kernel_rfl) (by kernel_rfl) (by kernel_rfl) op3 op3 op3 op3
def good122 (x : S122) : Prop := good3 x.f0 ∧ good24 x.f1
theorem op122 : Opens Try.prog 122 k122 good122 := opens_pair2 (d0 := (Kd.int .i64)) (d1 := k24) (fun x : S122 => (x.f0, x.f1)) (fun a b => ⟨a, b⟩) (fun _ _ => rfl) Try.underlying122 (by kernel_rfl) rfl rfl (by kernel_rfl) (by kernel_rfl) op3 op24
def good42 (xs : List (S122)) : Prop := xs.length ≤ 9223372036854775807 ∧ ∀ y ∈ xs, good122 y
theorem op42 : Opens Try.prog 42 (Kd.slice 122 k122) good42 := opens_slice Try.underlying42 (by kernel_rfl) op122
def good44 (x : S44) : Prop := good4 x.f0 ∧ good42 x.f1
theorem op44 : Opens Try.prog 44 k44 good44 := opens_pair2 (d0 := Kd.bool) (d1 := (Kd.slice 122 k122)) (fun x : S44 => (x.f0, x.f1)) (fun a b => ⟨a, b⟩) (fun _ _ => rfl) Try.underlying44 (by kernel_rfl) rfl rfl (by kernel_rfl) (by kernel_rfl) op4 op42
def good118 (x : S118) : Prop := good4 x.f0 ∧ good44 x.f1
theorem op118 : Opens Try.prog 118 k118 good118 := opens_pair2 (d0 := Kd.bool) (d1 := k44) (fun x : S118 => (x.f0, x.f1)) (fun a b => ⟨a, b⟩) (fun _ _ => rfl) Try.underlying118 (by kernel_rfl) rfl rfl (by kernel_rfl) (by kernel_rfl) op4 op44
def good39 (xs : List (S118)) : Prop := xs.length ≤ 9223372036854775807 ∧ ∀ y ∈ xs, good118 y
theorem op39 : Opens Try.prog 39 (Kd.slice 118 k118) good39 := opens_slice Try.underlying39 (by kernel_rfl) op118
def good41 (x : (Int × List (S118))) : Prop := good3 x.1 ∧ good39 x.2
theorem op41 : Opens Try.prog 41 (Kd.iso (Kd.pair (Kd.int .i64) (Kd.slice 118 k118)) (fun x : (Int × List (S118)) => x)) good41 := opens_pair2 (d0 := (Kd.int .i64)) (d1 := (Kd.slice 118 k118)) (fun x : (Int × List (S118)) => x) (fun a b => (a, b)) (fun _ _ => rfl) Try.underlying41 (by kernel_rfl) rfl rfl (by kernel_rfl) (by kernel_rfl) op3 op39
end Go.Proofs.Ytngjaajcdbodeaa.Op

/- Plain laws of the printed functions over lists of entries: what is made of a list. No condition. -/
namespace Go.Proofs.Ytngjaajcdbodeaa.Pure
open Go.RowKit Go.Proofs.Ytngjaajcdbodeaa.All Go.Proofs.YtngjaajcdbodeaaW.PrintWords Go.Proofs.YtngjaajcdbodeaaW.PrintLast Go.Proofs.Ytngjaajcdbodeaa.Sq
set_option linter.unusedVariables false

def big : Nat := 1152921504606846976
theorem wrap_small {a : Int} (h0 : -9223372036854775808 ≤ a) (h1 : a ≤ 9223372036854775807) : wrap64 a = a := by
  unfold wrap64
  omega
theorem wrap_succ {i n : Nat} (h : i < n) (hn : n ≤ big) : wrap64 ((i : Int) + 1) = ((i + 1 : Nat) : Int) := by
  unfold big at hn; rw [wrap_small (by omega) (by omega)]
  omega
/-- A loop, told from its end. -/
theorem down {P : Nat → Prop} : ∀ (n : Nat), (∀ i, i < n → P (i + 1) → P i) → P n → P 0
  | 0, _, h => h
  | n + 1, hs, h => down n (fun i hi => hs i (by omega)) (hs n (by omega) h)
/-- The same from i on. -/
theorem downFrom {P : Nat → Prop} (i : Nat) : ∀ (d : Nat), (∀ j, i ≤ j → j < i + d → P (j + 1) → P j) → P (i + d) → P i
  | 0, _, h => h
  | d + 1, hs, h => downFrom i d (fun j h0 hj => hs j h0 (by omega)) (hs (i + d) (by omega) (by omega) h)

theorem rdE_at (l : List En) (i : Nat) : rd_T103 l (i : Int) = l.getD i z103 := rfl
theorem rdB_at (l : List Bx) (i : Nat) : rd_T32 l (i : Int) = l.getD i z32 := rfl

/-- A loop that fills a row of the same length. -/
theorem fill_loop {α β : Type} {L : Nat → List α → List β → Int → Option (List β)} {f : α → β} {F : Nat → α → Option β} (d : α)
    (hstep : ∀ k (xs : List α) (acc : List β) (i : Nat), i < xs.length → acc.length = xs.length → L (k + 1) xs acc i = (F k (xs.getD i d)).bind fun y => L k xs (acc.set i y) (wrap64 ((i : Int) + 1)))
    (hstop : ∀ k (xs : List α) (acc : List β), L (k + 1) xs acc xs.length = some acc)
    (xs : List α) (hl : xs.length ≤ big) (hF : ∀ x ∈ xs, Evn (fun k => F k x) (f x)) (z : β) : Evn (fun k => L k xs (List.replicate xs.length z) 0) (xs.map f) := by
  have key : Evn (fun k => L k xs ((xs.take 0).map f ++ List.replicate (xs.length - 0) z) ((0 : Nat) : Int)) (xs.map f) := by
    refine down (P := fun i => Evn (fun k => L k xs ((xs.take i).map f ++ List.replicate (xs.length - i) z) (i : Int)) (xs.map f)) xs.length (fun i hi h => ?_) ?_
    · refine Evn.step (fun k => hstep k xs _ i hi (by simp; omega)) ?_
      refine Evn.bind (hF _ ?_) ?_
      · rw [List.getD_eq_getElem?_getD, List.getElem?_eq_getElem hi]
        exact List.getElem_mem hi
      · rw [wrap_succ hi hl]
        refine Evn.same h (fun k => ?_)
        congr 1
        have hi' : (List.map f (List.take i xs)).length = i := by simp; omega
        rw [List.set_append, if_neg (by omega), hi', Nat.sub_self]; obtain ⟨m, hm⟩ : ∃ m, xs.length - i = m + 1 := ⟨xs.length - i - 1, by omega⟩; rw [hm, show xs.length - (i + 1) = m from by omega, List.replicate_succ, List.set_cons_zero, List.take_succ_eq_append_getElem hi, List.map_append, List.append_assoc, List.getD_eq_getElem?_getD, List.getElem?_eq_getElem hi]
        rfl
    · refine Evn.step (fun k => ?_) (Evn.ret _)
      rw [hstop]
      simp
  simpa using key

def toB (b : LBx) : Bx := ⟨b.f0, b.f1, b.f2, b.f3⟩
def toE (e : LEn) : En := ⟨e.f0, toB e.f1⟩
theorem toEntryS_f (l : List LEn) (hl : l.length ≤ 1048576) : Evn (fun k => laws_toEntryS.f k l) (l.map toE) := by
  have h := fill_loop (L := laws_toEntryS.l0) (f := toE) (F := fun _ x => some (toE x)) z122 (fun k xs acc i hi ha => by
    simp only [laws_toEntryS.l0]
    rw [if_pos (by omega), if_pos (by omega)]
    simp only [laws_toEntry.f, laws_toBox.f, Option.bind_some]
    rw [if_pos (by omega)]
    rfl) (fun k xs acc => by simp only [laws_toEntryS.l0]; rw [if_neg (by omega)]) l (by unfold big; omega) (fun x _ => Evn.ret _) z103
  unfold laws_toEntryS.f; refine Evn.pos (by omega) (Evn.pos (by omega) ?_); exact h

/-- A loop that compares a row with itself. -/
theorem same_loop {α : Type} {L : Nat → List α → List α → Int → Option Bool}
    (hstep : ∀ k (xs : List α) (i : Nat), i < xs.length → L (k + 1) xs xs i = L k xs xs (wrap64 ((i : Int) + 1)))
    (hstop : ∀ k (xs : List α), L (k + 1) xs xs xs.length = some true) (xs : List α) (hl : xs.length ≤ big) : Evn (fun k => L k xs xs 0) true := by
  refine down (P := fun i => Evn (fun k => L k xs xs (i : Int)) true) xs.length (fun i hi h => ?_) (Evn.step (fun k => hstop k xs) (Evn.ret _)); refine Evn.step (fun k => hstep k xs i hi) ?_; rw [wrap_succ hi hl]; exact h
theorem eqBox_same (a b c d : Int) : laws_eqBox.f a b c d a b c d = some true := by simp [laws_eqBox.f]
theorem eqEntryS_same (l : List En) (hl : l.length ≤ big) : Evn (fun k => laws_eqEntryS.f k l l) true := by
  unfold laws_eqEntryS.f; refine Evn.pos rfl ?_; refine same_loop (L := laws_eqEntryS.l0) (fun k xs i hi => ?_) (fun k xs => ?_) l hl
  · simp only [laws_eqEntryS.l0]
    rw [if_pos (by omega), if_pos (by omega), if_pos (by omega)]
    simp only [laws_eqEntry.f, eqBox_same, Option.bind_some, if_true]
  · simp only [laws_eqEntryS.l0]
    rw [if_neg (by omega)]

/-- The count of what came in, and what it leaves of a bound. -/
theorem szEntryS_f (l : List LEn) (n : Int) (hn : 0 ≤ n ∧ n ≤ 1048576) (hl : l.length ≤ 9223372036854775807) : laws_szEntryS.f l n = some (if n < l.length then -1 else n - l.length) := by
  unfold laws_szEntryS.f; rw [wrap_small (by omega) (by omega)]
  by_cases h : n < l.length
  · rw [if_pos (by omega), if_pos h]
  · rw [if_neg (by omega), if_neg h]

abbrev LPg := S118
abbrev Pg := S90
abbrev Nd := S54
abbrev zPg : Pg := z90
def toPg (p : LPg) : Pg := ⟨p.f0, ⟨p.f1.f0, p.f1.f1.map toE⟩⟩
/-- How many entries the pages have together. -/
def heap (l : List LPg) : Nat := (l.map fun p => p.f1.f1.length).sum
theorem heap_snoc (l : List LPg) (i : Nat) (h : i < l.length) : heap (l.take (i + 1)) = heap (l.take i) + l[i].f1.f1.length := by
  unfold heap; rw [List.take_succ_eq_append_getElem h, List.map_append, List.sum_append]
  simp
theorem heap_le (l : List LPg) (i : Nat) : heap (l.take i) ≤ heap l := by
  unfold heap; rw [← List.take_append_drop i l, List.map_append, List.sum_append]
  simp
theorem heap_mem (l : List LPg) (p : LPg) (h : p ∈ l) : p.f1.f1.length ≤ heap l := by
  obtain ⟨i, hi, rfl⟩ := List.getElem_of_mem h; have h1 := heap_snoc l i hi; have h2 := heap_le l (i + 1)
  omega
theorem getD_LPg (l : List LPg) (i : Nat) (h : i < l.length) : l.getD i z118 = l[i] := by rw [List.getD_eq_getElem?_getD, List.getElem?_eq_getElem h]; rfl
theorem rdLPg_at (l : List LPg) (i : Nat) (h : i < l.length) : rd_T118 l (i : Int) = l[i] := getD_LPg l i h
theorem rdPg_at (l : List Pg) (i : Nat) (h : i < l.length) : rd_T90 l (i : Int) = l[i] := by
  show l.getD i zPg = l[i]
  rw [List.getD_eq_getElem?_getD, List.getElem?_eq_getElem h]; rfl

theorem szPage_f (a b : Bool) (l : List LEn) (n : Int) (hn : 0 ≤ n ∧ n ≤ 1048576) (hl : l.length ≤ 9223372036854775807) : laws_szPage.f a b l n = some (if n < l.length then -1 else n - l.length) := by
  unfold laws_szPage.f laws_szNode.f; rw [szEntryS_f l n hn hl]
  simp only [Option.bind_some]
  by_cases h : n < l.length
  · simp [if_pos h]
  · rw [if_neg h, if_neg (by omega)]
    simp only [Option.bind_some]
    rw [if_neg (by omega)]
/-- What is weighed: -1 where it is too much. -/
theorem szPageS_f (l : List LPg) (n : Int) (hn : 0 ≤ n ∧ n ≤ 1048576) (hl : l.length ≤ 9223372036854775807) (hp : ∀ p ∈ l, p.f1.f1.length ≤ 9223372036854775807) :
    Evn (fun k => laws_szPageS.f k l n) (if n < l.length + heap l then -1 else n - l.length - heap l) := by
  unfold laws_szPageS.f; rw [wrap_small (by omega) (by omega)]
  by_cases h0 : n - l.length < 0
  · rw [if_pos (show n < l.length + heap l by omega)]
    exact Evn.pos h0 (Evn.ret _)
  · refine Evn.neg h0 ?_
    have hb : l.length ≤ big := by unfold big; omega
    have key : ∀ i, ∀ hi : i < l.length, ∀ k (m : Int), 0 ≤ m → m ≤ 1048576 → laws_szPageS.l0 (k + 1) l m (i : Int) = if m < (l[i]'hi).f1.f1.length then some (-1) else laws_szPageS.l0 k l (m - (l[i]'hi).f1.f1.length) ((i + 1 : Nat) : Int) := by
      intro i hi k m hm0 hm1
      rw [laws_szPageS.l0, if_pos (by omega), if_pos (by omega), rdLPg_at l i hi, szPage_f _ _ _ _ ⟨hm0, hm1⟩ (hp _ (List.getElem_mem hi)), Option.bind_some, wrap_succ hi hb]
      by_cases hm : m < (l[i]).f1.f1.length
      · rw [if_pos hm, if_pos hm, if_pos (by omega)]
      · rw [if_neg hm, if_neg hm, if_neg (by omega)]
    have hend : ∀ k (m : Int), laws_szPageS.l0 (k + 1) l m (l.length : Int) = some m := fun k m => by rw [laws_szPageS.l0, if_neg (by omega)]
    by_cases hbig : n < l.length + heap l
    · rw [if_pos hbig]
      have := down (P := fun i => 0 ≤ n - l.length - heap (l.take i) → Evn (fun k => laws_szPageS.l0 k l (n - l.length - heap (l.take i)) (i : Int)) (-1)) l.length (fun i hi h hm => ?_) (fun hm => by rw [List.take_length] at hm; omega)
      · have h1 := this (by simp [heap]; omega)
        simpa [heap] using h1
      · refine Evn.step (fun k => key i hi k _ hm (by omega)) ?_
        by_cases hc : n - l.length - heap (l.take i) < (l[i]).f1.f1.length
        · exact Evn.pos hc (Evn.ret _)
        · refine Evn.neg hc ?_
          have hs := heap_snoc l i hi; rw [show n - l.length - heap (l.take i) - (l[i]).f1.f1.length = n - l.length - heap (l.take (i + 1)) by omega]; exact h (by omega)
    · rw [if_neg hbig]
      have := down (P := fun i => Evn (fun k => laws_szPageS.l0 k l (n - l.length - heap (l.take i)) (i : Int)) (n - l.length - heap l)) l.length (fun i hi h => ?_) (Evn.step (fun k => hend k _) (by rw [List.take_length]; exact Evn.ret _))
      · simpa [heap] using this
      · have hs := heap_snoc l i hi
        have hle := heap_le l (i + 1); refine Evn.step (fun k => key i hi k _ (by omega) (by omega)) (Evn.neg (by omega) ?_); rw [show n - l.length - heap (l.take i) - (l[i]).f1.f1.length = n - l.length - heap (l.take (i + 1)) by omega]; exact h
theorem szBook_f (a : Int) (l : List LPg) (n : Int) (hn : 0 ≤ n ∧ n ≤ 1048576) (hl : l.length ≤ 9223372036854775807) (hp : ∀ p ∈ l, p.f1.f1.length ≤ 9223372036854775807) :
    Evn (fun k => laws_szBook.f k a l n) (if n < l.length + heap l then -1 else n - l.length - heap l) := by
  unfold laws_szBook.f; refine Evn.bind (szPageS_f l n hn hl hp) ?_
  by_cases h : n < l.length + heap l
  · rw [if_pos h]
    exact Evn.ret _
  · rw [if_neg h, if_neg (by omega)]
    exact Evn.ret _

theorem toPage_f (p : LPg) (h : p.f1.f1.length ≤ 1048576) : Evn (fun k => laws_toPage.f k p.f0 p.f1.f0 p.f1.f1) (p.f0, p.f1.f0, p.f1.f1.map toE) := by
  unfold laws_toPage.f laws_toNode.f; exact Evn.bind (Evn.bind (toEntryS_f _ h) (Evn.ret _)) (Evn.ret _)
theorem toPageS_f (l : List LPg) (hl : l.length ≤ 1048576) (hp : ∀ p ∈ l, p.f1.f1.length ≤ 1048576) : Evn (fun k => laws_toPageS.f k l) (l.map toPg) := by
  have h := fill_loop (L := laws_toPageS.l0) (f := toPg) (F := fun k p => (laws_toPage.f k p.f0 p.f1.f0 p.f1.f1).bind fun t => some (⟨t.1, ⟨t.2.1, t.2.2⟩⟩ : Pg)) z118 (fun k xs acc i hi ha => by
    simp only [laws_toPageS.l0]
    rw [if_pos (by omega), if_pos (by omega), rdLPg_at xs i hi, getD_LPg xs i hi]
    cases laws_toPage.f k (xs[i]).f0 (xs[i]).f1.f0 (xs[i]).f1.f1 with
    | none => rfl
    | some t =>
      simp only [Option.bind_some]
      rw [if_pos (by omega)]
      rfl) (fun k xs acc => by simp only [laws_toPageS.l0]; rw [if_neg (by omega)]) l (by unfold big; omega) (fun x hx => Evn.bind (toPage_f x (hp x hx)) (Evn.ret _)) zPg
  unfold laws_toPageS.f; exact Evn.pos (by omega) (Evn.pos (by omega) h)
theorem toBook_f (a : Int) (l : List LPg) (hl : l.length ≤ 1048576) (hp : ∀ p ∈ l, p.f1.f1.length ≤ 1048576) : Evn (fun k => laws_toBook.f k a l) (a, l.map toPg) := by
  unfold laws_toBook.f; exact Evn.bind (toPageS_f l hl hp) (Evn.ret _)

theorem eqNode_same (b : Bool) (l : List En) (hl : l.length ≤ big) : Evn (fun k => laws_eqNode.f k b l b l) true := by
  unfold laws_eqNode.f; exact Evn.neg (by simp) (Evn.bind (eqEntryS_same l hl) (Evn.ret _))
theorem eqPageS_same (l : List Pg) (hl : l.length ≤ big) (hp : ∀ p ∈ l, p.f1.f1.length ≤ big) : Evn (fun k => laws_eqPageS.f k l l) true := by
  unfold laws_eqPageS.f; refine Evn.pos rfl ?_; refine down (P := fun i => Evn (fun k => laws_eqPageS.l0 k l l (i : Int)) true) l.length (fun i hi h => ?_) (Evn.step (fun k => by rw [laws_eqPageS.l0, if_neg (by omega)]) (Evn.ret _)); refine Evn.step (fun k => by rw [laws_eqPageS.l0, if_pos (by omega), if_pos (by omega), if_pos (by omega), rdPg_at l i hi, wrap_succ hi hl]) ?_; refine Evn.bind (a := true) ?_ (Evn.pos rfl h); unfold laws_eqPage.f; exact Evn.neg (by simp) (Evn.bind (eqNode_same _ _ (hp _ (List.getElem_mem hi))) (Evn.ret _))
theorem eqBook_same (a : Int) (l : List Pg) (hl : l.length ≤ big) (hp : ∀ p ∈ l, p.f1.f1.length ≤ big) : Evn (fun k => laws_eqBook.f k a l a l) true := by
  unfold laws_eqBook.f; exact Evn.pos rfl (Evn.bind (eqPageS_same l hl hp) (Evn.ret _))

/-- What a law over a book does: weigh it, make it, ask both, compare. -/
structure Small (l : List LPg) : Prop where
  len : l.length ≤ 1048576
  ent : ∀ p ∈ l, p.f1.f1.length ≤ 1048576
  sum : l.length + heap l ≤ 1048576
theorem Small.of (l : List LPg) (h : l.length + heap l ≤ 1048576) : Small l := ⟨by omega, fun p hp => by have := heap_mem l p hp; omega, h⟩
theorem Small.made (l : List LPg) (h : Small l) : (l.map toPg).length ≤ 1048576 ∧ ∀ p ∈ l.map toPg, p.f1.f1.length ≤ 1048576 := by
  refine ⟨by rw [List.length_map]; exact h.len, fun p hp => ?_⟩; obtain ⟨q, hq, rfl⟩ := List.mem_map.mp hp
  show (q.f1.f1.map toE).length ≤ _
  rw [List.length_map]; exact h.ent q hq
theorem big_of {n : Nat} (h : n ≤ 1048576) : n ≤ big := by unfold big; omega

theorem nodup_sub : ∀ (l u : List Int), l.Nodup → (∀ x ∈ l, x ∈ u) → l.length ≤ u.length
  | [], u, _, _ => Nat.zero_le _
  | a :: l, u, hn, hs => by
    rw [List.nodup_cons] at hn; have ha : a ∈ u := hs a (List.mem_cons_self ..)
    have h1 := nodup_sub l (u.erase a) hn.2 (fun x hx => by
      have hne : x ≠ a := fun e => hn.1 (e ▸ hx)
      exact (List.mem_erase_of_ne hne).2 (hs x (List.mem_cons_of_mem _ hx)))
    rw [List.length_erase_of_mem ha] at h1; have h2 := List.length_pos_of_mem ha
    simp only [List.length_cons]
    omega
theorem nodup_full (l u : List Int) (hn : l.Nodup) (hs : ∀ x ∈ l, x ∈ u) (hl : u.length ≤ l.length) : ∀ x ∈ u, x ∈ l := by
  intro x hx
  by_cases h : x ∈ l
  · exact h
  · have := nodup_sub (x :: l) u (List.nodup_cons.2 ⟨h, hn⟩) (fun y hy => by
      rcases List.mem_cons.1 hy with e | e
      · exact e ▸ hx
      · exact hs y e)
    simp only [List.length_cons] at this
    omega
def upto (n : Nat) : List Int := (List.range n).map fun (i : Nat) => (i : Int)
theorem upto_len (n : Nat) : (upto n).length = n := by simp [upto]
theorem mem_upto {n : Nat} {x : Int} : x ∈ upto n ↔ 0 ≤ x ∧ x < n := by
  unfold upto; rw [List.mem_map]
  constructor
  · rintro ⟨i, hi, rfl⟩
    rw [List.mem_range] at hi
    omega
  · intro h
    exact ⟨x.toNat, List.mem_range.2 (by omega), by omega⟩

/-- Pages that are there and used, each once. -/
def Once (ps : List Pg) (out : List Int) : Prop := out.Nodup ∧ ∀ i ∈ out, pgOk ps i
theorem Once.len {ps : List Pg} {out : List Int} (h : Once ps out) : out.length ≤ ps.length := by
  have := nodup_sub out (upto ps.length) h.1 (fun x hx => mem_upto.2 ⟨(h.2 x hx).1, (h.2 x hx).2.1⟩); rwa [upto_len] at this
theorem Once.nil (ps : List Pg) : Once ps [] := ⟨List.nodup_nil, fun _ h => absurd h (List.not_mem_nil)⟩
theorem Once.snoc {ps : List Pg} {out : List Int} (h : Once ps out) {i : Int} (hi : pgOk ps i) (hn : i ∉ out) : Once ps (out ++ [i]) := by
  refine ⟨?_, fun x hx => ?_⟩
  · rw [List.nodup_append]
    refine ⟨h.1, by simp, ?_⟩
    intro a ha b hb e
    rw [List.mem_singleton] at hb; subst hb; subst e; exact hn ha
  · rcases List.mem_append.1 hx with hx | hx
    · exact h.2 x hx
    · rw [List.mem_singleton] at hx
      exact hx ▸ hi

theorem walkL_ends (ps : List Pg) (n : Nat) (ih : ∀ out, Once ps out → ps.length ≤ out.length + n → ∀ i, ∃ r, Evn (fun k => walkM k ps i out) r ∧ Once ps r ∧ out.length ≤ r.length) (b : Bool) (es : List En) (he : es.length ≤ 1048576) :
    ∀ d x : Nat, x + d = es.length → ∀ o, Once ps o → ps.length ≤ o.length + n → ∃ r, Evn (fun k => walkL k ps b es o (x : Int)) r ∧ Once ps r ∧ o.length ≤ r.length
  | 0, x, hx, o, ho, hn => ⟨o, Evn.step (fun k => by rw [walkL, if_neg (by omega)]) (Evn.ret _), ho, Nat.le_refl _⟩
  | d + 1, x, hx, o, ho, hn => by
    cases b with
    | true => exact ⟨o, Evn.step (fun k => by rw [walkL, if_pos (by omega), if_pos rfl]) (Evn.ret _), ho, Nat.le_refl _⟩
    | false =>
      obtain ⟨r1, h1, o1, l1⟩ := ih o ho hn (rd_T103 es (x : Int)).f0; obtain ⟨r2, h2, o2, l2⟩ := walkL_ends ps n ih false es he d (x + 1) (by omega) r1 o1 (by omega)
      have hw : wrap64 ((x : Int) + 1) = ((x + 1 : Nat) : Int) := by
        unfold wrap64
        omega
      exact ⟨r2, Evn.step (fun k => by rw [walkL, if_pos (by omega), if_neg (by decide), if_pos (by omega), hw]) (Evn.bind h1 h2), o2, by omega⟩
theorem walk_ends (ps : List Pg) (hp : ps.length ≤ 1048576) (he : ∀ p ∈ ps, p.f1.f1.length ≤ 1048576) : ∀ n out, Once ps out → ps.length ≤ out.length + n → ∀ i, ∃ r, Evn (fun k => walkM k ps i out) r ∧ Once ps r ∧ out.length ≤ r.length := by
  intro n
  induction n with
  | zero =>
    intro out ho hn i
    have hl := ho.len
    by_cases h1 : pgOk ps i
    · by_cases h2 : i ∈ out
      · exact ⟨out, Evn.step (fun k => by rw [walkM, if_pos h1, if_pos (by omega), if_pos h2]) (Evn.ret _), ho, Nat.le_refl _⟩
      · have := (ho.snoc h1 h2).len
        rw [List.length_append, List.length_singleton] at this
        omega
    · exact ⟨out, Evn.step (fun k => by rw [walkM, if_neg h1]) (Evn.ret _), ho, Nat.le_refl _⟩
  | succ n ih =>
    intro out ho hn i
    have hl := ho.len
    by_cases h1 : pgOk ps i
    · by_cases h2 : i ∈ out
      · exact ⟨out, Evn.step (fun k => by rw [walkM, if_pos h1, if_pos (by omega), if_pos h2]) (Evn.ret _), ho, Nat.le_refl _⟩
      · have hes : (rd_T90 ps i).f1.f1.length ≤ 1048576 := by
          obtain ⟨m, rfl⟩ : ∃ m : Nat, i = (m : Int) := ⟨i.toNat, by have := h1.1; omega⟩
          have hm : m < ps.length := by have := h1.2.1; omega
          rw [rdPg_at ps m hm]; exact he _ (List.getElem_mem hm)
        obtain ⟨r, hr, h3, h4⟩ := walkL_ends ps n ih _ _ hes _ 0 (Nat.zero_add _) (out ++ [i]) (ho.snoc h1 h2) (by rw [List.length_append, List.length_singleton]; omega); refine ⟨r, Evn.step (fun k => by rw [walkM, if_pos h1, if_pos (by omega), if_neg h2]; rfl) hr, h3, ?_⟩; rw [List.length_append, List.length_singleton] at h4
        omega
    · exact ⟨out, Evn.step (fun k => by rw [walkM, if_neg h1]) (Evn.ret _), ho, Nat.le_refl _⟩
/-- What is reached from the root on. -/
theorem reach_ends (ps : List Pg) (hp : ps.length ≤ 1048576) (he : ∀ p ∈ ps, p.f1.f1.length ≤ 1048576) (i : Int) : ∃ r, Evn (fun k => walkM k ps i []) r ∧ Once ps r := by
  obtain ⟨r, h1, h2, _⟩ := walk_ends ps hp he ps.length [] (Once.nil ps) (by simp) i; exact ⟨r, h1, h2⟩

/-- The pages that an inner page names. -/
def kids (ps : List Pg) (i : Int) : List Int := if (rd_T90 ps i).f1.f0 = true then [] else (rd_T90 ps i).f1.f1.map (fun e => e.f0)
/-- Each page is the root, or is named by one ahead of it. -/
def Led (ps : List Pg) (root : Int) (l : List Int) : Prop := ∀ a j b, l = a ++ j :: b → j = root ∨ ∃ p ∈ a, j ∈ kids ps p
theorem Led.nil (ps : List Pg) (root : Int) : Led ps root [] := fun a j b h => by simp at h
theorem Led.snoc {ps : List Pg} {root : Int} {l : List Int} {i : Int} (h : Led ps root l) (hi : i = root ∨ ∃ p ∈ l, i ∈ kids ps p) : Led ps root (l ++ [i]) := by
  intro a j b e
  rcases List.eq_nil_or_concat b with hb | ⟨b', x, hb⟩
  · subst hb
    have := List.append_inj' e rfl; obtain ⟨rfl, h2⟩ := this
    injection h2 with h2
    subst h2; exact hi
  · subst hb
    have e2 : l ++ [i] = (a ++ j :: b') ++ [x] := by rw [e]; simp
    have := List.append_inj' e2 rfl; exact h a j b' this.1
theorem walkL_leaf' {k : Nat} {ps : List Pg} {es : List En} {o r : List Int} {x : Int} (h : walkL k ps true es o x = some r) : r = o := by
  cases k with
  | zero => simp [walkL] at h
  | succ k =>
    rw [walkL, if_pos rfl] at h
    split at h <;> exact (Option.some.inj h).symm
/-- What is new is closed. -/
def Shut (ps : List Pg) (out r : List Int) : Prop := ∀ j ∈ r, j ∈ out ∨ ∀ c ∈ kids ps j, pgOk ps c → c ∈ r
theorem walk_tree (ps : List Pg) (root : Int) (he : ∀ p ∈ ps, p.f1.f1.length ≤ 1048576) : ∀ k,
    (∀ i out r, Led ps root out → (i = root ∨ ∃ p ∈ out, i ∈ kids ps p) → walkM k ps i out = some r → Led ps root r ∧ (∀ j ∈ out, j ∈ r) ∧ (pgOk ps i → i ∈ r) ∧ Shut ps out r) ∧
    (∀ (j : Int) (out r : List Int) (x : Nat), Led ps root out → j ∈ out → pgOk ps j → (rd_T90 ps j).f1.f0 = false → walkL k ps false (rd_T90 ps j).f1.f1 out (x : Int) = some r →
      Led ps root r ∧ (∀ j ∈ out, j ∈ r) ∧ (∀ c ∈ (kids ps j).drop x, pgOk ps c → c ∈ r) ∧ Shut ps out r)
  | 0 => ⟨fun _ _ _ _ _ h => by simp [walkM] at h, fun _ _ _ _ _ _ _ _ h => by simp [walkL] at h⟩
  | k + 1 => by
    obtain ⟨ih1, ih2⟩ := walk_tree ps root he k
    constructor
    · intro i out r hl hi h
      rw [walkM] at h
      by_cases h1 : pgOk ps i
      · rw [if_pos h1] at h
        by_cases h3 : out.length < 17592186044415
        · rw [if_pos h3] at h
          by_cases h2 : i ∈ out
          · rw [if_pos h2] at h
            obtain rfl := Option.some.inj h; exact ⟨hl, fun _ h => h, fun _ => h2, fun j hj => .inl hj⟩
          · rw [if_neg h2] at h
            have hl2 := hl.snoc hi; have hin : i ∈ out ++ [i] := List.mem_append_right _ (List.mem_singleton.2 rfl)
            cases hb : (rd_T90 ps i).f1.f0 with
            | true =>
              rw [hb] at h; obtain rfl := walkL_leaf' h; refine ⟨hl2, fun j hj => List.mem_append_left _ hj, fun _ => hin, fun j hj => ?_⟩
              rcases List.mem_append.1 hj with hj | hj
              · exact .inl hj
              · rw [List.mem_singleton] at hj
                subst hj; refine .inr (fun c hc => ?_); unfold kids at hc; rw [if_pos hb] at hc; exact absurd hc List.not_mem_nil
            | false =>
              rw [hb] at h; obtain ⟨a1, a2, a3, a4⟩ := ih2 i (out ++ [i]) r 0 hl2 hin h1 hb h; refine ⟨a1, fun j hj => a2 j (List.mem_append_left _ hj), fun _ => a2 i hin, fun j hj => ?_⟩
              rcases a4 j hj with hj2 | hj2
              · rcases List.mem_append.1 hj2 with hj2 | hj2
                · exact .inl hj2
                · rw [List.mem_singleton] at hj2
                  subst hj2; exact .inr (fun c hc => a3 c (by rwa [List.drop_zero]))
              · exact .inr hj2
        · rw [if_neg h3] at h
          exact absurd h (by simp)
      · rw [if_neg h1] at h
        obtain rfl := Option.some.inj h; exact ⟨hl, fun _ h => h, fun h => absurd h h1, fun j hj => .inl hj⟩
    · intro j out r x hl hj hjo hb h
      have hes : (rd_T90 ps j).f1.f1.length ≤ 1048576 := by
        obtain ⟨m, rfl⟩ : ∃ m : Nat, j = (m : Int) := ⟨j.toNat, by have := hjo.1; omega⟩
        have hm : m < ps.length := by have := hjo.2.1; omega
        rw [rdPg_at ps m hm]; exact he _ (List.getElem_mem hm)
      have hk : kids ps j = (rd_T90 ps j).f1.f1.map (fun e => e.f0) := by
        unfold kids; rw [if_neg (by rw [hb]; decide)]
      rw [walkL] at h
      by_cases hx : x < (rd_T90 ps j).f1.f1.length
      · rw [if_pos (by omega), if_neg (by decide), if_pos (by omega)] at h
        obtain ⟨o, ho, h⟩ := Option.bind_eq_some_iff.mp h
        have hw : wrap64 ((x : Int) + 1) = ((x + 1 : Nat) : Int) := by
          unfold wrap64
          omega
        rw [hw] at h
        have hrd : (rd_T103 (rd_T90 ps j).f1.f1 (x : Int)).f0 = (kids ps j)[x]'(by rw [hk, List.length_map]; exact hx) := by
          have e0 : ∀ (l : List En) (h : x < l.length), (l.getD x z103).f0 = (l.map (fun e => e.f0))[x]'(by rw [List.length_map]; exact h) := fun l h => by
            rw [List.getD_eq_getElem?_getD, List.getElem?_eq_getElem h]
            simp
          simp only [hk]
          exact e0 _ hx
        rw [hrd] at ho; have hmem : (kids ps j)[x]'(by rw [hk, List.length_map]; exact hx) ∈ kids ps j := List.getElem_mem _; obtain ⟨a1, a2, a3, a4⟩ := ih1 _ out o hl (.inr ⟨j, hj, hmem⟩) ho; obtain ⟨b1, b2, b3, b4⟩ := ih2 j o r (x + 1) a1 (a2 j hj) hjo hb h; refine ⟨b1, fun q hq => b2 q (a2 q hq), fun c hc hco => ?_, fun q hq => ?_⟩
        · rw [List.drop_eq_getElem_cons (by rw [hk, List.length_map]; exact hx)] at hc
          rcases List.mem_cons.1 hc with hc | hc
          · subst hc
            exact b2 _ (a3 hco)
          · exact b3 c hc hco
        · rcases b4 q hq with hq | hq
          · rcases a4 q hq with hq | hq
            · exact .inl hq
            · exact .inr (fun c hc hco => b2 c (hq c hc hco))
          · exact .inr hq
      · rw [if_neg (by omega)] at h
        obtain rfl := Option.some.inj h; refine ⟨hl, fun _ h => h, fun c hc => ?_, fun q hq => .inl hq⟩; rw [List.drop_eq_nil_of_le (by rw [hk, List.length_map]; omega)] at hc; exact absurd hc List.not_mem_nil
/-- What is reached from the root on. -/
structure Reached (ps : List Pg) (root : Int) (r : List Int) : Prop where
  once : Once ps r
  led : Led ps root r
  shut : ∀ j ∈ r, ∀ c ∈ kids ps j, pgOk ps c → c ∈ r
  root_mem : pgOk ps root → root ∈ r
  none : ¬ pgOk ps root → r = []
theorem reached (ps : List Pg) (hp : ps.length ≤ 1048576) (he : ∀ p ∈ ps, p.f1.f1.length ≤ 1048576) (i : Int) : ∃ r, Evn (fun k => walkM k ps i []) r ∧ Reached ps i r := by
  obtain ⟨r, ⟨K, hK⟩, h2⟩ := reach_ends ps hp he i; obtain ⟨a1, a2, a3, a4⟩ := (walk_tree ps i he K).1 i [] r (Led.nil _ _) (.inl rfl) (hK K (Nat.le_refl _)); refine ⟨r, ⟨K, hK⟩, h2, a1, fun j hj => ?_, a3, fun hno => ?_⟩
  · rcases a4 j hj with h | h
    · exact absurd h List.not_mem_nil
    · exact h
  · have h : walkM (K + 1) ps i [] = some r := hK (K + 1) (by omega)
    rw [walkM, if_neg hno] at h; exact (Option.some.inj h).symm

theorem spec_l1In_f (a b c : Int) : spec_l1In.f a b c = some (decide (b ≤ a ∧ a ≤ c)) := by
  unfold spec_l1In.f
  split <;> simp_all
  omega
theorem impl_in_f (a b c : Int) : impl_in.f a b c = some (decide (b ≤ a ∧ a ≤ c)) := by
  unfold impl_in.f
  split <;> simp_all
  omega

def bok (a b c d : Int) : Bool := decide (0 ≤ a ∧ a ≤ c ∧ c ≤ 255 ∧ 0 ≤ b ∧ b ≤ d ∧ d ≤ 255)

theorem spec_BoxOk_f (a b c d : Int) : spec_BoxOk.f a b c d = some (bok a b c d) := by
  unfold spec_BoxOk.f bok
  simp only [spec_l1In_f, Option.bind_some]
  by_cases h0 : 0 ≤ a ∧ a ≤ 255
  · by_cases h1 : 0 ≤ b ∧ b ≤ 255
    · by_cases h2 : a ≤ c ∧ c ≤ 255
      · simp only [h0, h1, h2, and_self, decide_true, if_true]
        congr 1
        simp
      · simp only [h0, h1, h2, and_self, decide_true, decide_false, if_true]
        simp
        omega
    · simp only [h0, h1, and_self, decide_true, decide_false, if_true]
      simp
      omega
  · simp only [h0, decide_false]
    simp
    omega
theorem impl_BoxOk_f (a b c d : Int) : impl_BoxOk.f a b c d = some (bok a b c d) := by
  unfold impl_BoxOk.f bok
  simp only [impl_in_f, Option.bind_some]
  by_cases h0 : 0 ≤ a ∧ a ≤ c
  · by_cases h1 : 0 ≤ c ∧ c ≤ 255
    · by_cases h2 : 0 ≤ b ∧ b ≤ d
      · simp only [h0, h1, h2, and_self, decide_true, if_true]
        congr 1
        simp
        omega
      · simp only [h0, h1, h2, and_self, decide_true, decide_false, if_true]
        simp
        omega
    · simp only [h0, h1, and_self, decide_true, decide_false, if_true]
      simp
      omega
  · simp only [h0, decide_false]
    simp
    omega

/-- The place of the first entry of a number, from x on. -/
def idxE (es : List En) (n : Int) : Nat → Nat → Int
  | 0, _ => -1
  | d + 1, x => if (es.getD x z103).f0 = n then (x : Int) else idxE es n d (x + 1)
theorem entryAt_both (es : List En) (n : Int) (hl : es.length ≤ 1048576) : ∀ d x : Nat, x + d = es.length → Evn (fun k => spec_EntryAt.l0 k es n (x : Int)) (idxE es n d x) ∧ Evn (fun k => impl_EntryAt.l0 k es n (x : Int)) (idxE es n d x)
  | 0, x, hx => ⟨Evn.step (fun k => by rw [spec_EntryAt.l0, if_neg (by omega)]; rfl) (Evn.ret _), Evn.step (fun k => by rw [impl_EntryAt.l0, if_neg (by omega)]; rfl) (Evn.ret _)⟩
  | d + 1, x, hx => by
    have hw : wrap64 ((x : Int) + 1) = ((x + 1 : Nat) : Int) := by
      unfold wrap64
      omega
    have ih := entryAt_both es n hl d (x + 1) (by omega); rw [idxE]
    by_cases h : (es.getD x z103).f0 = n
    · rw [if_pos h]
      exact ⟨Evn.step (fun k => by rw [spec_EntryAt.l0, if_pos (by omega), if_pos (by omega), rdE_at, if_pos h]) (Evn.ret _), Evn.step (fun k => by rw [impl_EntryAt.l0, if_pos (by omega), if_pos (by omega), rdE_at, if_pos h]) (Evn.ret _)⟩
    · rw [if_neg h]
      exact ⟨Evn.step (fun k => by rw [spec_EntryAt.l0, if_pos (by omega), if_pos (by omega), rdE_at, if_neg h, hw]) ih.1, Evn.step (fun k => by rw [impl_EntryAt.l0, if_pos (by omega), if_pos (by omega), rdE_at, if_neg h, hw]) ih.2⟩
def entryAt (es : List En) (n : Int) : Int := idxE es n es.length 0
theorem spec_EntryAt_f (es : List En) (n : Int) (hl : es.length ≤ 1048576) : Evn (fun k => spec_EntryAt.f k es n) (entryAt es n) := (entryAt_both es n hl es.length 0 (by omega)).1
theorem impl_EntryAt_f (es : List En) (n : Int) (hl : es.length ≤ 1048576) : Evn (fun k => impl_EntryAt.f k es n) (entryAt es n) := (entryAt_both es n hl es.length 0 (by omega)).2
def numOk (lf : Bool) (n : Int) : Bool := if lf = true then decide (1 ≤ n ∧ n ≤ 999) else decide (0 ≤ n ∧ n ≤ 47)
/-- Entry x of a node is right. -/
def entOk (lf : Bool) (es : List En) (x : Nat) : Bool := bok (es.getD x z103).f1.f0 (es.getD x z103).f1.f1 (es.getD x z103).f1.f2 (es.getD x z103).f1.f3 && (decide (entryAt es (es.getD x z103).f0 = x) && numOk lf (es.getD x z103).f0)
def entsOk (lf : Bool) (es : List En) : Nat → Nat → Bool
  | 0, _ => true
  | d + 1, x => entOk lf es x && entsOk lf es d (x + 1)
def sizeOk (lf : Bool) (es : List En) : Bool := decide (es.length ≤ 4) && (lf || decide (0 < es.length))
def nodeOk (lf : Bool) (es : List En) : Bool := entsOk lf es es.length 0 && sizeOk lf es
theorem spec_node (lf : Bool) (es : List En) (hl : es.length ≤ 1048576) : ∀ d x : Nat, x + d = es.length → Evn (fun k => spec_NodeOk.l0 k (x : Int) lf es) (entsOk lf es d x && sizeOk lf es)
  | 0, x, hx => by
    refine Evn.step (fun k => ?_) (Evn.ret _); rw [spec_NodeOk.l0, if_neg (by omega), entsOk, Bool.true_and]; unfold sizeOk
    by_cases h : es.length ≤ 4
    · rw [if_pos (by omega), decide_eq_true h, Bool.true_and]
      cases lf with
      | true => rfl
      | false =>
        rw [if_neg (by decide), Bool.false_or]
        congr 1
        rw [decide_eq_decide]
        omega
    · rw [if_neg (by omega), decide_eq_false h, Bool.false_and]
  | d + 1, x, hx => by
    have ih := spec_node lf es hl d (x + 1) (by omega)
    have hw : wrap64 ((x : Int) + 1) = ((x + 1 : Nat) : Int) := by
      unfold wrap64
      omega
    refine Evn.step (fun k => by rw [spec_NodeOk.l0, if_pos (by omega), if_pos (by omega), rdE_at, spec_BoxOk_f, hw]) ?_; rw [entsOk]; unfold entOk
    generalize (es.getD x z103) = e
    refine Evn.bind (Evn.ret _) ?_
    cases bok e.f1.f0 e.f1.f1 e.f1.f2 e.f1.f3 with
    | false => exact Evn.neg (by decide) (Evn.ret _)
    | true =>
      refine Evn.pos rfl (Evn.bind (spec_EntryAt_f es e.f0 hl) ?_)
      by_cases h2 : entryAt es e.f0 = x
      · refine Evn.pos h2 ?_
        rw [decide_eq_true h2]
        simp only [Bool.true_and]
        unfold numOk
        cases lf with
        | true =>
          refine Evn.pos rfl ?_; rw [if_pos rfl]; refine Evn.bind (Evn.const fun _ => spec_l1In_f _ _ _) ?_
          by_cases h3 : 1 ≤ e.f0 ∧ e.f0 ≤ 999
          · rw [decide_eq_true h3, Bool.true_and]
            exact Evn.pos rfl ih
          · rw [decide_eq_false h3, Bool.false_and]
            exact Evn.neg (by decide) (Evn.ret _)
        | false =>
          refine Evn.neg (by decide) ?_; rw [if_neg (by decide)]; refine Evn.bind (Evn.const fun _ => spec_l1In_f _ _ _) ?_
          by_cases h3 : 0 ≤ e.f0 ∧ e.f0 ≤ 47
          · rw [decide_eq_true h3, Bool.true_and]
            exact Evn.pos rfl ih
          · rw [decide_eq_false h3, Bool.false_and]
            exact Evn.neg (by decide) (Evn.ret _)
      · rw [decide_eq_false h2]
        exact Evn.neg h2 (Evn.ret _)
theorem impl_node (lf : Bool) (es : List En) (hl : es.length ≤ 1048576) : ∀ d x : Nat, x + d = es.length → Evn (fun k => impl_NodeOk.l0 k es (es.length : Int) (x : Int) lf es) (entsOk lf es d x)
  | 0, x, hx => Evn.step (fun k => by rw [impl_NodeOk.l0, if_neg (by omega), entsOk]) (Evn.ret _)
  | d + 1, x, hx => by
    have ih := impl_node lf es hl d (x + 1) (by omega)
    have hw : wrap64 ((x : Int) + 1) = ((x + 1 : Nat) : Int) := by
      unfold wrap64
      omega
    refine Evn.step (fun k => by rw [impl_NodeOk.l0, if_pos (by omega), if_pos (by omega), if_pos (by omega), rdE_at, impl_BoxOk_f, hw]) ?_; rw [entsOk]; unfold entOk numOk
    generalize (es.getD x z103) = e
    cases lf with
    | true =>
      refine Evn.pos rfl (Evn.bind (Evn.const fun _ => impl_in_f _ _ _) ?_); rw [if_pos rfl]
      by_cases h3 : 1 ≤ e.f0 ∧ e.f0 ≤ 999
      · rw [decide_eq_true h3, Bool.and_true]
        refine Evn.pos rfl (Evn.bind (Evn.ret _) ?_)
        cases bok e.f1.f0 e.f1.f1 e.f1.f2 e.f1.f3 with
        | false => exact Evn.neg (by decide) (Evn.ret _)
        | true =>
          refine Evn.pos rfl (Evn.bind (impl_EntryAt_f es e.f0 hl) ?_)
          by_cases h2 : entryAt es e.f0 = x
          · rw [decide_eq_true h2]
            exact Evn.pos h2 ih
          · rw [decide_eq_false h2]
            exact Evn.neg h2 (Evn.ret _)
      · rw [decide_eq_false h3, Bool.and_false, Bool.and_false, Bool.false_and]
        exact Evn.neg (by decide) (Evn.ret _)
    | false =>
      refine Evn.neg (by decide) (Evn.bind (Evn.const fun _ => impl_in_f _ _ _) ?_); rw [if_neg (by decide)]
      by_cases h3 : 0 ≤ e.f0 ∧ e.f0 ≤ 47
      · rw [decide_eq_true h3, Bool.and_true]
        refine Evn.pos rfl (Evn.bind (Evn.ret _) ?_)
        cases bok e.f1.f0 e.f1.f1 e.f1.f2 e.f1.f3 with
        | false => exact Evn.neg (by decide) (Evn.ret _)
        | true =>
          refine Evn.pos rfl (Evn.bind (impl_EntryAt_f es e.f0 hl) ?_)
          by_cases h2 : entryAt es e.f0 = x
          · rw [decide_eq_true h2]
            exact Evn.pos h2 ih
          · rw [decide_eq_false h2]
            exact Evn.neg h2 (Evn.ret _)
      · rw [decide_eq_false h3, Bool.and_false, Bool.and_false, Bool.false_and]
        exact Evn.neg (by decide) (Evn.ret _)
theorem spec_NodeOk_f (lf : Bool) (es : List En) (hl : es.length ≤ 1048576) : Evn (fun k => spec_NodeOk.f k lf es) (nodeOk lf es) := spec_node lf es hl es.length 0 (by omega)
theorem impl_NodeOk_f (lf : Bool) (es : List En) (hl : es.length ≤ 1048576) : Evn (fun k => impl_NodeOk.f k lf es) (nodeOk lf es) := by
  have h := impl_node lf es hl es.length 0 (by omega); unfold impl_NodeOk.f nodeOk sizeOk
  have hf : ∀ b : Bool, Evn (fun k => impl_NodeOk.j0 k true lf es) false := fun b => Evn.step (fun k => by rw [impl_NodeOk.j0, if_pos rfl]) (Evn.ret _)
  have ht : Evn (fun k => impl_NodeOk.j0 k false lf es) (entsOk lf es es.length 0) := Evn.step (fun k => by rw [impl_NodeOk.j0, if_neg (by decide)]; rfl) h
  by_cases h4 : es.length ≤ 4
  · refine Evn.neg (by omega) ?_
    rw [decide_eq_true h4, Bool.true_and]
    cases lf with
    | true =>
      rw [Bool.true_or, Bool.and_true]; exact Evn.pos rfl ht
    | false =>
      refine Evn.neg (by decide) ?_; rw [Bool.false_or]
      by_cases h0 : 0 < es.length
      · rw [decide_eq_true h0, Bool.and_true, show ((es.length : Int) == 0) = false by rw [beq_eq_false_iff_ne]; omega]
        exact ht
      · rw [decide_eq_false h0, Bool.and_false, show ((es.length : Int) == 0) = true by rw [beq_iff_eq]; omega]
        exact hf true
  · rw [decide_eq_false h4, Bool.false_and, Bool.and_false]
    exact Evn.pos (by omega) (hf true)

theorem Evn.of_mono {α : Type} {g : Nat → Option α} {r : α} (hm : ∀ k, LeO (g k) (g (k + 1))) (k : Nat) (h : g k = some r) : Evn g r := by
  refine ⟨k, fun n hn => ?_⟩; obtain ⟨d, rfl⟩ := Nat.exists_eq_add_of_le hn
  induction d with
  | zero => exact h
  | succ d ih => exact hm _ r (ih (by omega))
theorem has_evn (l : List Int) (n : Int) (hl : l.length ≤ 4611686018427387904) : Evn (fun k => spec_l7Has.f k l n) (decide (n ∈ l)) := by
  obtain ⟨k, hk⟩ := has_f l n hl; exact Evn.of_mono (fun k => spec_l7Has.mono l n k) k hk
def pageOk (p : Pg) : Bool := if p.f0 = true then nodeOk p.f1.f0 p.f1.f1 else (!p.f1.f0 && decide (p.f1.f1.length = 0))
theorem wrapI {i : Nat} (h : i ≤ 4611686018427387904) : wrap64 ((i : Int) + 1) = ((i + 1 : Nat) : Int) := by
  unfold wrap64
  omega
theorem same_empty (b : Bool) (es : List En) : Evn (fun k => impl_SameNode.f k b es false []) (!b && decide (es.length = 0)) := by
  unfold impl_SameNode.f
  cases b with
  | true => exact Evn.neg (by decide) (Evn.ret _)
  | false =>
    refine Evn.pos (by decide) (Evn.bind (a := decide (es.length = 0)) ?_ (Evn.ret _)); unfold slices_Equal_Entry.f
    by_cases h : es.length = 0
    · rw [decide_eq_true h]
      refine Evn.pos (by rw [h]; rfl) (Evn.step (fun k => ?_) (Evn.ret _)); rw [slices_Equal_Entry.l0, if_neg (by omega)]
    · rw [decide_eq_false h]
      exact Evn.neg (by simp only [List.length_nil]; omega) (Evn.ret _)
theorem bokP_f (l : List Pg) (hl : l.length ≤ 1048576) (hp : ∀ p ∈ l, p.f1.f1.length ≤ 1048576) : ∀ d x : Nat, x + d = l.length → Evn (fun k => bokP k l (x : Int)) ((l.drop x).all pageOk)
  | 0, x, hx => by
    rw [List.drop_eq_nil_of_le (by omega)]; exact Evn.step (fun k => by rw [bokP, if_neg (by omega)]; rfl) (Evn.ret _)
  | d + 1, x, hx => by
    have ih := bokP_f l hl hp d (x + 1) (by omega)
    have hxl : x < l.length := by omega
    have hw : wrap64 ((x : Int) + 1) = ((x + 1 : Nat) : Int) := wrapI (by omega); rw [List.drop_eq_getElem_cons hxl, List.all_cons]; have hlen := hp _ (List.getElem_mem hxl); refine Evn.step (fun k => by rw [bokP, if_pos (by omega), if_pos (by omega), rdPg_at l x hxl, hw]) ?_
    generalize l[x] = p at hlen
    unfold pageOk
    by_cases hu : p.f0 = true
    · refine Evn.pos hu (Evn.bind (impl_NodeOk_f _ _ hlen) ?_)
      rw [if_pos hu]
      cases nodeOk p.f1.f0 p.f1.f1 with
      | true => exact Evn.pos rfl ih
      | false => exact Evn.neg (by decide) (Evn.ret _)
    · refine Evn.neg hu (Evn.bind (same_empty _ _) ?_)
      rw [if_neg hu]
      cases (!p.f1.f0 && decide (p.f1.f1.length = 0)) with
      | true => exact Evn.pos rfl ih
      | false => exact Evn.neg (by decide) (Evn.ret _)
theorem spec_pages (a : Int) (l : List Pg) (r : List Int) (b : Bool) (hl : l.length ≤ 1048576) (hp : ∀ p ∈ l, p.f1.f1.length ≤ 1048576) (hend : Evn (fun k => spec_BookOk.l1 k r 0 0 a l) b) : ∀ d x : Nat, x + d = l.length → Evn (fun k => spec_BookOk.l0 k r (x : Int) a l) ((l.drop x).all pageOk && b)
  | 0, x, hx => by
    rw [List.drop_eq_nil_of_le (by omega)]; exact Evn.step (fun k => by rw [spec_BookOk.l0, if_neg (by omega)]) hend
  | d + 1, x, hx => by
    have ih := spec_pages a l r b hl hp hend d (x + 1) (by omega)
    have hxl : x < l.length := by omega
    have hw : wrap64 ((x : Int) + 1) = ((x + 1 : Nat) : Int) := wrapI (by omega); rw [List.drop_eq_getElem_cons hxl, List.all_cons, Bool.and_assoc]; have hlen := hp _ (List.getElem_mem hxl); refine Evn.step (fun k => by rw [spec_BookOk.l0, if_pos (by omega), if_pos (by omega), rdPg_at l x hxl, hw]) ?_
    generalize l[x] = p at hlen
    unfold pageOk
    by_cases hu : p.f0 = true
    · refine Evn.pos hu (Evn.bind (spec_NodeOk_f _ _ hlen) ?_)
      rw [if_pos hu]
      cases nodeOk p.f1.f0 p.f1.f1 with
      | true => exact Evn.pos rfl (Evn.pos hu ih)
      | false => exact Evn.neg (by decide) (Evn.ret _)
    · refine Evn.neg hu (Evn.neg hu ?_)
      rw [if_neg hu]
      by_cases hb : p.f1.f0 = true
      · rw [hb]
        exact Evn.pos rfl (Evn.ret _)
      · refine Evn.neg hb ?_
        rw [Bool.not_eq_true] at hb; rw [hb]
        by_cases h0 : p.f1.f1.length = 0
        · rw [decide_eq_true h0]
          exact Evn.neg (by omega) ih
        · rw [decide_eq_false h0]
          exact Evn.pos (by omega) (Evn.ret _)
/-- Those that are told, behind told. -/
def tellE (ps : List Pg) (told : List Int) : List Int → Option (List Int)
  | [] => some told
  | c :: t => if pgOk ps c ∧ ¬ c ∈ told then tellE ps (told ++ [c]) t else none
def tellR (ps : List Pg) : List Int → List Int → Bool
  | _, [] => true
  | told, i :: t => match tellE ps told (kids ps i) with | none => false | some told' => tellR ps told' t
theorem tellE_once (ps : List Pg) : ∀ F told t, Once ps told → tellE ps told F = some t → Once ps t
  | [], told, t, ho, h => by
    rw [tellE] at h
    injection h with h
    exact h ▸ ho
  | c :: F, told, t, ho, h => by
    rw [tellE] at h
    by_cases hc : pgOk ps c ∧ ¬ c ∈ told
    · rw [if_pos hc] at h
      exact tellE_once ps F _ t (ho.snoc hc.1 hc.2) h
    · rw [if_neg hc] at h
      cases h
theorem bokE_f (ps : List Pg) (hl : ps.length ≤ 1048576) (es : List En) (he : es.length ≤ 1048576) : ∀ d y : Nat, y + d = es.length → ∀ told, Once ps told → Evn (fun k => bokE k ps es told (y : Int)) (tellE ps told ((es.drop y).map (fun e => e.f0)))
  | 0, y, hy, told, ho => by
    rw [List.drop_eq_nil_of_le (by omega)]; exact Evn.step (fun k => by rw [bokE, if_neg (by omega)]; rfl) (Evn.ret _)
  | d + 1, y, hy, told, ho => by
    have hyl : y < es.length := by omega
    have hw : wrap64 ((y : Int) + 1) = ((y + 1 : Nat) : Int) := wrapI (by omega); have hlen := ho.len
    have hrd : rd_T103 es (y : Int) = es[y] := by
      show es.getD y z103 = _
      rw [List.getD_eq_getElem?_getD, List.getElem?_eq_getElem hyl]
      rfl
    rw [List.drop_eq_getElem_cons hyl, List.map_cons, tellE]; refine Evn.step (fun k => by rw [bokE, if_pos (by omega), if_pos (by omega), if_pos (by omega), hrd, hw]) ?_
    by_cases hc : pgOk ps (es[y]).f0
    · refine Evn.pos hc ?_
      by_cases hm : (es[y]).f0 ∈ told
      · rw [if_neg (fun h => h.2 hm)]
        exact Evn.pos hm (Evn.ret _)
      · rw [if_pos ⟨hc, hm⟩]
        exact Evn.neg hm (bokE_f ps hl es he d (y + 1) (by omega) _ (ho.snoc hc hm))
    · rw [if_neg (fun h => hc h.1)]
      exact Evn.neg hc (Evn.ret _)
theorem bokR_f (ps : List Pg) (hl : ps.length ≤ 1048576) (hp : ∀ p ∈ ps, p.f1.f1.length ≤ 1048576) (r : List Int) (hr : ∀ i ∈ r, pgOk ps i) (hrl : r.length ≤ 1048576) : ∀ d x : Nat, x + d = r.length → ∀ told, Once ps told → Evn (fun k => bokR k ps r told (x : Int)) (tellR ps told (r.drop x))
  | 0, x, hx, told, ho => by
    rw [List.drop_eq_nil_of_le (by omega)]; exact Evn.step (fun k => by rw [bokR, if_neg (by omega)]; rfl) (Evn.ret _)
  | d + 1, x, hx, told, ho => by
    have hxl : x < r.length := by omega
    have hw : wrap64 ((x : Int) + 1) = ((x + 1 : Nat) : Int) := wrapI (by omega); have hg := hr _ (List.getElem_mem hxl)
    have hrd : rd r (x : Int) = r[x] := by
      show r.getD x 0 = _
      rw [List.getD_eq_getElem?_getD, List.getElem?_eq_getElem hxl]
      rfl
    have ih := bokR_f ps hl hp r hr hrl d (x + 1) (by omega); rw [List.drop_eq_getElem_cons hxl, tellR]; refine Evn.step (fun k => by rw [bokR, if_pos (by omega), if_pos (by omega), hrd, if_pos hg.1, if_pos hg.2.1, hw]) ?_
    generalize r[x] = i at hg
    unfold kids
    by_cases hb : (rd_T90 ps i).f1.f0 = true
    · rw [if_pos hb]
      exact Evn.pos hb (ih told ho)
    · rw [if_neg hb]
      have hes : (rd_T90 ps i).f1.f1.length ≤ 1048576 := by
        obtain ⟨m, rfl⟩ : ∃ m : Nat, i = (m : Int) := ⟨i.toNat, by have := hg.1; omega⟩
        have hm : m < ps.length := by have := hg.2.1; omega
        rw [rdPg_at ps m hm]; exact hp _ (List.getElem_mem hm)
      have hE := bokE_f ps hl _ hes _ 0 (Nat.zero_add _) told ho; rw [List.drop_zero] at hE; refine Evn.neg hb (Evn.bind hE ?_)
      cases ht : tellE ps told ((rd_T90 ps i).f1.f1.map (fun e => e.f0)) with
      | none => exact Evn.ret _
      | some t => exact ih t (tellE_once ps _ told t ho ht)
theorem tellE_some (ps : List Pg) : ∀ F told, told.Nodup → (∀ t, tellE ps told F = some t → t = told ++ F ∧ (∀ c ∈ F, pgOk ps c) ∧ (told ++ F).Nodup) ∧ ((∀ c ∈ F, pgOk ps c) → (told ++ F).Nodup → tellE ps told F = some (told ++ F))
  | [], told, hn => by
    refine ⟨fun t h => ?_, fun _ _ => by rw [tellE, List.append_nil]⟩; rw [tellE] at h
    injection h with h
    subst h
    simp [hn]
  | c :: F, told, hn => by
    have e : told ++ c :: F = (told ++ [c]) ++ F := by simp
    constructor
    · intro t h
      rw [tellE] at h
      by_cases hc : pgOk ps c ∧ ¬ c ∈ told
      · rw [if_pos hc] at h
        have hn2 : (told ++ [c]).Nodup := by
          rw [List.nodup_append]; refine ⟨hn, by simp, fun a ha b hb hab => ?_⟩; rw [List.mem_singleton] at hb; subst hb; subst hab; exact hc.2 ha
        obtain ⟨h1, h2, h3⟩ := (tellE_some ps F (told ++ [c]) hn2).1 t h; rw [e]; refine ⟨h1, fun q hq => ?_, h3⟩
        rcases List.mem_cons.1 hq with hq | hq
        · exact hq ▸ hc.1
        · exact h2 q hq
      · rw [if_neg hc] at h
        cases h
    · intro h1 h2
      have hcn : ¬ c ∈ told := by
        intro hin
        rw [List.nodup_append] at h2; exact h2.2.2 c hin c (List.mem_cons_self ..) rfl
      rw [tellE, if_pos ⟨h1 c (List.mem_cons_self ..), hcn⟩, e]; rw [e] at h2; exact (tellE_some ps F (told ++ [c]) (by rw [List.nodup_append] at h2; exact h2.1)).2 (fun q hq => h1 q (List.mem_cons_of_mem _ hq)) h2
theorem tellR_iff (ps : List Pg) : ∀ r told, told.Nodup → (tellR ps told r = true ↔ (∀ c ∈ r.flatMap (kids ps), pgOk ps c) ∧ (told ++ r.flatMap (kids ps)).Nodup)
  | [], told, hn => by simp [tellR, hn]
  | i :: r, told, hn => by
    obtain ⟨h1, h2⟩ := tellE_some ps (kids ps i) told hn; rw [tellR, List.flatMap_cons]
    constructor
    · intro h
      cases ht : tellE ps told (kids ps i) with
      | none =>
        rw [ht] at h
        cases h
      | some t =>
        rw [ht] at h; obtain ⟨rfl, h4, h5⟩ := h1 t ht; have h6 := (tellR_iff ps r _ h5).1 h; refine ⟨fun c hc => ?_, by rw [← List.append_assoc]; exact h6.2⟩
        rcases List.mem_append.1 hc with hc | hc
        · exact h4 c hc
        · exact h6.1 c hc
    · rintro ⟨h3, h4⟩
      rw [← List.append_assoc] at h4
      have h5 : (told ++ kids ps i).Nodup := by
        rw [List.nodup_append] at h4; exact h4.1
      rw [h2 (fun c hc => h3 c (List.mem_append_left _ hc)) h5]; exact (tellR_iff ps r _ h5).2 ⟨fun c hc => h3 c (List.mem_append_right _ hc), h4⟩
/-- The entries are all reached, none is the root, and with those that were counted they are one less than the pages. -/
def edgeB (r : List Int) (a : Int) (F : List Int) (e : Nat) : Bool := (F.all fun c => decide (c ∈ r) && decide (c ≠ a)) && decide (e + F.length + 1 = r.length)
theorem edgeB_out {r : List Int} {a c : Int} {F : List Int} {e : Nat} (h : ¬ c ∈ r) : edgeB r a (c :: F) e = false := by
  unfold edgeB; rw [List.all_cons, decide_eq_false h]
  rfl
theorem edgeB_root {r : List Int} {a c : Int} {F : List Int} {e : Nat} (h : c = a) : edgeB r a (c :: F) e = false := by
  unfold edgeB; rw [List.all_cons, decide_eq_false (fun hn : c ≠ a => hn h), Bool.and_false]
  rfl
theorem edgeB_next {r : List Int} {a c : Int} {F : List Int} {e : Nat} (h1 : c ∈ r) (h2 : ¬ c = a) : edgeB r a (c :: F) e = edgeB r a F (e + 1) := by
  unfold edgeB; rw [List.all_cons, decide_eq_true h1, decide_eq_true (show c ≠ a from h2), Bool.and_self, Bool.true_and, List.length_cons]
  congr 1
  rw [decide_eq_decide]
  omega
theorem edgeB_iff {r : List Int} {a : Int} {F : List Int} {e : Nat} : edgeB r a F e = true ↔ (∀ c ∈ F, c ∈ r ∧ c ≠ a) ∧ e + F.length + 1 = r.length := by
  unfold edgeB; rw [Bool.and_eq_true, List.all_eq_true, decide_eq_true_iff]
  constructor
  · rintro ⟨h1, h2⟩
    refine ⟨fun c hc => ?_, h2⟩; have := h1 c hc; rw [Bool.and_eq_true, decide_eq_true_iff, decide_eq_true_iff] at this; exact this
  · rintro ⟨h1, h2⟩
    refine ⟨fun c hc => ?_, h2⟩; rw [Bool.and_eq_true, decide_eq_true_iff, decide_eq_true_iff]; exact h1 c hc
/-- The reference's count of the entries, from page x of those that are reached on. -/
theorem small_e {e2 B y M M2 n : Nat} (h2 : e2 ≤ B + y) (hxb : B ≤ M2) (hM : M2 + M + M ≤ 4611686018427387904) (hy : y < n) (hes : n ≤ M) : e2 ≤ 4611686018427387904 := by omega
theorem small_y {y M M2 n : Nat} (hM : M2 + M + M ≤ 4611686018427387904) (hy : y < n) (hes : n ≤ M) : y ≤ 4611686018427387904 := by omega
theorem spec_edges (M : Nat) (hM : M * M + M + M ≤ 4611686018427387904) (a : Int) (l : List Pg) (r : List Int) (hp : ∀ p ∈ l, p.f1.f1.length ≤ M) (hr : ∀ i ∈ r, pgOk l i) (hrl : r.length ≤ M) :
    ∀ d x : Nat, x + d = r.length → ∀ e : Nat, e ≤ x * M → Evn (fun k => spec_BookOk.l1 k r (e : Int) (x : Int) a l) (edgeB r a ((r.drop x).flatMap (kids l)) e)
  | 0, x, hx, e, hE => by
    rw [List.drop_eq_nil_of_le (by omega)]; refine Evn.step (fun k => ?_) (Evn.ret _); rw [spec_BookOk.l1, if_neg (by omega), show wrap64 ((r.length : Int) - 1) = (r.length : Int) - 1 by unfold wrap64; omega]
    congr 1
    unfold edgeB; rw [List.flatMap_nil, List.all_nil, Bool.true_and, Bool.eq_iff_iff, beq_iff_eq, decide_eq_true_iff, List.length_nil]
    omega
  | d + 1, x, hx, e, hE => by
    have hxl : x < r.length := by omega
    have hw : wrap64 ((x : Int) + 1) = ((x + 1 : Nat) : Int) := wrapI (by omega); have hg := hr _ (List.getElem_mem hxl)
    have hrd : rd r (x : Int) = r[x] := by
      show r.getD x 0 = _
      rw [List.getD_eq_getElem?_getD, List.getElem?_eq_getElem hxl]
      rfl
    have ih0 := spec_edges M hM a l r hp hr hrl d (x + 1) (by omega)
    have ih : ∀ e : Nat, e ≤ x * M + M → Evn (fun k => spec_BookOk.l1 k r (e : Int) ((x + 1 : Nat) : Int) a l) (edgeB r a ((r.drop (x + 1)).flatMap (kids l)) e) := fun e he => ih0 e (Nat.le_trans he (Nat.le_of_eq (Nat.succ_mul x M).symm))
    clear ih0; rw [List.drop_eq_getElem_cons hxl, List.flatMap_cons]; refine Evn.step (fun k => by rw [spec_BookOk.l1, if_pos (by omega), if_pos (by omega), hrd, if_pos hg.1, if_pos hg.2.1]) ?_
    generalize r[x] = i at hg
    have hes : (rd_T90 l i).f1.f1.length ≤ M := by
      obtain ⟨m, rfl⟩ : ∃ m : Nat, i = (m : Int) := ⟨i.toNat, by have := hg.1; omega⟩
      have hm : m < l.length := by have := hg.2.1; omega
      rw [rdPg_at l m hm]; exact hp _ (List.getElem_mem hm)
    generalize (r.drop (x + 1)).flatMap (kids l) = F at ih
    have hxb : x * M ≤ M * M := Nat.mul_le_mul_right M (show x ≤ M by omega)
    generalize x * M = B at hE ih hxb
    generalize M * M = M2 at hxb hM
    unfold kids
    generalize (rd_T90 l i).f1.f1 = es at hes
    generalize (rd_T90 l i).f1.f0 = b
    cases b with
    | true =>
      rw [if_pos rfl, List.nil_append]; have h1 : Evn (fun k => spec_BookOk.j4 k r (e : Int) (x : Int) 0 false a l true es) (edgeB r a F e) := Evn.step (fun k => by rw [spec_BookOk.j4, if_neg (by decide), hw]) (ih e (by omega))
      by_cases h0 : (0 : Int) < (es.length : Int)
      · exact Evn.step (fun k => by rw [spec_BookOk.l2, if_pos h0]; rfl) h1
      · exact Evn.step (fun k => by rw [spec_BookOk.l2, if_neg h0]) h1
    | false =>
      rw [if_neg (by decide)]
      have key : ∀ d y : Nat, y + d = es.length → ∀ e2 : Nat, e2 ≤ B + y → Evn (fun k => spec_BookOk.l2 k r (e2 : Int) (x : Int) (y : Int) a l false es) (edgeB r a ((es.drop y).map (fun e => e.f0) ++ F) e2) := by
        intro d
        induction d with
        | zero =>
          intro y hy e2 h2
          rw [List.drop_eq_nil_of_le (by omega), List.map_nil, List.nil_append]; exact Evn.step (fun k => by rw [spec_BookOk.l2, if_neg (by omega)]) (Evn.step (fun k => by rw [spec_BookOk.j4, if_neg (by decide), hw]) (ih e2 (by omega)))
        | succ d ihd =>
          intro y hy e2 h2
          have hyl : y < es.length := by omega
          have hrd : rd_T103 es (y : Int) = es[y] := by
            show es.getD y z103 = _
            rw [List.getD_eq_getElem?_getD, List.getElem?_eq_getElem hyl]
            rfl
          have ih2 := ihd (y + 1) (by omega) (e2 + 1) (by omega); have hw1 : wrap64 ((y : Int) + 1) = ((y + 1 : Nat) : Int) := wrapI (small_y hM hyl hes); have hw2 : wrap64 ((e2 : Int) + 1) = ((e2 + 1 : Nat) : Int) := wrapI (small_e h2 hxb hM hyl hes); have hy0 : (0 : Int) ≤ (y : Int) := Int.natCast_nonneg y; have hy1 : (y : Int) < (es.length : Int) := Int.ofNat_lt.mpr hyl; rw [List.drop_eq_getElem_cons hyl, List.map_cons, List.cons_append]; refine Evn.step (fun k => by rw [spec_BookOk.l2, if_pos hy1]) (Evn.step (fun k => by rw [spec_BookOk.j4, if_pos (by decide), if_pos hy0, if_pos hy1, hrd, hw1, hw2]) ?_); refine Evn.bind (has_evn r _ (by omega)) ?_
          by_cases hm : (es[y]).f0 ∈ r
          · rw [decide_eq_true hm]
            refine Evn.pos rfl ?_
            by_cases ha : (es[y]).f0 = a
            · rw [edgeB_root ha]
              exact Evn.pos ha (Evn.ret _)
            · rw [edgeB_next hm ha]
              exact Evn.neg ha ih2
          · rw [decide_eq_false hm, edgeB_out hm]
            exact Evn.neg (by decide) (Evn.ret _)
      have h := key es.length 0 (by omega) e (by omega); rw [List.drop_zero] at h; exact h
/-- A list that has all of another one, which names nothing twice, and is no longer, names nothing twice itself. -/
theorem nodup_cover : ∀ (F u : List Int), u.Nodup → (∀ x ∈ u, x ∈ F) → F.length ≤ u.length → F.Nodup
  | [], u, _, _, _ => List.nodup_nil
  | c :: F, u, hu, hs, hl => by
    have hc : ¬ c ∈ F := by
      intro hin
      have := nodup_sub u F hu (fun x hx => by
        rcases List.mem_cons.1 (hs x hx) with h | h
        · exact h ▸ hin
        · exact h)
      rw [List.length_cons] at hl
      omega
    rw [List.nodup_cons]; refine ⟨hc, nodup_cover F (u.erase c) (hu.erase c) (fun x hx => ?_) ?_⟩
    · have hxu := List.mem_of_mem_erase hx
      rcases List.mem_cons.1 (hs x hxu) with h | h
      · exact absurd hx (h ▸ hu.not_mem_erase)
      · exact h
    · by_cases hcu : c ∈ u
      · rw [List.length_erase_of_mem hcu]
        rw [List.length_cons] at hl
        omega
      · rw [List.erase_of_not_mem hcu]
        rw [List.length_cons] at hl
        omega
theorem tree_iff {ps : List Pg} {root : Int} {r : List Int} (h : Reached ps root r) (hroot : pgOk ps root) : ((∀ c ∈ r.flatMap (kids ps), pgOk ps c) ∧ ([root] ++ r.flatMap (kids ps)).Nodup) ↔ ((∀ c ∈ r.flatMap (kids ps), c ∈ r ∧ c ≠ root) ∧ 0 + (r.flatMap (kids ps)).length + 1 = r.length) := by
  have hr := h.root_mem hroot; have hlen : (r.erase root).length = r.length - 1 := List.length_erase_of_mem hr; have hpos := List.length_pos_of_mem hr
  have hcov : ∀ x ∈ r.erase root, x ∈ r.flatMap (kids ps) := by
    intro x hx
    have hxr := List.mem_of_mem_erase hx
    have hne : x ≠ root := fun e => absurd hx (e ▸ h.once.1.not_mem_erase)
    obtain ⟨a, b, e⟩ := List.append_of_mem hxr
    rcases h.led a x b e with h1 | ⟨p, hp, hk⟩
    · exact absurd h1 hne
    · exact List.mem_flatMap.2 ⟨p, by rw [e]; exact List.mem_append_left _ hp, hk⟩
  constructor
  · rintro ⟨h1, h2⟩
    have hF : (r.flatMap (kids ps)).Nodup := by
      rw [List.nodup_append] at h2; exact h2.2.1
    have hne : ∀ c ∈ r.flatMap (kids ps), c ≠ root := by
      intro c hc e
      rw [List.nodup_append] at h2; exact h2.2.2 root (by simp) c hc e.symm
    have hin : ∀ c ∈ r.flatMap (kids ps), c ∈ r := by
      intro c hc
      obtain ⟨j, hj, hk⟩ := List.mem_flatMap.1 hc; exact h.shut j hj c hk (h1 c hc)
    refine ⟨fun c hc => ⟨hin c hc, hne c hc⟩, ?_⟩; have h3 := nodup_sub _ (r.erase root) hF (fun c hc => (List.mem_erase_of_ne (hne c hc)).2 (hin c hc)); have h4 := nodup_sub _ (r.flatMap (kids ps)) (h.once.1.erase root) hcov
    omega
  · rintro ⟨h1, h2⟩
    have hF := nodup_cover (r.flatMap (kids ps)) (r.erase root) (h.once.1.erase root) hcov (by omega); refine ⟨fun c hc => h.once.2 c (h1 c hc).1, ?_⟩; rw [List.nodup_append]; refine ⟨by simp, hF, fun a ha b hb e => ?_⟩; rw [List.mem_singleton] at ha; subst ha; exact (h1 b hb).2 e.symm
/-- A book is right: its pages are, and what is reached is a tree. -/
structure Right (l : List Pg) (a : Int) (r : List Int) : Prop where
  len : 1 ≤ l.length ∧ l.length ≤ 48
  root : pgOk l a
  pages : l.all pageOk = true
  tree : (∀ c ∈ r.flatMap (kids l), pgOk l c) ∧ ([a] ++ r.flatMap (kids l)).Nodup
instance (l : List Pg) (a : Int) (r : List Int) : Decidable (Right l a r) :=
  if h1 : 1 ≤ l.length ∧ l.length ≤ 48 then if h2 : pgOk l a then if h3 : l.all pageOk = true then if h4 : (∀ c ∈ r.flatMap (kids l), pgOk l c) ∧ ([a] ++ r.flatMap (kids l)).Nodup then isTrue ⟨h1, h2, h3, h4⟩ else isFalse fun h => h4 h.tree else isFalse fun h => h3 h.pages else isFalse fun h => h2 h.root else isFalse fun h => h1 h.len
theorem impl_bookOk (a : Int) (l : List Pg) (r : List Int) (hl : l.length ≤ 1048576) (hp : ∀ p ∈ l, p.f1.f1.length ≤ 1048576) (hw : Evn (fun k => walkM k l a []) r) (h : Reached l a r) : Evn (fun k => impl_BookOk.f k a l) (decide (Right l a r)) := by
  have hrl := h.once.len; unfold impl_BookOk.f
  by_cases h1 : 1 ≤ l.length ∧ l.length ≤ 48
  · refine Evn.pos (by omega) ?_
    by_cases h2 : pgOk l a
    · refine Evn.pos h2 ?_
      have h3 := bokP_f l hl hp l.length 0 (by omega); rw [List.drop_zero] at h3; refine Evn.bind h3 ?_
      by_cases h4 : l.all pageOk = true
      · rw [h4]
        refine Evn.pos rfl (Evn.bind (Evn.bind (a := r) hw (Evn.ret _)) ?_); have h5 := bokR_f l hl hp r h.once.2 (by omega) r.length 0 (by omega) [a] ((Once.nil l).snoc h2 List.not_mem_nil); rw [List.drop_zero] at h5
        have e : tellR l [a] r = decide (Right l a r) := by
          rw [Bool.eq_iff_iff, decide_eq_true_iff, tellR_iff l r [a] (by simp)]; exact ⟨fun ht => ⟨h1, h2, h4, ht⟩, fun ht => ht.tree⟩
        rw [← e]; exact h5
      · rw [decide_eq_false (fun ht : Right l a r => h4 ht.pages)]
        exact Evn.neg h4 (Evn.ret _)
    · rw [decide_eq_false (fun ht : Right l a r => h2 ht.root)]
      exact Evn.neg h2 (Evn.ret _)
  · rw [decide_eq_false (fun ht : Right l a r => h1 ht.len)]
    exact Evn.neg (by omega) (Evn.ret _)
theorem spec_bookOk (a : Int) (l : List Pg) (r : List Int) (hl : l.length ≤ 1048576) (hp : ∀ p ∈ l, p.f1.f1.length ≤ 1048576) (hw : Evn (fun k => walkM k l a []) r) (h : Reached l a r) : Evn (fun k => spec_BookOk.f k a l) (decide (Right l a r)) := by
  have hrl := h.once.len; unfold spec_BookOk.f; refine Evn.bind (a := r) hw (Evn.bind (Evn.const fun _ => spec_l1In_f _ _ _) ?_)
  by_cases h1 : 1 ≤ l.length ∧ l.length ≤ 48
  · rw [decide_eq_true (show 1 ≤ (l.length : Int) ∧ (l.length : Int) ≤ 48 by omega)]
    refine Evn.pos rfl ?_
    by_cases h2 : pgOk l a
    · have hpos := List.length_pos_of_mem (h.root_mem h2)
      rw [show ((r.length : Int) == 0) = false by rw [beq_eq_false_iff_ne]; omega]; refine Evn.step (fun k => by rw [spec_BookOk.j0, if_neg (by decide)]) ?_; have h3 := spec_edges 1048576 (by decide) a l r hp h.once.2 (by omega) r.length 0 (by omega) 0 (Nat.zero_le _); rw [List.drop_zero] at h3; have h5 := spec_pages a l r _ hl hp h3 l.length 0 (by omega); rw [List.drop_zero] at h5
      have e : (l.all pageOk && edgeB r a (r.flatMap (kids l)) 0) = decide (Right l a r) := by
        rw [Bool.eq_iff_iff, Bool.and_eq_true, edgeB_iff, decide_eq_true_iff, ← tree_iff h h2]; exact ⟨fun ht => ⟨h1, h2, ht.1, ht.2⟩, fun ht => ⟨ht.pages, ht.tree⟩⟩
      rw [← e]; exact h5
    · rw [decide_eq_false (fun ht : Right l a r => h2 ht.root), h.none h2]
      exact Evn.step (fun k => by rw [spec_BookOk.j0]; rfl) (Evn.ret _)
  · rw [decide_eq_false (show ¬ (1 ≤ (l.length : Int) ∧ (l.length : Int) ≤ 48) by omega), decide_eq_false (fun ht : Right l a r => h1 ht.len)]
    exact Evn.neg (by decide) (Evn.step (fun k => by rw [spec_BookOk.j0, if_pos rfl]) (Evn.ret _))
theorem bookOk_both (a : Int) (l : List Pg) (hl : l.length ≤ 1048576) (hp : ∀ p ∈ l, p.f1.f1.length ≤ 1048576) : ∃ b : Bool, Evn (fun k => spec_BookOk.f k a l) b ∧ Evn (fun k => impl_BookOk.f k a l) b := by
  obtain ⟨r, hw, hr⟩ := reached l hl hp a; exact ⟨_, spec_bookOk a l r hl hp hw hr, impl_bookOk a l r hl hp hw hr⟩

abbrev pgLeaf (l : List Pg) (i : Int) : Bool := (rd_T90 l i).f1.f0
abbrev pgL (l : List Pg) (i : Int) : List En := (rd_T90 l i).f1.f1
theorem pg_mem {l : List Pg} {i : Int} (h : pgOk l i) : rd_T90 l i ∈ l := by
  obtain ⟨m, rfl⟩ : ∃ m : Nat, i = (m : Int) := ⟨i.toNat, by have := h.1; omega⟩
  have hm : m < l.length := by have := h.2.1; omega
  rw [rdPg_at l m hm]; exact List.getElem_mem hm
theorem Right.len4 {l : List Pg} {a : Int} {r : List Int} (h : Right l a r) {i : Int} (hi : pgOk l i) : (pgL l i).length ≤ 4 := by
  have h1 := List.all_eq_true.1 h.pages _ (pg_mem hi); unfold pageOk at h1; rw [if_pos hi.2.2] at h1; unfold nodeOk sizeOk at h1; rw [Bool.and_eq_true, Bool.and_eq_true] at h1; exact of_decide_eq_true h1.2.1
theorem kids_leaf {l : List Pg} {i : Int} (h : pgLeaf l i = true) : kids l i = [] := if_pos h
theorem kids_inner {l : List Pg} {i : Int} (h : pgLeaf l i = false) : kids l i = (pgL l i).map (fun e => e.f0) := if_neg (by rw [show (rd_T90 l i).f1.f0 = false from h]; decide)
theorem kids_len {l : List Pg} {i : Int} : (kids l i).length ≤ (pgL l i).length := by
  cases h : pgLeaf l i with
  | true => rw [kids_leaf h]; exact Nat.zero_le _
  | false => rw [kids_inner h, List.length_map]; exact Nat.le_refl _
theorem Right.kid {l : List Pg} {a : Int} {r : List Int} (h : Right l a r) (hr : Reached l a r) {i c : Int} (hi : i ∈ r) (hc : c ∈ kids l i) : c ∈ r :=
  hr.shut i hi c hc (h.tree.1 c (List.mem_flatMap.2 ⟨i, hi, hc⟩))
/-- Who names a page is told by the page. -/
theorem flat_once {α : Type} (f : α → List Int) : ∀ (r : List α), (r.flatMap f).Nodup → ∀ p ∈ r, ∀ q ∈ r, ∀ c, c ∈ f p → c ∈ f q → p = q
  | [], _, p, hp, _, _, _, _, _ => absurd hp List.not_mem_nil
  | x :: t, h, p, hp, q, hq, c, h1, h2 => by
    rw [List.flatMap_cons, List.nodup_append] at h; obtain ⟨_, ht, hd⟩ := h
    rcases List.mem_cons.1 hp with hp2 | hp2
    · rcases List.mem_cons.1 hq with hq2 | hq2
      · rw [hp2, hq2]
      · rw [hp2] at h1
        exact absurd rfl (hd c h1 c (List.mem_flatMap.2 ⟨q, hq2, h2⟩))
    · rcases List.mem_cons.1 hq with hq2 | hq2
      · rw [hq2] at h2
        exact absurd rfl (hd c h2 c (List.mem_flatMap.2 ⟨p, hp2, h1⟩))
      · exact flat_once f t ht p hp2 q hq2 c h1 h2
theorem Right.behind {l : List Pg} {a : Int} {r : List Int} (h : Right l a r) (hr : Reached l a r) {i c : Int} (hi : i ∈ r) (hc : c ∈ kids l i) : r.idxOf i < r.idxOf c := by
  have hcr := h.kid hr hi hc; have htree := h.tree.2; rw [List.nodup_append] at htree
  have hca : c ≠ a := fun e => htree.2.2 a (by simp) c (List.mem_flatMap.2 ⟨i, hi, hc⟩) e.symm
  obtain ⟨s, t, e⟩ := List.append_of_mem hcr; have hn := hr.once.1
  rcases hr.led s c t e with h1 | ⟨p, hp, hk⟩
  · exact absurd h1 hca
  · have hpr : p ∈ r := by rw [e]; exact List.mem_append_left _ hp
    have hpi := flat_once (kids l) r htree.2.1 p hpr i hi c hk hc; subst hpi
    have hcs : c ∉ s := by
      intro hcs
      rw [e, List.nodup_append] at hn; exact hn.2.2 c hcs c (List.mem_cons_self) rfl
    rw [e, List.idxOf_append, List.idxOf_append, if_pos hp, if_neg hcs]; have := List.idxOf_lt_length_of_mem hp
    omega
/-- A number that goes down from a page to those it names. -/
def under (r : List Int) (i : Int) : Nat := r.length - r.idxOf i
theorem Right.down {l : List Pg} {a : Int} {r : List Int} (h : Right l a r) (hr : Reached l a r) {i c : Int} (hi : i ∈ r) (hc : c ∈ kids l i) : under r c < under r i := by
  have h1 := h.behind hr hi hc; have h2 := List.idxOf_lt_length_of_mem (h.kid hr hi hc); unfold under
  omega
theorem under_pos {r : List Int} {i : Int} (hi : i ∈ r) : 0 < under r i := by
  have h2 := List.idxOf_lt_length_of_mem hi; unfold under
  omega
theorem rdEnF (es : List En) (x : Nat) (h : x < es.length) : (rd_T103 es (x : Int)).f0 = (es.map (fun e => e.f0))[x]'(by rw [List.length_map]; exact h) := by
  show (es.getD x z103).f0 = _
  rw [List.getD_eq_getElem?_getD, List.getElem?_eq_getElem h]
  simp
/-- The same number of pages at most four times as many. -/
theorem flat_le (f : Int → List Int) (n : Nat) : ∀ (q : List Int), (∀ c ∈ q, (f c).length ≤ n) → (q.flatMap f).length ≤ q.length * n
  | [], _ => by simp
  | c :: q, h => by
    have h1 := h c (by simp); have h2 := flat_le f n q (fun d hd => h d (List.mem_cons_of_mem _ hd)); rw [List.flatMap_cons, List.length_append, List.length_cons, Nat.succ_mul]
    omega

theorem rdInt (r : List Int) (x : Nat) (h : x < r.length) : rd r (x : Int) = r[x] := by
  show r.getD x 0 = _
  rw [List.getD_eq_getElem?_getD, List.getElem?_eq_getElem h]
  rfl
theorem take_snoc {α : Type} (l : List α) (x : Nat) (h : x < l.length) : l.take (x + 1) = l.take x ++ [l[x]] := by
  rw [List.take_add_one, List.getElem?_eq_getElem h]
  rfl
theorem rdEn_at (l : List En) (i : Nat) (h : i < l.length) : rd_T103 l (i : Int) = l[i] := by
  show l.getD i z103 = _
  rw [List.getD_eq_getElem?_getD, List.getElem?_eq_getElem h]
  rfl
def itOf (e : En) : It := ⟨e.f0, ⟨e.f1.f0, e.f1.f1, e.f1.f2, e.f1.f3⟩⟩
def itemsOf (b : Bool) (es : List En) : List It := if b = true then es.map itOf else []
theorem itemsOf_len (b : Bool) (es : List En) : (itemsOf b es).length ≤ es.length := by
  unfold itemsOf
  split <;> simp
theorem spec_itemsOf (b : Bool) (es : List En) (he : es.length ≤ 1048576) : Evn (fun k => spec_ItemsOf.f k b es) (itemsOf b es) := by
  unfold spec_ItemsOf.f
  cases b with
  | false =>
    by_cases h : (0 : Int) < es.length
    · exact Evn.step (fun k => by rw [spec_ItemsOf.l0, if_pos h, if_neg (by decide)]; rfl) (Evn.ret _)
    · exact Evn.step (fun k => by rw [spec_ItemsOf.l0, if_neg h]; rfl) (Evn.ret _)
  | true =>
    have key : ∀ d x : Nat, x + d = es.length → Evn (fun k => spec_ItemsOf.l0 k ((es.take x).map itOf) (x : Int) true es) (es.map itOf) := by
      intro d
      induction d with
      | zero =>
        intro x hx
        obtain rfl : x = es.length := by omega
        rw [List.take_length]; exact Evn.step (fun k => by rw [spec_ItemsOf.l0, if_neg (by omega)]) (Evn.ret _)
      | succ d ih =>
        intro x hx
        have h := ih (x + 1) (by omega); rw [take_snoc es x (by omega), List.map_append] at h; refine Evn.step (fun k => ?_) h
        have hw : wrap64 ((x : Int) + 1) = ((x + 1 : Nat) : Int) := by
          unfold wrap64
          omega
        rw [spec_ItemsOf.l0, if_pos (by omega), if_pos rfl, if_pos (by omega), if_pos (by rw [List.length_map, List.length_take]; omega), hw, rdEn_at es x (by omega)]
        rfl
    exact key es.length 0 (by omega)
theorem impl_itemsOf (b : Bool) (es : List En) (he : es.length ≤ 1048576) : Evn (fun k => impl_ItemsOf.f k b es) (itemsOf b es) := by
  unfold impl_ItemsOf.f
  cases b with
  | false => exact Evn.ret _
  | true =>
    have key : ∀ d x : Nat, x + d = es.length → Evn (fun k => impl_ItemsOf.l0 k ((es.take x).map itOf) es (es.length : Int) (x : Int)) (es.map itOf) := by
      intro d
      induction d with
      | zero =>
        intro x hx
        obtain rfl : x = es.length := by omega
        rw [List.take_length]; exact Evn.step (fun k => by rw [impl_ItemsOf.l0, if_neg (by omega)]) (Evn.ret _)
      | succ d ih =>
        intro x hx
        have h := ih (x + 1) (by omega); rw [take_snoc es x (by omega), List.map_append] at h; refine Evn.step (fun k => ?_) h
        have hw : wrap64 ((x : Int) + 1) = ((x + 1 : Nat) : Int) := by
          unfold wrap64
          omega
        rw [impl_ItemsOf.l0, if_pos (by omega), if_pos (by omega), if_pos (by omega), if_pos (by rw [List.length_map, List.length_take]; omega), hw, rdEn_at es x (by omega)]
        rfl
    exact Evn.pos rfl (key es.length 0 (by omega))

def leafB (l : List Pg) (i : Int) : Bool := (rd_T90 l i).f1.f0
def pgItems (l : List Pg) (i : Int) : List It := itemsOf (rd_T90 l i).f1.f0 (rd_T90 l i).f1.f1
theorem leaves_items (l : List Pg) (r : List Int) : (r.filter (leafB l)).flatMap (pgItems l) = r.flatMap (pgItems l) := by
  induction r with
  | nil => rfl
  | cons i r ih =>
    by_cases h : leafB l i = true
    · rw [List.filter_cons_of_pos h, List.flatMap_cons, List.flatMap_cons, ih]
    · rw [List.filter_cons_of_neg h, List.flatMap_cons, ih]
      have : pgItems l i = [] := by
        unfold pgItems itemsOf; exact if_neg h
      rw [this, List.nil_append]
theorem spec_leaves (a : Int) (l : List Pg) (r : List Int) (hw : Evn (fun k => walkM k l a []) r) (ho : ∀ i ∈ r, pgOk l i) (hr : r.length ≤ 1048576) : Evn (fun k => spec_Leaves.f k a l) (r.filter (leafB l)) := by
  have key : ∀ d x : Nat, x + d = r.length → Evn (fun k => spec_Leaves.l0 k ((r.take x).filter (leafB l)) r (x : Int) a l) (r.filter (leafB l)) := by
    intro d
    induction d with
    | zero =>
      intro x hx
      obtain rfl : x = r.length := by omega
      rw [List.take_length]; exact Evn.step (fun k => by rw [spec_Leaves.l0, if_neg (by omega)]) (Evn.ret _)
    | succ d ih =>
      intro x hx
      have h := ih (x + 1) (by omega); rw [take_snoc r x (by omega), List.filter_append] at h; have hg := ho _ (List.getElem_mem (show x < r.length by omega)); have hlen : ((r.take x).filter (leafB l)).length ≤ x := Nat.le_trans (List.length_filter_le _ _) (by rw [List.length_take]; omega); refine Evn.step (fun k => ?_) h
      have hw : wrap64 ((x : Int) + 1) = ((x + 1 : Nat) : Int) := by
        unfold wrap64
        omega
      rw [spec_Leaves.l0, if_pos (by omega), if_pos (by omega), rdInt r x (by omega), if_pos hg.1, if_pos hg.2.1, hw]
      by_cases hf : leafB l r[x] = true
      · rw [List.filter_cons_of_pos hf, List.filter_nil]
        unfold leafB at hf; rw [if_pos hf, if_pos (by omega)]
      · rw [List.filter_cons_of_neg hf, List.filter_nil, List.append_nil]
        unfold leafB at hf; rw [if_neg hf]
  exact Evn.bind hw (key r.length 0 (by omega))
theorem pgItems_len (l : List Pg) (hp : ∀ p ∈ l, p.f1.f1.length ≤ 1048576) (i : Int) (hi : pgOk l i) : (rd_T90 l i).f1.f1.length ≤ 1048576 := by
  obtain ⟨m, rfl⟩ : ∃ m : Nat, i = (m : Int) := ⟨i.toNat, by have := hi.1; omega⟩
  have hm : m < l.length := by have := hi.2.1; omega
  rw [rdPg_at l m hm]; exact hp _ (List.getElem_mem hm)
theorem flat_len (l : List Pg) (hp : ∀ p ∈ l, p.f1.f1.length ≤ 1048576) : ∀ r : List Int, (∀ i ∈ r, pgOk l i) → (r.flatMap (pgItems l)).length ≤ r.length * 1048576
  | [], _ => Nat.zero_le _
  | i :: r, ho => by
    have h1 := flat_len l hp r (fun j hj => ho j (List.mem_cons_of_mem _ hj)); have h2 := pgItems_len l hp i (ho i (List.mem_cons_self ..)); have h3 := itemsOf_len (rd_T90 l i).f1.f0 (rd_T90 l i).f1.f1; rw [List.flatMap_cons, List.length_append, List.length_cons]; have h4 : (pgItems l i).length ≤ 1048576 := Nat.le_trans h3 h2
    omega
theorem spec_all (a : Int) (l : List Pg) (r : List Int) (hw : Evn (fun k => walkM k l a []) r) (hp : ∀ p ∈ l, p.f1.f1.length ≤ 1048576) (ho : ∀ i ∈ r, pgOk l i) (hr : r.length ≤ 1048576) : Evn (fun k => spec_All.f k a l) (r.flatMap (pgItems l)) := by
  refine Evn.bind (spec_leaves a l r hw ho hr) ?_; rw [← leaves_items]
  have hs : ∀ i ∈ r.filter (leafB l), pgOk l i := fun i hi => ho i (List.mem_filter.1 hi).1
  have hs2 : (r.filter (leafB l)).length ≤ 1048576 := Nat.le_trans (List.length_filter_le _ _) hr
  generalize r.filter (leafB l) = q at hs hs2
  have key : ∀ d x : Nat, x + d = q.length → Evn (fun k => spec_All.l0 k ((q.take x).flatMap (pgItems l)) q (x : Int) a l) (q.flatMap (pgItems l)) := by
    intro d
    induction d with
    | zero =>
      intro x hx
      obtain rfl : x = q.length := by omega
      rw [List.take_length]; exact Evn.step (fun k => by rw [spec_All.l0, if_neg (by omega)]) (Evn.ret _)
    | succ d ih =>
      intro x hx
      have h := ih (x + 1) (by omega); rw [take_snoc q x (by omega), List.flatMap_append, List.flatMap_singleton] at h; have hg := hs _ (List.getElem_mem (show x < q.length by omega)); have hl1 := flat_len l hp (q.take x) (fun i hi => hs i (List.mem_of_mem_take hi)); rw [List.length_take] at hl1; have hl2 := pgItems_len l hp _ hg; have hl3 := itemsOf_len (rd_T90 l q[x]).f1.f0 (rd_T90 l q[x]).f1.f1
      have hw : wrap64 ((x : Int) + 1) = ((x + 1 : Nat) : Int) := by
        unfold wrap64
        omega
      have s1 : ∀ k, spec_All.l0 (k + 1) ((q.take x).flatMap (pgItems l)) q (x : Int) a l = (spec_ItemsOf.f k (rd_T90 l q[x]).f1.f0 (rd_T90 l q[x]).f1.f1).bind fun t => (if ((q.take x).flatMap (pgItems l)).length + t.length < 3518437208883 then (spec_All.l0 k ((q.take x).flatMap (pgItems l) ++ t) q ((x + 1 : Nat) : Int) a l) else none) := by
        intro k
        rw [spec_All.l0, if_pos (by omega), if_pos (by omega), rdInt q x (by omega), if_pos hg.1, if_pos hg.2.1, hw]
      refine Evn.step s1 (Evn.bind (spec_itemsOf _ _ hl2) (Evn.pos (by omega) h))
  exact key q.length 0 (by omega)
theorem impl_all (a : Int) (l : List Pg) (r : List Int) (hw : Evn (fun k => walkM k l a []) r) (hp : ∀ p ∈ l, p.f1.f1.length ≤ 1048576) (ho : ∀ i ∈ r, pgOk l i) (hr : r.length ≤ 1048576) : Evn (fun k => impl_All.f k a l) (r.flatMap (pgItems l)) := by
  unfold impl_All.f; refine Evn.bind (a := r.flatMap (pgItems l)) ?_ (Evn.ret _); unfold impl_itemsFrom.f; refine Evn.bind (a := r) hw ?_
  have key : ∀ d x : Nat, x + d = r.length → Evn (fun k => impl_itemsFrom.l0 k ((r.take x).flatMap (pgItems l)) r (r.length : Int) (x : Int) a l) (r.flatMap (pgItems l)) := by
    intro d
    induction d with
    | zero =>
      intro x hx
      obtain rfl : x = r.length := by omega
      rw [List.take_length]; exact Evn.step (fun k => by rw [impl_itemsFrom.l0, if_neg (by omega)]) (Evn.ret _)
    | succ d ih =>
      intro x hx
      have h := ih (x + 1) (by omega); rw [take_snoc r x (by omega), List.flatMap_append, List.flatMap_singleton] at h; have hg := ho _ (List.getElem_mem (show x < r.length by omega)); have hl1 := flat_len l hp (r.take x) (fun i hi => ho i (List.mem_of_mem_take hi)); rw [List.length_take] at hl1; have hl2 := pgItems_len l hp _ hg; have hl3 := itemsOf_len (rd_T90 l r[x]).f1.f0 (rd_T90 l r[x]).f1.f1
      have hw : wrap64 ((x : Int) + 1) = ((x + 1 : Nat) : Int) := by
        unfold wrap64
        omega
      have s1 : ∀ k, impl_itemsFrom.l0 (k + 1) ((r.take x).flatMap (pgItems l)) r (r.length : Int) (x : Int) a l = (impl_ItemsOf.f k (rd_T90 l r[x]).f1.f0 (rd_T90 l r[x]).f1.f1).bind fun t => (if ((r.take x).flatMap (pgItems l)).length + t.length < 3518437208883 then (impl_itemsFrom.l0 k ((r.take x).flatMap (pgItems l) ++ t) r (r.length : Int) ((x + 1 : Nat) : Int) a l) else none) := by
        intro k
        rw [impl_itemsFrom.l0, if_pos (by omega), if_pos (by omega), if_pos (by omega), rdInt r x (by omega), if_pos hg.1, if_pos hg.2.1, hw]
      refine Evn.step s1 (Evn.bind (impl_itemsOf _ _ hl2) (Evn.pos (by omega) h))
  exact key r.length 0 (by omega)
theorem all_both (a : Int) (l : List Pg) (hl : l.length ≤ 1048576) (hp : ∀ p ∈ l, p.f1.f1.length ≤ 1048576) : ∃ r : List It, r.length ≤ 1099511627776 ∧ Evn (fun k => spec_All.f k a l) r ∧ Evn (fun k => impl_All.f k a l) r := by
  obtain ⟨r, hw, ho⟩ := reach_ends l hl hp a; have hrl := ho.len; have := flat_len l hp r ho.2; exact ⟨r.flatMap (pgItems l), by omega, spec_all a l r hw hp ho.2 (by omega), impl_all a l r hw hp ho.2 (by omega)⟩

theorem getD_I (l : List It) (i : Nat) (h : i < l.length) : l.getD i z34 = l[i] := by rw [List.getD_eq_getElem?_getD, List.getElem?_eq_getElem h]; rfl
theorem rdI_at (l : List It) (i : Nat) (h : i < l.length) : rd_T34 l (i : Int) = l[i] := getD_I l i h

theorem along_same_loop : ∀ (k : Nat) (x y d s : Int), impl_Along.l0 k x y d s = spec_Along.l0 k x y d s
  | 0, _, _, _, _ => by rw [impl_Along.l0, spec_Along.l0]
  | k + 1, x, y, d, s => by
    rw [impl_Along.l0, spec_Along.l0]
    simp only [along_same_loop k]
theorem along_halves (s : Int) (hs : 0 < s) (h : ∀ x y d : Int, ∃ r : Int, Evn (fun k => spec_Along.l0 k x y d (wrap64 (Int.tdiv s 2))) r) (x y d : Int) : ∃ r : Int, Evn (fun k => spec_Along.l0 k x y d s) r := by
  by_cases h0 : Int.tmod (wrap64 (Int.tdiv y s)) 2 = 0
  · by_cases h1 : Int.tmod (wrap64 (Int.tdiv x s)) 2 = 1
    · obtain ⟨r, hr⟩ := h (wrap64 (255 - y)) (wrap64 (255 - x)) _
      exact ⟨r, Evn.step (fun k => by rw [spec_Along.l0, if_pos (by omega), if_neg (by omega), if_pos h0, if_pos h1]) hr⟩
    · obtain ⟨r, hr⟩ := h y x _
      exact ⟨r, Evn.step (fun k => by rw [spec_Along.l0, if_pos (by omega), if_neg (by omega), if_pos h0, if_neg h1]) hr⟩
  · obtain ⟨r, hr⟩ := h x y _
    exact ⟨r, Evn.step (fun k => by rw [spec_Along.l0, if_pos (by omega), if_neg (by omega), if_neg h0]) hr⟩
theorem along_ends (x y d : Int) : ∃ r : Int, Evn (fun k => spec_Along.l0 k x y d 128) r := by
  have z : ∀ x y d : Int, ∃ r : Int, Evn (fun k => spec_Along.l0 k x y d 0) r := fun x y d => ⟨d, Evn.step (fun k => by rw [spec_Along.l0, if_neg (by omega)]) (Evn.ret _)⟩
  have e (a b : Int) (h : Int.tdiv a 2 = b) (hb : 0 ≤ b ∧ b ≤ 128) : wrap64 (Int.tdiv a 2) = b := by rw [h]; exact wrap_small (by omega) (by omega)
  have h1 := along_halves 1 (by omega) (by rw [e 1 0 (by decide) (by omega)]; exact z); have h2 := along_halves 2 (by omega) (by rw [e 2 1 (by decide) (by omega)]; exact h1); have h4 := along_halves 4 (by omega) (by rw [e 4 2 (by decide) (by omega)]; exact h2); have h8 := along_halves 8 (by omega) (by rw [e 8 4 (by decide) (by omega)]; exact h4); have h16 := along_halves 16 (by omega) (by rw [e 16 8 (by decide) (by omega)]; exact h8); have h32 := along_halves 32 (by omega) (by rw [e 32 16 (by decide) (by omega)]; exact h16); have h64 := along_halves 64 (by omega) (by rw [e 64 32 (by decide) (by omega)]; exact h32); have h128 := along_halves 128 (by omega) (by rw [e 128 64 (by decide) (by omega)]; exact h64); exact h128 x y d
theorem spec_Along_ends (x y : Int) : ∃ r : Int, Evn (fun k => spec_Along.f k x y) r := by
  unfold spec_Along.f
  have hb : ∀ b : Bool, ∃ r : Int, Evn (fun k => spec_Along.j0 k x y b) r := by
    intro b
    cases b with
    | true => exact ⟨-1, Evn.step (fun k => by rw [spec_Along.j0, if_pos rfl]) (Evn.ret _)⟩
    | false =>
      obtain ⟨r, hr⟩ := along_ends x y 0; exact ⟨r, Evn.step (fun k => by rw [spec_Along.j0, if_neg (by simp)]) hr⟩
  by_cases h : 0 ≤ x ∧ x ≤ 255
  · obtain ⟨r, hr⟩ := hb (!decide (0 ≤ y ∧ y ≤ 255))
    refine ⟨r, Evn.congr (fun k => ?_) hr⟩; rw [spec_l1In_f, Option.bind_some, if_pos (decide_eq_true h), spec_l1In_f, Option.bind_some]
  · obtain ⟨r, hr⟩ := hb true
    refine ⟨r, Evn.congr (fun k => ?_) hr⟩; rw [spec_l1In_f, Option.bind_some, if_neg (by simpa using h)]
theorem impl_Along_eq (k : Nat) (x y : Int) : impl_Along.f k x y = spec_Along.f k x y := by
  have hj : ∀ b, impl_Along.j0 k x y b = spec_Along.j0 k x y b := by
    intro b
    cases k with
    | zero => rw [impl_Along.j0, spec_Along.j0]
    | succ k => rw [impl_Along.j0, spec_Along.j0, along_same_loop]
  unfold impl_Along.f spec_Along.f; rw [impl_in_f, spec_l1In_f, impl_in_f, spec_l1In_f]
  simp only [Option.bind_some, hj]
/-- The key of a box: its place on the curve. -/
theorem key_ends (a b c d : Int) : ∃ r : Int, Evn (fun k => spec_KeyOf.f k a b c d) r := by
  unfold spec_KeyOf.f spec_Middle.f; obtain ⟨r, hr⟩ := spec_Along_ends (wrap64 (Int.tdiv (wrap64 (a + c)) 2)) (wrap64 (Int.tdiv (wrap64 (b + d)) 2)); exact ⟨r, Evn.bind (Evn.ret _) (Evn.bind hr (Evn.ret _))⟩
noncomputable def keyB (b : Bx) : Int := (key_ends b.f0 b.f1 b.f2 b.f3).choose
theorem spec_KeyOf_f (b : Bx) : Evn (fun k => spec_KeyOf.f k b.f0 b.f1 b.f2 b.f3) (keyB b) := (key_ends b.f0 b.f1 b.f2 b.f3).choose_spec
theorem impl_KeyOf_f (b : Bx) : Evn (fun k => impl_KeyOf.f k b.f0 b.f1 b.f2 b.f3) (keyB b) := by
  refine Evn.congr (fun k => ?_) (spec_KeyOf_f b); unfold impl_KeyOf.f spec_KeyOf.f impl_Middle.f spec_Middle.f
  simp only [Option.bind_some, impl_Along_eq]
/-- Is x ahead of y. -/
noncomputable def aheadB (x y : It) : Bool := decide (keyB x.f1 < keyB y.f1 ∨ keyB x.f1 = keyB y.f1 ∧ x.f0 < y.f0)
theorem spec_Ahead_f (x y : It) : Evn (fun k => spec_Ahead.f k x.f0 x.f1.f0 x.f1.f1 x.f1.f2 x.f1.f3 y.f0 y.f1.f0 y.f1.f1 y.f1.f2 y.f1.f3) (aheadB x y) := by
  unfold spec_Ahead.f; refine Evn.bind (spec_KeyOf_f x.f1) (Evn.bind (spec_KeyOf_f y.f1) ?_); unfold aheadB
  by_cases h0 : keyB x.f1 < keyB y.f1
  · refine Evn.pos h0 ?_
    rw [decide_eq_true (Or.inl h0)]; exact Evn.ret _
  · refine Evn.neg h0 ?_
    by_cases h1 : keyB x.f1 = keyB y.f1
    · refine Evn.pos h1 ?_
      have e : decide (keyB x.f1 < keyB y.f1 ∨ keyB x.f1 = keyB y.f1 ∧ x.f0 < y.f0) = decide (x.f0 < y.f0) := by
        rw [decide_eq_decide]
        constructor
        · rintro (h | h)
          · exact absurd h h0
          · exact h.2
        · exact fun h => .inr ⟨h1, h⟩
      rw [e]; exact Evn.ret _
    · refine Evn.neg h1 ?_
      rw [decide_eq_false (by rintro (h | h); exact h0 h; exact h1 h.1)]; exact Evn.ret _
theorem compare_f (a b : Int) : cmp_Compare_int.f a b = some (if a < b then -1 else if a > b then 1 else 0) := by
  unfold cmp_Compare_int.f cmp_isNaN_int.f
  simp only [Option.bind_some, bne_self_eq_false, Bool.false_eq_true, if_false]
  split
  · rfl
  · split <;> rfl
theorem or_two (a b : Int) : Evn (fun k => cmp_Or_int.f k [a, b]) (if a = 0 then b else a) := by
  unfold cmp_Or_int.f; have h0 : rd [a, b] 0 = a := rfl; have h1 : rd [a, b] 1 = b := rfl; have w01 : wrap64 (0 + 1) = 1 := wrap_small (by omega) (by omega); have w11 : wrap64 (1 + 1) = 2 := wrap_small (by omega) (by omega)
  by_cases ha : a = 0
  · rw [if_pos ha]
    refine Evn.step (g' := fun k => cmp_Or_int.l0 k 0 [a, b] 2 1) (fun k => ?_) ?_
    · rw [cmp_Or_int.l0, if_pos (by simp), if_pos (by omega), if_pos (by simp), h0, if_pos ha, w01]
      rfl
    · by_cases hb : b = 0
      · refine Evn.step (g' := fun k => cmp_Or_int.l0 k 0 [a, b] 2 2) (fun k => ?_) (Evn.step (fun k => ?_) (Evn.ret _))
        · rw [cmp_Or_int.l0, if_pos (by omega), if_pos (by omega), if_pos (by simp), h1, if_pos hb, w11]
        · rw [cmp_Or_int.l0, if_neg (by omega), hb]
      · refine Evn.step (fun k => ?_) (Evn.ret _)
        rw [cmp_Or_int.l0, if_pos (by omega), if_pos (by omega), if_pos (by simp), h1, if_neg hb]
  · rw [if_neg ha]
    refine Evn.step (fun k => ?_) (Evn.ret _); rw [cmp_Or_int.l0, if_pos (by simp), if_pos (by omega), if_pos (by simp), h0, if_neg ha]
/-- What the program's order of two items is. -/
noncomputable def orderN (x y : It) : Int := if aheadB x y = true then -1 else if aheadB y x = true then 1 else 0
theorem impl_order_f (x y : It) : Evn (fun k => impl_order.f k x.f0 x.f1.f0 x.f1.f1 x.f1.f2 x.f1.f3 y.f0 y.f1.f0 y.f1.f1 y.f1.f2 y.f1.f3) (orderN x y) := by
  unfold impl_order.f; refine Evn.bind (impl_KeyOf_f x.f1) (Evn.bind (impl_KeyOf_f y.f1) ?_); rw [compare_f, compare_f]
  simp only [Option.bind_some]
  refine Evn.bind (or_two _ _) ?_
  have e : (if (if keyB x.f1 < keyB y.f1 then (-1 : Int) else if keyB x.f1 > keyB y.f1 then 1 else 0) = 0 then (if x.f0 < y.f0 then -1 else if x.f0 > y.f0 then 1 else 0) else (if keyB x.f1 < keyB y.f1 then -1 else if keyB x.f1 > keyB y.f1 then 1 else 0)) = orderN x y := by
    unfold orderN aheadB
    simp only [decide_eq_true_eq]
    rcases Int.lt_trichotomy (keyB x.f1) (keyB y.f1) with h | h | h
    · simp [h]
    · simp [h]
    · have h1 : ¬ keyB x.f1 < keyB y.f1 := by omega
      have h2 : ¬ keyB x.f1 = keyB y.f1 := by omega
      simp [h, h1, h2]
  rw [e]; exact Evn.ret _
theorem impl_Ahead_f (x y : It) : Evn (fun k => impl_Ahead.f k x.f0 x.f1.f0 x.f1.f1 x.f1.f2 x.f1.f3 y.f0 y.f1.f0 y.f1.f1 y.f1.f2 y.f1.f3) (aheadB x y) := by
  unfold impl_Ahead.f; refine Evn.bind (impl_order_f x y) ?_
  have e : decide (orderN x y < 0) = aheadB x y := by
    unfold orderN
    cases aheadB x y <;> cases aheadB y x <;> simp
  rw [e]; exact Evn.ret _

/-- From item i on none is ahead of the one before it. -/
noncomputable def ordFrom (l : List It) : Nat → Nat → Bool
  | 0, _ => true
  | d + 1, i => if aheadB (l.getD i z34) (l.getD (i - 1) z34) = true then false else ordFrom l d (i + 1)
theorem ord_loops (l : List It) (hl : l.length ≤ big) : ∀ (d i : Nat), 1 ≤ i → i + d = max l.length 1 → Evn (fun k => spec_InOrder.l0 k l (i : Int)) (ordFrom l d i) ∧ Evn (fun k => impl_InOrder.l0 k l (i : Int)) (ordFrom l d i)
  | 0, i, h1, hd => by
    refine ⟨Evn.step (fun k => ?_) (Evn.ret _), Evn.step (fun k => ?_) (Evn.ret _)⟩
    · rw [spec_InOrder.l0, if_neg (by omega)]
      rfl
    · rw [impl_InOrder.l0, if_neg (by omega)]
      rfl
  | d + 1, i, h1, hd => by
    have hi : i < l.length := by omega
    have hw : wrap64 ((i : Int) - 1) = ((i - 1 : Nat) : Int) := by
      unfold big at hl; rw [wrap_small (by omega) (by omega)]
      omega
    obtain ⟨ih1, ih2⟩ := ord_loops l hl d (i + 1) (by omega) (by omega); have hA := spec_Ahead_f (l.getD i z34) (l.getD (i - 1) z34); have hA' := impl_Ahead_f (l.getD i z34) (l.getD (i - 1) z34); refine ⟨Evn.step (fun k => by rw [spec_InOrder.l0, if_pos (by omega), if_pos (by omega), hw, if_pos (by omega), if_pos (by omega), wrap_succ hi hl]) ?_, Evn.step (fun k => by rw [impl_InOrder.l0, if_pos (by omega), if_pos (by omega), hw, if_pos (by omega), if_pos (by omega), wrap_succ hi hl]) ?_⟩
    · refine Evn.bind hA ?_
      show Evn _ (if aheadB (l.getD i z34) (l.getD (i - 1) z34) = true then false else ordFrom l d (i + 1))
      by_cases ha : aheadB (l.getD i z34) (l.getD (i - 1) z34) = true
      · rw [if_pos ha]
        exact Evn.pos ha (Evn.ret _)
      · rw [if_neg ha]
        exact Evn.neg ha ih1
    · refine Evn.bind hA' ?_
      show Evn _ (if aheadB (l.getD i z34) (l.getD (i - 1) z34) = true then false else ordFrom l d (i + 1))
      by_cases ha : aheadB (l.getD i z34) (l.getD (i - 1) z34) = true
      · rw [if_pos ha]
        exact Evn.pos ha (Evn.ret _)
      · rw [if_neg ha]
        exact Evn.neg ha ih2
noncomputable def inOrderB (l : List It) : Bool := ordFrom l (max l.length 1 - 1) 1
theorem spec_InOrder_f (l : List It) (hl : l.length ≤ big) : Evn (fun k => spec_InOrder.f k l) (inOrderB l) := (ord_loops l hl _ 1 (by omega) (by omega)).1
theorem impl_InOrder_f (l : List It) (hl : l.length ≤ big) : Evn (fun k => impl_InOrder.f k l) (inOrderB l) := (ord_loops l hl _ 1 (by omega) (by omega)).2

end Go.Proofs.Ytngjaajcdbodeaa.Pure
