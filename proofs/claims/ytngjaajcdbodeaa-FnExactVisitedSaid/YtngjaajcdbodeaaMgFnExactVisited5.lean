/- The texts on which the row FnExactVisited rests, part 5: contracts of the functions that it reaches and plain laws of what they compute. No condition. -/
import Derived.Test.YtngjaajcdbodeaaMgFnExactVisitedW1
import Derived.Deep.Slices
import Derived.ChangeSame
import Derived.ChangeArms
import Derived.KernelRfl
import Derived.Test.YtngjaajcdbodeaaMgFnExactVisited1
import Derived.Test.YtngjaajcdbodeaaMgFnExactVisited2
import Derived.Test.YtngjaajcdbodeaaMgFnExactVisited3
import Derived.Test.YtngjaajcdbodeaaMgFnExactVisited4
namespace Go.Proofs.Ytngjaajcdbodeaa.All
open Go.RowKit Go.Proofs.YtngjaajcdbodeaaW.PrintWords Go.Proofs.YtngjaajcdbodeaaW.PrintLast Go.Proofs.YtngjaajcdbodeaaW.PrintMore Go.Proofs.Ytngjaajcdbodeaa.Sq
attribute [local go_sem] max2_int min2_int max_two min_two max_three min_three max_four min_four 
set_option linter.unusedVariables false
set_option linter.unusedSimpArgs false

/-! ### laws_FnExactVisited: function 10 -/
def laws_FnExactVisited.f (k : Nat) (a0_0 : Int) (l0_1 : List (S118)) (a1_0 : Int) (a1_1 : Int) (a1_2 : Int) (a1_3 : Int) : Option (Bool) := (laws_szBook.f k a0_0 l0_1 1048576).bind fun t861 => (if t861 < 0 then (some true) else ((laws_toBook.f k a0_0 l0_1).bind fun bt862 => ((laws_toBox.f a1_0 a1_1 a1_2 a1_3).bind fun bt866 => ((spec_Visited.f k bt862.1 bt862.2 bt866.1 bt866.2.1 bt866.2.2.1 bt866.2.2.2).bind fun t870 => ((laws_toBook.f k a0_0 l0_1).bind fun bt871 => ((laws_toBox.f a1_0 a1_1 a1_2 a1_3).bind fun bt876 => ((impl_Visited.f k bt871.1 bt871.2 bt876.1 bt876.2.1 bt876.2.2.1 bt876.2.2.2).bind fun t880 => (if t880 = t870 then ((laws_toBook.f k a0_0 l0_1).bind fun bt881 => ((laws_eqBook.f k bt871.1 bt871.2 bt881.1 bt881.2).bind fun t885 => (if t885 = true then (some true) else (some false)))) else (some false)))))))))
theorem laws_FnExactVisited.mono : ∀ a0 a1 a2 a3 a4 a5 k, LeO (laws_FnExactVisited.f k a0 a1 a2 a3 a4 a5) (laws_FnExactVisited.f (k + 1) a0 a1 a2 a3 a4 a5) := by
  intro a0 a1 a2 a3 a4 a5 k
  unfold laws_FnExactVisited.f
  repeat' first | (with_reducible first | exact impl_Visited.mono _ _ _ _ _ _ _ | exact laws_eqBook.mono _ _ _ _ _ | exact laws_szBook.mono _ _ _ _ | exact laws_toBook.mono _ _ _ | exact spec_Visited.mono _ _ _ _ _ _ _ | exact LeO.refl _ | exact LeO.none _ | refine LeO.ite ?_ ?_ | refine LeO.bind ?_ (fun _ => ?_)) | exact impl_Visited.mono _ _ _ _ _ _ _ | exact laws_eqBook.mono _ _ _ _ _ | exact laws_szBook.mono _ _ _ _ | exact laws_toBook.mono _ _ _ | exact spec_Visited.mono _ _ _ _ _ _ _ | exact LeO.none _ | refine LeO.ite ?_ ?_ | refine LeO.bind ?_ (fun _ => ?_)
set_option maxHeartbeats 8000000 in
set_option maxRecDepth 100000 in
theorem laws_FnExactVisited.calls (k : Nat) (a0_0 : Int) (A0_1 : Option Addr) (c0_1 : Nat) (l0_1 : List (S118)) (a1_0 : Int) (a1_1 : Int) (a1_2 : Int) (a1_3 : Int) (r : Bool) (w : World) (hr0_1 : Kd.C k118 w A0_1 l0_1.length l0_1) (hc0_1 : l0_1.length ≤ c0_1) (h : laws_FnExactVisited.f k a0_0 l0_1 a1_0 a1_1 a1_2 a1_3 = some r) :
    Calls Try.prog 10 #[.agg #[.int .i64 a0_0, .slice A0_1 l0_1.length c0_1], .agg #[.int .i64 a1_0, .int .i64 a1_1, .int .i64 a1_2, .int .i64 a1_3]] w fun e w' => e = .returned (.bool r) ∧ Below w.heap.size w w' := by
  have hu41 := Try.underlying41; have hu24 := Try.underlying24; have hu49 := Try.underlying49; have HR0_1 := Aside0.mk hr0_1; have HC0_1 := Aside0.mk hc0_1; clear hr0_1 hc0_1; have HB := Aside0.mk (Below.refl w.heap.size w); have H : ((laws_szBook.f k a0_0 l0_1 1048576).bind fun t861 => (if t861 < 0 then (some true) else ((laws_toBook.f k a0_0 l0_1).bind fun bt862 => ((laws_toBox.f a1_0 a1_1 a1_2 a1_3).bind fun bt866 => ((spec_Visited.f k bt862.1 bt862.2 bt866.1 bt866.2.1 bt866.2.2.1 bt866.2.2.2).bind fun t870 => ((laws_toBook.f k a0_0 l0_1).bind fun bt871 => ((laws_toBox.f a1_0 a1_1 a1_2 a1_3).bind fun bt876 => ((impl_Visited.f k bt871.1 bt871.2 bt876.1 bt876.2.1 bt876.2.2.1 bt876.2.2.2).bind fun t880 => (if t880 = t870 then ((laws_toBook.f k a0_0 l0_1).bind fun bt881 => ((laws_eqBook.f k bt871.1 bt871.2 bt881.1 bt881.2).bind fun t885 => (if t885 = true then (some true) else (some false)))) else (some false)))))))))) = some r := h; clear h; replace H := Option.bind_eq_some_iff.mp H; obtain ⟨t861, A30, H⟩ := H; replace H : (if t861 < 0 then (some true) else ((laws_toBook.f k a0_0 l0_1).bind fun bt862 => ((laws_toBox.f a1_0 a1_1 a1_2 a1_3).bind fun bt866 => ((spec_Visited.f k bt862.1 bt862.2 bt866.1 bt866.2.1 bt866.2.2.1 bt866.2.2.2).bind fun t870 => ((laws_toBook.f k a0_0 l0_1).bind fun bt871 => ((laws_toBox.f a1_0 a1_1 a1_2 a1_3).bind fun bt876 => ((impl_Visited.f k bt871.1 bt871.2 bt876.1 bt876.2.1 bt876.2.2.1 bt876.2.2.2).bind fun t880 => (if t880 = t870 then ((laws_toBook.f k a0_0 l0_1).bind fun bt881 => ((laws_eqBook.f k bt871.1 bt871.2 bt881.1 bt881.2).bind fun t885 => (if t885 = true then (some true) else (some false)))) else (some false))))))))) = some r := H; have A3 := Aside0.mk A30; clear A30
  by_cases c4 : t861 < 0
  · rw [if_pos c4] at H
    have c4b0 : decide (t861 < 0) = true := decide_eq_true c4; clear c4; obtain rfl := Option.some.inj H
    go_enter Try.func10, Try.ntmps10
    go_wp2_with (first | ((with_reducible refine gate_dst (N := 2) rfl ?_); refine box_event ?hg (N := 2) ?hd (cs := #[.int .i64 a0_0, .slice A0_1 l0_1.length c0_1]) (t := 41) ?hr ?_; (case hd => rfl); (case hg => rfl); (case hr => first | (go_simp; done) | (go_simp; rfl)); intro gb859 hg w5 hbox hb; have n0_ := Aside0.mk (below_step (bz HB.out) hb); have n1_ := Aside0.mk (hbox); have n2_ := Aside0.mk ((by rw [hg]; exact (below_size (bz HB.out)) : w.heap.size ≤ gb859)); have n3_ := Aside0.mk ((by rw [hg]; exact (below_size (bz HB.out)) : w.heap.size ≤ gb859)); clear HB; have HB := n0_; have BK859 := n1_; have GW859 := n2_; have GE859 := n3_; clear n0_ n1_ n2_ n3_; clear hb hbox hg) | ((with_reducible refine gate_dst (N := 3) rfl ?_); refine box_event ?hg (N := 3) ?hd (cs := #[.int .i64 a1_0, .int .i64 a1_1, .int .i64 a1_2, .int .i64 a1_3]) (t := 24) ?hr ?_; (case hd => rfl); (case hg => rfl); (case hr => first | (go_simp; done) | (go_simp; rfl)); intro gb860 hg w6 hbox hb; have n0_ := Aside0.mk (blk_below (g := gb859) (o := .cells #[.int .i64 a0_0, .slice A0_1 l0_1.length c0_1] 41 (0, 0)) (kz BK859.out) hb); have n1_ := Aside0.mk (below_step (b1 GE859.out HB.out) hb); have n2_ := Aside0.mk (hbox); have n3_ := Aside0.mk ((by rw [hg]; exact (below_size (b1 GE859.out HB.out)) : w.heap.size ≤ gb860)); have n4_ := Aside0.mk ((by rw [hg]; exact (below_size (b1 GE859.out HB.out)) : w.heap.size ≤ gb860)); have n5_ := Aside0.mk ((by rw [hg]; exact Nat.ne_of_lt (blk_lt (g := gb859) (o := .cells #[.int .i64 a0_0, .slice A0_1 l0_1.length c0_1] 41 (0, 0)) (kz BK859.out)) : gb859 ≠ gb860)); have n6_ := Aside0.mk ((by rw [hg]; exact Nat.ne_of_gt (blk_lt (g := gb859) (o := .cells #[.int .i64 a0_0, .slice A0_1 l0_1.length c0_1] 41 (0, 0)) (kz BK859.out)) : gb860 ≠ gb859)); clear BK859; clear HB; have BK859 := n0_; have HB := n1_; have BK860 := n2_; have GW860 := n3_; have GE860 := n4_; have NB859_860 := n5_; have NB860_859 := n6_; clear n0_ n1_ n2_ n3_ n4_ n5_ n6_; clear hb hbox hg; have hnb7 := NB859_860.out; have hnc7 := NB860_859.out; have hcz8_0 := fz BK859.out 0 (.int .i64 a0_0); have hcz8_1 := fz BK859.out 1 (.slice A0_1 l0_1.length c0_1); have hfz8_0 := blk_frozen BK859.out 0; have hfz8_1 := blk_frozen BK859.out 1) | ((with_reducible refine gate_callee (f := 23) rfl ?_); refine goesL_ (some 11) rfl rfl Try.func23 (by kernel_rfl) rfl #[.agg #[.int .i64 a0_0, .slice A0_1 l0_1.length c0_1], .int .i64 1048576] rfl dz ?_; (with_reducible refine (laws_szBook.calls k a0_0 _ _ l0_1 1048576 t861 _ ?side1 ?side2 A3.out).mono ?_); (case side1 => exact sz HR0_1.out HB.out); (case side2 => exact HC0_1.out); rintro e w9 ⟨rfl, hb⟩; refine ⟨_, rfl, ?_⟩; have n0_ := Aside0.mk (blk_below (g := gb859) (o := .cells #[.int .i64 a0_0, .slice A0_1 l0_1.length c0_1] 41 (0, 0)) (kz BK859.out) hb); have n1_ := Aside0.mk (blk_below (g := gb860) (o := .cells #[.int .i64 a1_0, .int .i64 a1_1, .int .i64 a1_2, .int .i64 a1_3] 24 (0, 0)) (kz BK860.out) hb); have n2_ := Aside0.mk (below_step (b2 GE859.out GE860.out HB.out) hb); clear BK859; clear BK860; clear HB; have BK859 := n0_; have BK860 := n1_; have HB := n2_; clear n0_ n1_ n2_; (try clear hb); (try clear hb2); (try clear hk); (try clear hi)))
    go_ret; exact ⟨ez, b2 GE859.out GE860.out HB.out⟩
  · rw [if_neg c4] at H
    have c4b0 : decide (t861 < 0) = false := decide_eq_false c4; clear c4; replace H := Option.bind_eq_some_iff.mp H; obtain ⟨⟨t862, t863⟩, A100, H⟩ := H; replace H : ((laws_toBox.f a1_0 a1_1 a1_2 a1_3).bind fun bt866 => ((spec_Visited.f k t862 t863 bt866.1 bt866.2.1 bt866.2.2.1 bt866.2.2.2).bind fun t870 => ((laws_toBook.f k a0_0 l0_1).bind fun bt871 => ((laws_toBox.f a1_0 a1_1 a1_2 a1_3).bind fun bt876 => ((impl_Visited.f k bt871.1 bt871.2 bt876.1 bt876.2.1 bt876.2.2.1 bt876.2.2.2).bind fun t880 => (if t880 = t870 then ((laws_toBook.f k a0_0 l0_1).bind fun bt881 => ((laws_eqBook.f k bt871.1 bt871.2 bt881.1 bt881.2).bind fun t885 => (if t885 = true then (some true) else (some false)))) else (some false))))))) = some r := H; have A10 := Aside0.mk A100; clear A100; replace H := Option.bind_eq_some_iff.mp H; obtain ⟨⟨t866, t867, t868, t869⟩, A110, H⟩ := H; replace H : ((spec_Visited.f k t862 t863 t866 t867 t868 t869).bind fun t870 => ((laws_toBook.f k a0_0 l0_1).bind fun bt871 => ((laws_toBox.f a1_0 a1_1 a1_2 a1_3).bind fun bt876 => ((impl_Visited.f k bt871.1 bt871.2 bt876.1 bt876.2.1 bt876.2.2.1 bt876.2.2.2).bind fun t880 => (if t880 = t870 then ((laws_toBook.f k a0_0 l0_1).bind fun bt881 => ((laws_eqBook.f k bt871.1 bt871.2 bt881.1 bt881.2).bind fun t885 => (if t885 = true then (some true) else (some false)))) else (some false)))))) = some r := H; have A11 := Aside0.mk A110; clear A110; replace H := Option.bind_eq_some_iff.mp H; obtain ⟨t870, A120, H⟩ := H; replace H : ((laws_toBook.f k a0_0 l0_1).bind fun bt871 => ((laws_toBox.f a1_0 a1_1 a1_2 a1_3).bind fun bt876 => ((impl_Visited.f k bt871.1 bt871.2 bt876.1 bt876.2.1 bt876.2.2.1 bt876.2.2.2).bind fun t880 => (if t880 = t870 then ((laws_toBook.f k a0_0 l0_1).bind fun bt881 => ((laws_eqBook.f k bt871.1 bt871.2 bt881.1 bt881.2).bind fun t885 => (if t885 = true then (some true) else (some false)))) else (some false))))) = some r := H; have A12 := Aside0.mk A120; clear A120; replace H := Option.bind_eq_some_iff.mp H; obtain ⟨⟨t871, t872⟩, A130, H⟩ := H; replace H : ((laws_toBox.f a1_0 a1_1 a1_2 a1_3).bind fun bt876 => ((impl_Visited.f k t871 t872 bt876.1 bt876.2.1 bt876.2.2.1 bt876.2.2.2).bind fun t880 => (if t880 = t870 then ((laws_toBook.f k a0_0 l0_1).bind fun bt881 => ((laws_eqBook.f k t871 t872 bt881.1 bt881.2).bind fun t885 => (if t885 = true then (some true) else (some false)))) else (some false)))) = some r := H; have A13 := Aside0.mk A130; clear A130; replace H := Option.bind_eq_some_iff.mp H; obtain ⟨⟨t876, t877, t878, t879⟩, A140, H⟩ := H; replace H : ((impl_Visited.f k t871 t872 t876 t877 t878 t879).bind fun t880 => (if t880 = t870 then ((laws_toBook.f k a0_0 l0_1).bind fun bt881 => ((laws_eqBook.f k t871 t872 bt881.1 bt881.2).bind fun t885 => (if t885 = true then (some true) else (some false)))) else (some false))) = some r := H; have A14 := Aside0.mk A140; clear A140; replace H := Option.bind_eq_some_iff.mp H; obtain ⟨t880, A150, H⟩ := H; replace H : (if t880 = t870 then ((laws_toBook.f k a0_0 l0_1).bind fun bt881 => ((laws_eqBook.f k t871 t872 bt881.1 bt881.2).bind fun t885 => (if t885 = true then (some true) else (some false)))) else (some false)) = some r := H; have A15 := Aside0.mk A150; clear A150
    by_cases c16 : t880 = t870
    · rw [if_pos c16] at H
      have c16b0 : (t880 == t870) = true := beq_iff_eq.mpr c16; have c16b1 : (t880 != t870) = false := bne_eq_false_iff_eq.mpr c16; clear c16; replace H := Option.bind_eq_some_iff.mp H; obtain ⟨⟨t881, t882⟩, A170, H⟩ := H; replace H : ((laws_eqBook.f k t871 t872 t881 t882).bind fun t885 => (if t885 = true then (some true) else (some false))) = some r := H; have A17 := Aside0.mk A170; clear A170; replace H := Option.bind_eq_some_iff.mp H; obtain ⟨t885, A180, H⟩ := H; replace H : (if t885 = true then (some true) else (some false)) = some r := H; have A18 := Aside0.mk A180; clear A180
      by_cases c19 : t885 = true
      · subst c19
        replace H : (some true) = some r := (by rw [if_pos rfl] at H; exact H); obtain rfl := Option.some.inj H
        go_enter Try.func10, Try.ntmps10
        try go_wp2_with (first | ((with_reducible refine gate_dst (N := 2) rfl ?_); refine box_event ?hg (N := 2) ?hd (cs := #[.int .i64 a0_0, .slice A0_1 l0_1.length c0_1]) (t := 41) ?hr ?_; (case hd => rfl); (case hg => rfl); (case hr => first | (go_simp; done) | (go_simp; rfl)); intro gb859 hg w20 hbox hb; have n0_ := Aside0.mk (below_step (bz HB.out) hb); have n1_ := Aside0.mk (hbox); have n2_ := Aside0.mk ((by rw [hg]; exact (below_size (bz HB.out)) : w.heap.size ≤ gb859)); have n3_ := Aside0.mk ((by rw [hg]; exact (below_size (bz HB.out)) : w.heap.size ≤ gb859)); clear HB; have HB := n0_; have BK859 := n1_; have GW859 := n2_; have GE859 := n3_; clear n0_ n1_ n2_ n3_; clear hb hbox hg) | ((with_reducible refine gate_dst (N := 3) rfl ?_); refine box_event ?hg (N := 3) ?hd (cs := #[.int .i64 a1_0, .int .i64 a1_1, .int .i64 a1_2, .int .i64 a1_3]) (t := 24) ?hr ?_; (case hd => rfl); (case hg => rfl); (case hr => first | (go_simp; done) | (go_simp; rfl)); intro gb860 hg w21 hbox hb; have n0_ := Aside0.mk (blk_below (g := gb859) (o := .cells #[.int .i64 a0_0, .slice A0_1 l0_1.length c0_1] 41 (0, 0)) (kz BK859.out) hb); have n1_ := Aside0.mk (below_step (b1 GE859.out HB.out) hb); have n2_ := Aside0.mk (hbox); have n3_ := Aside0.mk ((by rw [hg]; exact (below_size (b1 GE859.out HB.out)) : w.heap.size ≤ gb860)); have n4_ := Aside0.mk ((by rw [hg]; exact (below_size (b1 GE859.out HB.out)) : w.heap.size ≤ gb860)); have n5_ := Aside0.mk ((by rw [hg]; exact Nat.ne_of_lt (blk_lt (g := gb859) (o := .cells #[.int .i64 a0_0, .slice A0_1 l0_1.length c0_1] 41 (0, 0)) (kz BK859.out)) : gb859 ≠ gb860)); have n6_ := Aside0.mk ((by rw [hg]; exact Nat.ne_of_gt (blk_lt (g := gb859) (o := .cells #[.int .i64 a0_0, .slice A0_1 l0_1.length c0_1] 41 (0, 0)) (kz BK859.out)) : gb860 ≠ gb859)); clear BK859; clear HB; have BK859 := n0_; have HB := n1_; have BK860 := n2_; have GW860 := n3_; have GE860 := n4_; have NB859_860 := n5_; have NB860_859 := n6_; clear n0_ n1_ n2_ n3_ n4_ n5_ n6_; clear hb hbox hg; have hnb22 := NB859_860.out; have hnc22 := NB860_859.out; have hcz23_0 := fz BK859.out 0 (.int .i64 a0_0); have hcz23_1 := fz BK859.out 1 (.slice A0_1 l0_1.length c0_1); have hfz23_0 := blk_frozen BK859.out 0; have hfz23_1 := blk_frozen BK859.out 1) | ((with_reducible refine gate_callee (f := 23) rfl ?_); refine goesL_ (some 11) rfl rfl Try.func23 (by kernel_rfl) rfl #[.agg #[.int .i64 a0_0, .slice A0_1 l0_1.length c0_1], .int .i64 1048576] rfl dz ?_; (with_reducible refine (laws_szBook.calls k a0_0 _ _ l0_1 1048576 t861 _ ?side1 ?side2 A3.out).mono ?_); (case side1 => exact sz HR0_1.out HB.out); (case side2 => exact HC0_1.out); rintro e w24 ⟨rfl, hb⟩; refine ⟨_, rfl, ?_⟩; have n0_ := Aside0.mk (blk_below (g := gb859) (o := .cells #[.int .i64 a0_0, .slice A0_1 l0_1.length c0_1] 41 (0, 0)) (kz BK859.out) hb); have n1_ := Aside0.mk (blk_below (g := gb860) (o := .cells #[.int .i64 a1_0, .int .i64 a1_1, .int .i64 a1_2, .int .i64 a1_3] 24 (0, 0)) (kz BK860.out) hb); have n2_ := Aside0.mk (below_step (b2 GE859.out GE860.out HB.out) hb); clear BK859; clear BK860; clear HB; have BK859 := n0_; have BK860 := n1_; have HB := n2_; clear n0_ n1_ n2_; (try clear hb); (try clear hb2); (try clear hk); (try clear hi)))
        have n0_ := Aside0.mk (blk_drew BK859.out); have n1_ := Aside0.mk (blk_drew BK860.out); have n2_ := Aside0.mk (below_drew1 HB.out); clear BK859; clear BK860; clear HB; have BK859 := n0_; have BK860 := n1_; have HB := n2_; clear n0_ n1_ n2_; refine start_ (n := 6) (S := fun w' => w'.cell? ⟨gb859, 0, none⟩ = some (.int .i64 a0_0) ∧ w'.cell? ⟨gb859, 1, none⟩ = some (.slice A0_1 l0_1.length c0_1) ∧ w'.cell? ⟨gb860, 0, none⟩ = some (.int .i64 a1_0) ∧ w'.cell? ⟨gb860, 1, none⟩ = some (.int .i64 a1_1) ∧ w'.cell? ⟨gb860, 2, none⟩ = some (.int .i64 a1_2) ∧ w'.cell? ⟨gb860, 3, none⟩ = some (.int .i64 a1_3)) (ds := []) #[false, false, false, false, false, false] (by kernel_rfl) rfl rfl ⟨(blk_cell BK859.out 0).trans rfl, (blk_cell BK859.out 1).trans rfl, (blk_cell BK860.out 0).trans rfl, (blk_cell BK860.out 1).trans rfl, (blk_cell BK860.out 2).trans rfl, (blk_cell BK860.out 3).trans rfl⟩ (fun hHeld => ?_)
        generalize w24.drew = w25 at BK859 BK860 HB hHeld ⊢
        refine take_ (i := 0) (N := some 14) (v := ?_) (a' := ?_) #[true, false, false, false, false, false] rfl rfl (by kernel_rfl) (fun _ _ _ h => h) (Or.inl ⟨by rfl, ?_⟩) hHeld ?_ ?_; rotate_left
        · rintro w' ⟨s0, s1, s2, s3, s4, s5⟩
          go_simp
          with_reducible rfl
        rotate_left
        · exact pz
        refine take_ (i := 2) (N := some 16) (v := ?_) (a' := ?_) #[true, false, true, false, false, false] rfl rfl (by kernel_rfl) (fun _ _ _ h => h) (Or.inl ⟨by rfl, ?_⟩) hHeld ?_ ?_; rotate_left
        · rintro w' ⟨s0, s1, s2, s3, s4, s5⟩
          go_simp
          with_reducible rfl
        rotate_left
        · exact pz
        refine one_ (i := 1) (N := some 15) #[true, true, true, false, false, false] rfl rfl (by kernel_rfl) (by decide) (fun K hK => ?_); refine goes_ Try.func26 (by kernel_rfl) rfl #[.agg #[.int .i64 a0_0, .slice A0_1 l0_1.length c0_1]] (by rfl) rfl rfl dz ?_
        with_reducible refine (laws_toBook.calls k a0_0 _ _ l0_1 t862 t863 _ ?side1 ?side2 A10.out).mono ?_
        (case side1 => exact sz HR0_1.out HB.out)
        (case side2 => exact HC0_1.out)
        rintro e w26 ⟨v864, rfl, ho0, hb⟩
        refine ⟨_, rfl, ?_⟩; have n0_ := Aside0.mk (Kd.S_lower ho0 (below_size (b2 GE859.out GE860.out HB.out))); have n1_ := Aside0.mk (blk_below (g := gb859) (o := .cells #[.int .i64 a0_0, .slice A0_1 l0_1.length c0_1] 41 (0, 0)) (kz BK859.out) hb); have n2_ := Aside0.mk (blk_below (g := gb860) (o := .cells #[.int .i64 a1_0, .int .i64 a1_1, .int .i64 a1_2, .int .i64 a1_3] 24 (0, 0)) (kz BK860.out) hb); have n3_ := Aside0.mk (below_step (b2 GE859.out GE860.out HB.out) hb); clear BK859; clear BK860; clear HB; have HO865 := n0_; have BK859 := n1_; have BK860 := n2_; have HB := n3_; clear n0_ n1_ n2_ n3_
        (try clear hb)
        (try clear hb2)
        (try clear hk)
        (try clear hi)
        (try clear ho0)
        refine hK.out _ _ ⟨(blk_cell BK859.out 0).trans rfl, (blk_cell BK859.out 1).trans rfl, (blk_cell BK860.out 0).trans rfl, (blk_cell BK860.out 1).trans rfl, (blk_cell BK860.out 2).trans rfl, (blk_cell BK860.out 3).trans rfl⟩ (fun hHeld => ?_); clear hK K; refine norm_ (a' := ?_) ?_ ?_; rotate_left
        · show Act.put _ (some 15) _ = _
          simp only [Act.put, List.setIfInBounds_toArray, List.set_cons_zero, List.set_cons_succ, i64_w, i32_w]
          rfl
        refine one_ (i := 3) (N := some 17) #[true, true, true, true, false, false] rfl rfl (by kernel_rfl) (by decide) (fun K hK => ?_); refine goes_ Try.func48 (by kernel_rfl) rfl #[.agg #[.int .i64 a1_0, .int .i64 a1_1, .int .i64 a1_2, .int .i64 a1_3]] (by rfl) rfl rfl dz ?_
        with_reducible refine (laws_toBox.calls a1_0 a1_1 a1_2 a1_3 t866 t867 t868 t869 _ A11.out).mono ?_
        rintro e w27 ⟨rfl, hb⟩
        refine ⟨_, rfl, ?_⟩; have n0_ := Aside0.mk (Kd.S_below (by (with_reducible repeat (first | apply Kd.S_alloc | apply Kd.S_drewN | apply Kd.S_drew)); exact HO865.out) hb); have n1_ := Aside0.mk (blk_below (g := gb859) (o := .cells #[.int .i64 a0_0, .slice A0_1 l0_1.length c0_1] 41 (0, 0)) (kz BK859.out) hb); have n2_ := Aside0.mk (blk_below (g := gb860) (o := .cells #[.int .i64 a1_0, .int .i64 a1_1, .int .i64 a1_2, .int .i64 a1_3] 24 (0, 0)) (kz BK860.out) hb); have n3_ := Aside0.mk (below_step (b2 GE859.out GE860.out HB.out) hb); clear HO865; clear BK859; clear BK860; clear HB; have HO865 := n0_; have BK859 := n1_; have BK860 := n2_; have HB := n3_; clear n0_ n1_ n2_ n3_
        (try clear hb)
        (try clear hb2)
        (try clear hk)
        (try clear hi)
        obtain ⟨Ao28, co28, eo28⟩ := Kd.S_slice HO865.out
        (first | subst eo28 | (injection eo28 with f1_ f2_ f3_; have f4_ := f1_.symm; have f5_ := f3_.symm; clear f1_ f2_ f3_; subst f4_; subst f5_))
        refine hK.out _ _ ⟨(blk_cell BK859.out 0).trans rfl, (blk_cell BK859.out 1).trans rfl, (blk_cell BK860.out 0).trans rfl, (blk_cell BK860.out 1).trans rfl, (blk_cell BK860.out 2).trans rfl, (blk_cell BK860.out 3).trans rfl⟩ (fun hHeld => ?_); clear hK K; refine norm_ (a' := ?_) ?_ ?_; rotate_left
        · show Act.put _ (some 17) _ = _
          simp only [Act.put, List.setIfInBounds_toArray, List.set_cons_zero, List.set_cons_succ, i64_w, i32_w]
          rfl
        refine one_ (i := 4) (N := some 18) #[true, true, true, true, true, false] rfl rfl (by kernel_rfl) (by decide) (fun K hK => ?_); refine goes_ Try.func47 (by kernel_rfl) rfl #[.agg #[.int .i64 t862, .slice Ao28 t863.length co28], .agg #[.int .i64 t866, .int .i64 t867, .int .i64 t868, .int .i64 t869]] (by rfl) rfl rfl dz ?_
        with_reducible refine (spec_Visited.calls k t862 _ _ t863 t866 t867 t868 t869 t870 _ ?side1 ?side2 A12.out).mono ?_
        (case side1 => repeat (first | exact (Kd.S_reads' HO865.out).2.2 | (with_reducible refine Kd.C_alloc ?_ _) | (with_reducible refine Kd.C_drewN ?_ _) | (with_reducible refine Kd.C_drew ?_)))
        (case side2 => exact (Kd.S_reads' HO865.out).2.1)
        rintro e w29 ⟨rfl, hb⟩
        refine ⟨_, rfl, ?_⟩; have n0_ := Aside0.mk (Kd.S_below (by (with_reducible repeat (first | apply Kd.S_alloc | apply Kd.S_drewN | apply Kd.S_drew)); exact HO865.out) hb); have n1_ := Aside0.mk (blk_below (g := gb859) (o := .cells #[.int .i64 a0_0, .slice A0_1 l0_1.length c0_1] 41 (0, 0)) (kz BK859.out) hb); have n2_ := Aside0.mk (blk_below (g := gb860) (o := .cells #[.int .i64 a1_0, .int .i64 a1_1, .int .i64 a1_2, .int .i64 a1_3] 24 (0, 0)) (kz BK860.out) hb); have n3_ := Aside0.mk (below_step (b2 GE859.out GE860.out HB.out) hb); clear HO865; clear BK859; clear BK860; clear HB; have HO865 := n0_; have BK859 := n1_; have BK860 := n2_; have HB := n3_; clear n0_ n1_ n2_ n3_
        (try clear hb)
        (try clear hb2)
        (try clear hk)
        (try clear hi)
        refine hK.out _ _ ⟨(blk_cell BK859.out 0).trans rfl, (blk_cell BK859.out 1).trans rfl, (blk_cell BK860.out 0).trans rfl, (blk_cell BK860.out 1).trans rfl, (blk_cell BK860.out 2).trans rfl, (blk_cell BK860.out 3).trans rfl⟩ (fun hHeld => ?_); clear hK K; refine norm_ (a' := ?_) ?_ ?_; rotate_left
        · show Act.put _ (some 18) _ = _
          simp only [Act.put, List.setIfInBounds_toArray, List.set_cons_zero, List.set_cons_succ, i64_w, i32_w]
          rfl
        refine pure_ (i := 5) (N := some 6) (v := ?_) (a' := ?_) #[true, true, true, true, true, true] rfl rfl (by kernel_rfl) (fun _ _ _ h => h) (Or.inl ⟨by rfl, ?_⟩) ?_ ?_; rotate_left
        · intro w'
          go_simp
          with_reducible rfl
        rotate_left
        · exact pz
        refine done_ (by kernel_rfl) ?_; have hcz30_0 := fz BK859.out 0 (.int .i64 a0_0); have hcz30_1 := fz BK859.out 1 (.slice A0_1 l0_1.length c0_1); have hfz30_0 := blk_frozen BK859.out 0; have hfz30_1 := blk_frozen BK859.out 1
        try go_wp2_with (first | ((with_reducible refine gate_callee (f := 26) rfl ?_); refine goesL_ (some 20) rfl rfl Try.func26 (by kernel_rfl) rfl #[.agg #[.int .i64 a0_0, .slice A0_1 l0_1.length c0_1]] rfl dz ?_; (with_reducible refine (laws_toBook.calls k a0_0 _ _ l0_1 t871 t872 _ ?side1 ?side2 A13.out).mono ?_); (case side1 => exact sz HR0_1.out HB.out); (case side2 => exact HC0_1.out); rintro e w31 ⟨v873, rfl, ho0, hb⟩; refine ⟨_, rfl, ?_⟩; have n0_ := Aside0.mk (Kd.S_elder' (by (with_reducible repeat (first | apply Kd.S_alloc | apply Kd.S_drewN | apply Kd.S_drew)); exact HO865.out) (Kd.S_base ho0) hb); have n1_ := Aside0.mk (Kd.S_lower (Kd.S_new' ho0 (Kd.S_lt (by (with_reducible repeat (first | apply Kd.S_alloc | apply Kd.S_drewN | apply Kd.S_drew)); exact HO865.out))) (below_size (b2 GE859.out GE860.out HB.out))); have n2_ := Aside0.mk (blk_below (g := gb859) (o := .cells #[.int .i64 a0_0, .slice A0_1 l0_1.length c0_1] 41 (0, 0)) (kz BK859.out) hb); have n3_ := Aside0.mk (blk_below (g := gb860) (o := .cells #[.int .i64 a1_0, .int .i64 a1_1, .int .i64 a1_2, .int .i64 a1_3] 24 (0, 0)) (kz BK860.out) hb); have n4_ := Aside0.mk (below_step (b2 GE859.out GE860.out HB.out) hb); clear HO865; clear BK859; clear BK860; clear HB; have HO865 := n0_; have HO874 := n1_; have BK859 := n2_; have BK860 := n3_; have HB := n4_; clear n0_ n1_ n2_ n3_ n4_; (try clear hb); (try clear hb2); (try clear hk); (try clear hi); (try clear ho0)) | ((with_reducible refine gate_dst (N := 7) rfl ?_); refine box_event ?hg (N := 7) ?hd (cs := #[.int .i64 0, .slice none 0 0]) (t := 49) ?hr ?_; (case hd => rfl); (case hg => rfl); (case hr => first | (go_simp; done) | (go_simp; rfl)); intro gb875 hg w32 hbox hb; have n0_ := Aside0.mk (Kd.S_below (by (with_reducible repeat (first | apply Kd.S_alloc | apply Kd.S_drewN | apply Kd.S_drew)); exact HO865.out) hb); have n1_ := Aside0.mk (Kd.S_below (by (with_reducible repeat (first | apply Kd.S_alloc | apply Kd.S_drewN | apply Kd.S_drew)); exact HO874.out) hb); have n2_ := Aside0.mk (blk_below (g := gb859) (o := .cells #[.int .i64 a0_0, .slice A0_1 l0_1.length c0_1] 41 (0, 0)) (kz BK859.out) hb); have n3_ := Aside0.mk (blk_below (g := gb860) (o := .cells #[.int .i64 a1_0, .int .i64 a1_1, .int .i64 a1_2, .int .i64 a1_3] 24 (0, 0)) (kz BK860.out) hb); have n4_ := Aside0.mk (below_step (b2 GE859.out GE860.out HB.out) hb); have n5_ := Aside0.mk (hbox); have n6_ := Aside0.mk ((by rw [hg]; exact (below_size (b2 GE859.out GE860.out HB.out)) : w.heap.size ≤ gb875)); have n7_ := Aside0.mk ((by rw [hg]; exact (below_size (b2 GE859.out GE860.out HB.out)) : w.heap.size ≤ gb875)); have n8_ := Aside0.mk ((by rw [hg]; exact Nat.ne_of_lt (blk_lt (g := gb859) (o := .cells #[.int .i64 a0_0, .slice A0_1 l0_1.length c0_1] 41 (0, 0)) (kz BK859.out)) : gb859 ≠ gb875)); have n9_ := Aside0.mk ((by rw [hg]; exact Nat.ne_of_gt (blk_lt (g := gb859) (o := .cells #[.int .i64 a0_0, .slice A0_1 l0_1.length c0_1] 41 (0, 0)) (kz BK859.out)) : gb875 ≠ gb859)); have n10_ := Aside0.mk ((by rw [hg]; exact Nat.ne_of_lt (blk_lt (g := gb860) (o := .cells #[.int .i64 a1_0, .int .i64 a1_1, .int .i64 a1_2, .int .i64 a1_3] 24 (0, 0)) (kz BK860.out)) : gb860 ≠ gb875)); have n11_ := Aside0.mk ((by rw [hg]; exact Nat.ne_of_gt (blk_lt (g := gb860) (o := .cells #[.int .i64 a1_0, .int .i64 a1_1, .int .i64 a1_2, .int .i64 a1_3] 24 (0, 0)) (kz BK860.out)) : gb875 ≠ gb860)); clear HO865; clear HO874; clear BK859; clear BK860; clear HB; have HO865 := n0_; have HO874 := n1_; have BK859 := n2_; have BK860 := n3_; have HB := n4_; have BK875 := n5_; have GW875 := n6_; have GE875 := n7_; have NB859_875 := n8_; have NB875_859 := n9_; have NB860_875 := n10_; have NB875_860 := n11_; clear n0_ n1_ n2_ n3_ n4_ n5_ n6_ n7_ n8_ n9_ n10_ n11_; clear hb hbox hg; have hnb33 := NB875_859.out; have hnc33 := NB859_875.out; have hnb34 := NB875_860.out; have hnc34 := NB860_875.out; have hcz35_0 := fz BK875.out 0 (.int .i64 0); have hcz35_1 := fz BK875.out 1 (.slice none 0 0); have hfz35_0 := blk_frozen BK875.out 0; have hfz35_1 := blk_frozen BK875.out 1; obtain ⟨Ao36, co36, eo36⟩ := Kd.S_slice HO874.out; subst eo36))
        have n0_ : Aside0 (Kd.S k90 90 ((w32.setCell ⟨gb875, 0, none⟩ (.int .i64 t871)).setCell ⟨gb875, 1, none⟩ (.slice Ao36 t872.length co36)) w.heap.size (fun k_ => some k_ ≠ (.slice Ao36 t872.length co36 : Value).ownBlock) (.slice Ao28 t863.length co28) t863) := ⟨by (with_reducible repeat (first | apply Kd.S_alloc | apply Kd.S_drewN | apply Kd.S_drew)); exact Kd.S_mono (Kd.S_far (p := ⟨gb875, 1, none⟩) (Kd.S_far (p := ⟨gb875, 0, none⟩) (Kd.S_types HO865.out BK875.out (by decide)) (fun _ hk => hk.2) (.int .i64 t871)) (fun _ hk => hk.2) (.slice Ao36 t872.length co36)) (fun _ hk => hk.1.2)⟩; have n1_ : Aside0 (Kd.S k90 90 ((w32.setCell ⟨gb875, 0, none⟩ (.int .i64 t871)).setCell ⟨gb875, 1, none⟩ (.slice Ao36 t872.length co36)) w.heap.size (fun k_ => some k_ ≠ (.slice Ao28 t863.length co28 : Value).ownBlock) (.slice Ao36 t872.length co36) t872) := ⟨by (with_reducible repeat (first | apply Kd.S_alloc | apply Kd.S_drewN | apply Kd.S_drew)); exact Kd.S_mono (Kd.S_far (p := ⟨gb875, 1, none⟩) (Kd.S_far (p := ⟨gb875, 0, none⟩) (Kd.S_types HO874.out BK875.out (by decide)) (fun _ hk => hk.2) (.int .i64 t871)) (fun _ hk => hk.2) (.slice Ao36 t872.length co36)) (fun _ hk => hk.1.2)⟩; have n2_ : Aside0 (((w32.setCell ⟨gb875, 0, none⟩ (.int .i64 t871)).setCell ⟨gb875, 1, none⟩ (.slice Ao36 t872.length co36)).heap[gb859]? = some (.cells #[.int .i64 a0_0, .slice A0_1 l0_1.length c0_1] 41 (0, 0))) := ⟨by (with_reducible repeat (first | refine blk_drewN ?_ _ | refine blk_drew ?_ | refine blk_alloc ?_ _)); refine blk_far ?_ NB859_875.out _; (with_reducible repeat (first | refine blk_drewN ?_ _ | refine blk_drew ?_ | refine blk_alloc ?_ _)); refine blk_far ?_ NB859_875.out _; (with_reducible repeat (first | refine blk_drewN ?_ _ | refine blk_drew ?_ | refine blk_alloc ?_ _)); exact BK859.out⟩; have n3_ : Aside0 (((w32.setCell ⟨gb875, 0, none⟩ (.int .i64 t871)).setCell ⟨gb875, 1, none⟩ (.slice Ao36 t872.length co36)).heap[gb860]? = some (.cells #[.int .i64 a1_0, .int .i64 a1_1, .int .i64 a1_2, .int .i64 a1_3] 24 (0, 0))) := ⟨by (with_reducible repeat (first | refine blk_drewN ?_ _ | refine blk_drew ?_ | refine blk_alloc ?_ _)); refine blk_far ?_ NB860_875.out _; (with_reducible repeat (first | refine blk_drewN ?_ _ | refine blk_drew ?_ | refine blk_alloc ?_ _)); refine blk_far ?_ NB860_875.out _; (with_reducible repeat (first | refine blk_drewN ?_ _ | refine blk_drew ?_ | refine blk_alloc ?_ _)); exact BK860.out⟩; have n4_ : Aside0 (((w32.setCell ⟨gb875, 0, none⟩ (.int .i64 t871)).setCell ⟨gb875, 1, none⟩ (.slice Ao36 t872.length co36)).heap[gb875]? = some (.cells #[.int .i64 t871, .slice Ao36 t872.length co36] 49 (0, 0))) := ⟨by (with_reducible repeat (first | refine blk_drewN ?_ _ | refine blk_drew ?_ | refine blk_alloc ?_ _)); refine blk_put (cs := #[.int .i64 t871, .slice none 0 0]) ?_ 1 _ rfl; (with_reducible repeat (first | refine blk_drewN ?_ _ | refine blk_drew ?_ | refine blk_alloc ?_ _)); refine blk_put (cs := #[.int .i64 0, .slice none 0 0]) ?_ 0 _ rfl; (with_reducible repeat (first | refine blk_drewN ?_ _ | refine blk_drew ?_ | refine blk_alloc ?_ _)); exact BK875.out⟩; have n5_ : Aside0 (Below w.heap.size w ((w32.setCell ⟨gb875, 0, none⟩ (.int .i64 t871)).setCell ⟨gb875, 1, none⟩ (.slice Ao36 t872.length co36))) := ⟨by repeat (first | (with_reducible first | exact HB.out | apply below_alloc | apply pw_below_drewN | apply below_drew1 | refine below_set ?_ GE859.out | refine below_set ?_ GE860.out | refine below_set ?_ GE875.out) | exact HB.out)⟩
        (try clear HO865)
        (try clear HO874)
        (try clear BK859)
        (try clear BK860)
        (try clear BK875)
        (try clear HB)
        generalize ((w32.setCell ⟨gb875, 0, none⟩ (.int .i64 t871)).setCell ⟨gb875, 1, none⟩ (.slice Ao36 t872.length co36)) = w37 at n0_ n1_ n2_ n3_ n4_ n5_ ⊢
        have HO865 := n0_; have HO874 := n1_; have BK859 := n2_; have BK860 := n3_; have BK875 := n4_; have HB := n5_; clear n0_ n1_ n2_ n3_ n4_ n5_; have n0_ := Aside0.mk (Kd.S_drew HO865.out); have n1_ := Aside0.mk (Kd.S_drew HO874.out); have n2_ := Aside0.mk (blk_drew BK859.out); have n3_ := Aside0.mk (blk_drew BK860.out); have n4_ := Aside0.mk (blk_drew BK875.out); have n5_ := Aside0.mk (below_drew1 HB.out); clear HO865; clear HO874; clear BK859; clear BK860; clear BK875; clear HB; have HO865 := n0_; have HO874 := n1_; have BK859 := n2_; have BK860 := n3_; have BK875 := n4_; have HB := n5_; clear n0_ n1_ n2_ n3_ n4_ n5_; refine start_ (n := 5) (S := fun w' => w'.cell? ⟨gb875, 0, none⟩ = some (.int .i64 t871) ∧ w'.cell? ⟨gb875, 1, none⟩ = some (.slice Ao36 t872.length co36) ∧ w'.cell? ⟨gb860, 0, none⟩ = some (.int .i64 a1_0) ∧ w'.cell? ⟨gb860, 1, none⟩ = some (.int .i64 a1_1) ∧ w'.cell? ⟨gb860, 2, none⟩ = some (.int .i64 a1_2) ∧ w'.cell? ⟨gb860, 3, none⟩ = some (.int .i64 a1_3)) (ds := []) #[false, false, false, false, false] (by kernel_rfl) rfl rfl ⟨(blk_cell BK875.out 0).trans rfl, (blk_cell BK875.out 1).trans rfl, (blk_cell BK860.out 0).trans rfl, (blk_cell BK860.out 1).trans rfl, (blk_cell BK860.out 2).trans rfl, (blk_cell BK860.out 3).trans rfl⟩ (fun hHeld => ?_)
        generalize w37.drew = w38 at HO865 HO874 BK859 BK860 BK875 HB hHeld ⊢
        refine take_ (i := 0) (N := some 21) (v := ?_) (a' := ?_) #[true, false, false, false, false] rfl rfl (by kernel_rfl) (fun _ _ _ h => h) (Or.inl ⟨by rfl, ?_⟩) hHeld ?_ ?_; rotate_left
        · rintro w' ⟨s0, s1, s2, s3, s4, s5⟩
          go_simp
          with_reducible rfl
        rotate_left
        · exact pz
        refine take_ (i := 1) (N := some 22) (v := ?_) (a' := ?_) #[true, true, false, false, false] rfl rfl (by kernel_rfl) (fun _ _ _ h => h) (Or.inl ⟨by rfl, ?_⟩) hHeld ?_ ?_; rotate_left
        · rintro w' ⟨s0, s1, s2, s3, s4, s5⟩
          go_simp
          with_reducible rfl
        rotate_left
        · exact pz
        refine one_ (i := 2) (N := some 23) #[true, true, true, false, false] rfl rfl (by kernel_rfl) (by decide) (fun K hK => ?_); refine goes_ Try.func48 (by kernel_rfl) rfl #[.agg #[.int .i64 a1_0, .int .i64 a1_1, .int .i64 a1_2, .int .i64 a1_3]] (by rfl) rfl rfl dz ?_
        with_reducible refine (laws_toBox.calls a1_0 a1_1 a1_2 a1_3 t876 t877 t878 t879 _ A14.out).mono ?_
        rintro e w39 ⟨rfl, hb⟩
        refine ⟨_, rfl, ?_⟩; have n0_ := Aside0.mk (Kd.S_below (by (with_reducible repeat (first | apply Kd.S_alloc | apply Kd.S_drewN | apply Kd.S_drew)); exact HO865.out) hb); have n1_ := Aside0.mk (Kd.S_below (by (with_reducible repeat (first | apply Kd.S_alloc | apply Kd.S_drewN | apply Kd.S_drew)); exact HO874.out) hb); have n2_ := Aside0.mk (blk_below (g := gb859) (o := .cells #[.int .i64 a0_0, .slice A0_1 l0_1.length c0_1] 41 (0, 0)) (kz BK859.out) hb); have n3_ := Aside0.mk (blk_below (g := gb860) (o := .cells #[.int .i64 a1_0, .int .i64 a1_1, .int .i64 a1_2, .int .i64 a1_3] 24 (0, 0)) (kz BK860.out) hb); have n4_ := Aside0.mk (blk_below (g := gb875) (o := .cells #[.int .i64 t871, .slice Ao36 t872.length co36] 49 (0, 0)) (kz BK875.out) hb); have n5_ := Aside0.mk (below_step (by repeat (first | (with_reducible first | exact HB.out | apply below_alloc | apply pw_below_drewN | apply below_drew1 | refine below_set ?_ GE859.out | refine below_set ?_ GE860.out | refine below_set ?_ GE875.out) | exact HB.out)) hb); clear HO865; clear HO874; clear BK859; clear BK860; clear BK875; clear HB; have HO865 := n0_; have HO874 := n1_; have BK859 := n2_; have BK860 := n3_; have BK875 := n4_; have HB := n5_; clear n0_ n1_ n2_ n3_ n4_ n5_
        (try clear hb)
        (try clear hb2)
        (try clear hk)
        (try clear hi)
        refine hK.out _ _ ⟨(blk_cell BK875.out 0).trans rfl, (blk_cell BK875.out 1).trans rfl, (blk_cell BK860.out 0).trans rfl, (blk_cell BK860.out 1).trans rfl, (blk_cell BK860.out 2).trans rfl, (blk_cell BK860.out 3).trans rfl⟩ (fun hHeld => ?_); clear hK K; refine norm_ (a' := ?_) ?_ ?_; rotate_left
        · show Act.put _ (some 23) _ = _
          simp only [Act.put, List.setIfInBounds_toArray, List.set_cons_zero, List.set_cons_succ, i64_w, i32_w]
          rfl
        refine one_ (i := 3) (N := some 24) #[true, true, true, true, false] rfl rfl (by kernel_rfl) (by decide) (fun K hK => ?_); refine goes_ Try.func49 (by kernel_rfl) rfl #[.agg #[.int .i64 t871, .slice Ao36 t872.length co36], .agg #[.int .i64 t876, .int .i64 t877, .int .i64 t878, .int .i64 t879]] (by rfl) rfl rfl dz ?_
        with_reducible refine (impl_Visited.calls k t871 _ _ t872 t876 t877 t878 t879 t880 _ ?side1 ?side2 A15.out).mono ?_
        (case side1 => repeat (first | exact (Kd.S_reads' HO874.out).2.2 | (with_reducible refine Kd.C_alloc ?_ _) | (with_reducible refine Kd.C_drewN ?_ _) | (with_reducible refine Kd.C_drew ?_)))
        (case side2 => exact (Kd.S_reads' HO874.out).2.1)
        rintro e w40 ⟨rfl, hb⟩
        refine ⟨_, rfl, ?_⟩; have n0_ := Aside0.mk (Kd.S_below (by (with_reducible repeat (first | apply Kd.S_alloc | apply Kd.S_drewN | apply Kd.S_drew)); exact HO865.out) hb); have n1_ := Aside0.mk (Kd.S_below (by (with_reducible repeat (first | apply Kd.S_alloc | apply Kd.S_drewN | apply Kd.S_drew)); exact HO874.out) hb); have n2_ := Aside0.mk (blk_below (g := gb859) (o := .cells #[.int .i64 a0_0, .slice A0_1 l0_1.length c0_1] 41 (0, 0)) (kz BK859.out) hb); have n3_ := Aside0.mk (blk_below (g := gb860) (o := .cells #[.int .i64 a1_0, .int .i64 a1_1, .int .i64 a1_2, .int .i64 a1_3] 24 (0, 0)) (kz BK860.out) hb); have n4_ := Aside0.mk (blk_below (g := gb875) (o := .cells #[.int .i64 t871, .slice Ao36 t872.length co36] 49 (0, 0)) (kz BK875.out) hb); have n5_ := Aside0.mk (below_step (by repeat (first | (with_reducible first | exact HB.out | apply below_alloc | apply pw_below_drewN | apply below_drew1 | refine below_set ?_ GE859.out | refine below_set ?_ GE860.out | refine below_set ?_ GE875.out) | exact HB.out)) hb); clear HO865; clear HO874; clear BK859; clear BK860; clear BK875; clear HB; have HO865 := n0_; have HO874 := n1_; have BK859 := n2_; have BK860 := n3_; have BK875 := n4_; have HB := n5_; clear n0_ n1_ n2_ n3_ n4_ n5_
        (try clear hb)
        (try clear hb2)
        (try clear hk)
        (try clear hi)
        refine hK.out _ _ ⟨(blk_cell BK875.out 0).trans rfl, (blk_cell BK875.out 1).trans rfl, (blk_cell BK860.out 0).trans rfl, (blk_cell BK860.out 1).trans rfl, (blk_cell BK860.out 2).trans rfl, (blk_cell BK860.out 3).trans rfl⟩ (fun hHeld => ?_); clear hK K; refine norm_ (a' := ?_) ?_ ?_; rotate_left
        · show Act.put _ (some 24) _ = _
          simp only [Act.put, List.setIfInBounds_toArray, List.set_cons_zero, List.set_cons_succ, i64_w, i32_w]
          rfl
        refine pure_ (i := 4) (N := some 8) (v := ?_) (a' := ?_) #[true, true, true, true, true] rfl rfl (by kernel_rfl) (fun _ _ _ h => h) (Or.inl ⟨by rfl, ?_⟩) ?_ ?_; rotate_left
        · intro w'
          go_simp
          with_reducible rfl
        rotate_left
        · exact pz
        refine done_ (by kernel_rfl) ?_
        try go_wp2
        have n0_ := Aside0.mk (Kd.S_drew HO865.out); have n1_ := Aside0.mk (Kd.S_drew HO874.out); have n2_ := Aside0.mk (blk_drew BK859.out); have n3_ := Aside0.mk (blk_drew BK860.out); have n4_ := Aside0.mk (blk_drew BK875.out); have n5_ := Aside0.mk (below_drew1 HB.out); clear HO865; clear HO874; clear BK859; clear BK860; clear BK875; clear HB; have HO865 := n0_; have HO874 := n1_; have BK859 := n2_; have BK860 := n3_; have BK875 := n4_; have HB := n5_; clear n0_ n1_ n2_ n3_ n4_ n5_; refine start_ (n := 5) (S := fun w' => w'.cell? ⟨gb875, 0, none⟩ = some (.int .i64 t871) ∧ w'.cell? ⟨gb875, 1, none⟩ = some (.slice Ao36 t872.length co36) ∧ w'.cell? ⟨gb859, 0, none⟩ = some (.int .i64 a0_0) ∧ w'.cell? ⟨gb859, 1, none⟩ = some (.slice A0_1 l0_1.length c0_1)) (ds := []) #[false, false, false, false, false] (by kernel_rfl) rfl rfl ⟨(blk_cell BK875.out 0).trans rfl, (blk_cell BK875.out 1).trans rfl, (blk_cell BK859.out 0).trans rfl, (blk_cell BK859.out 1).trans rfl⟩ (fun hHeld => ?_)
        generalize w40.drew = w41 at HO865 HO874 BK859 BK860 BK875 HB hHeld ⊢
        refine take_ (i := 0) (N := some 28) (v := ?_) (a' := ?_) #[true, false, false, false, false] rfl rfl (by kernel_rfl) (fun _ _ _ h => h) (Or.inl ⟨by rfl, ?_⟩) hHeld ?_ ?_; rotate_left
        · rintro w' ⟨s0, s1, s2, s3⟩
          go_simp
          with_reducible rfl
        rotate_left
        · exact pz
        refine take_ (i := 1) (N := some 29) (v := ?_) (a' := ?_) #[true, true, false, false, false] rfl rfl (by kernel_rfl) (fun _ _ _ h => h) (Or.inl ⟨by rfl, ?_⟩) hHeld ?_ ?_; rotate_left
        · rintro w' ⟨s0, s1, s2, s3⟩
          go_simp
          with_reducible rfl
        rotate_left
        · exact pz
        refine one_ (i := 2) (N := some 30) #[true, true, true, false, false] rfl rfl (by kernel_rfl) (by decide) (fun K hK => ?_); refine goes_ Try.func26 (by kernel_rfl) rfl #[.agg #[.int .i64 a0_0, .slice A0_1 l0_1.length c0_1]] (by rfl) rfl rfl dz ?_
        with_reducible refine (laws_toBook.calls k a0_0 _ _ l0_1 t881 t882 _ ?side1 ?side2 A17.out).mono ?_
        (case side1 => exact sz HR0_1.out HB.out)
        (case side2 => exact HC0_1.out)
        rintro e w42 ⟨v883, rfl, ho0, hb⟩
        refine ⟨_, rfl, ?_⟩; have n0_ := Aside0.mk (Kd.S_elder' (by (with_reducible repeat (first | apply Kd.S_alloc | apply Kd.S_drewN | apply Kd.S_drew)); exact HO865.out) (Kd.S_base ho0) hb); have n1_ := Aside0.mk (Kd.S_elder' (by (with_reducible repeat (first | apply Kd.S_alloc | apply Kd.S_drewN | apply Kd.S_drew)); exact HO874.out) (Kd.S_base ho0) hb); have n2_ := Aside0.mk (Kd.S_lower (Kd.S_new' (Kd.S_new' ho0 (Kd.S_lt (by (with_reducible repeat (first | apply Kd.S_alloc | apply Kd.S_drewN | apply Kd.S_drew)); exact HO865.out))) (Kd.S_lt (by (with_reducible repeat (first | apply Kd.S_alloc | apply Kd.S_drewN | apply Kd.S_drew)); exact HO874.out))) (below_size (by repeat (first | (with_reducible first | exact HB.out | apply below_alloc | apply pw_below_drewN | apply below_drew1 | refine below_set ?_ GE859.out | refine below_set ?_ GE860.out | refine below_set ?_ GE875.out) | exact HB.out)))); have n3_ := Aside0.mk (blk_below (g := gb859) (o := .cells #[.int .i64 a0_0, .slice A0_1 l0_1.length c0_1] 41 (0, 0)) (kz BK859.out) hb); have n4_ := Aside0.mk (blk_below (g := gb860) (o := .cells #[.int .i64 a1_0, .int .i64 a1_1, .int .i64 a1_2, .int .i64 a1_3] 24 (0, 0)) (kz BK860.out) hb); have n5_ := Aside0.mk (blk_below (g := gb875) (o := .cells #[.int .i64 t871, .slice Ao36 t872.length co36] 49 (0, 0)) (kz BK875.out) hb); have n6_ := Aside0.mk (below_step (by repeat (first | (with_reducible first | exact HB.out | apply below_alloc | apply pw_below_drewN | apply below_drew1 | refine below_set ?_ GE859.out | refine below_set ?_ GE860.out | refine below_set ?_ GE875.out) | exact HB.out)) hb); clear HO865; clear HO874; clear BK859; clear BK860; clear BK875; clear HB; have HO865 := n0_; have HO874 := n1_; have HO884 := n2_; have BK859 := n3_; have BK860 := n4_; have BK875 := n5_; have HB := n6_; clear n0_ n1_ n2_ n3_ n4_ n5_ n6_
        (try clear hb)
        (try clear hb2)
        (try clear hk)
        (try clear hi)
        (try clear ho0)
        obtain ⟨Ao43, co43, eo43⟩ := Kd.S_slice HO884.out
        (first | subst eo43 | (injection eo43 with f1_ f2_ f3_; have f4_ := f1_.symm; have f5_ := f3_.symm; clear f1_ f2_ f3_; subst f4_; subst f5_))
        refine hK.out _ _ ⟨(blk_cell BK875.out 0).trans rfl, (blk_cell BK875.out 1).trans rfl, (blk_cell BK859.out 0).trans rfl, (blk_cell BK859.out 1).trans rfl⟩ (fun hHeld => ?_); clear hK K; refine norm_ (a' := ?_) ?_ ?_; rotate_left
        · show Act.put _ (some 30) _ = _
          simp only [Act.put, List.setIfInBounds_toArray, List.set_cons_zero, List.set_cons_succ, i64_w, i32_w]
          rfl
        refine one_ (i := 3) (N := some 31) #[true, true, true, true, false] rfl rfl (by kernel_rfl) (by decide) (fun K hK => ?_); refine goes_ Try.func29 (by kernel_rfl) rfl #[.agg #[.int .i64 t871, .slice Ao36 t872.length co36], .agg #[.int .i64 t881, .slice Ao43 t882.length co43]] (by rfl) rfl rfl dz ?_
        with_reducible refine (laws_eqBook.calls k t871 _ _ t872 t881 _ _ t882 true _ ?side1 ?side2 ?side3 ?side4 A18.out).mono ?_
        (case side1 => repeat (first | exact (Kd.S_reads' HO874.out).2.2 | (with_reducible refine Kd.C_alloc ?_ _) | (with_reducible refine Kd.C_drewN ?_ _) | (with_reducible refine Kd.C_drew ?_)))
        (case side2 => exact (Kd.S_reads' HO874.out).2.1)
        (case side3 => repeat (first | exact (Kd.S_reads' HO884.out).2.2 | (with_reducible refine Kd.C_alloc ?_ _) | (with_reducible refine Kd.C_drewN ?_ _) | (with_reducible refine Kd.C_drew ?_)))
        (case side4 => exact (Kd.S_reads' HO884.out).2.1)
        rintro e w44 ⟨rfl, hb⟩
        refine ⟨_, rfl, ?_⟩; have n0_ := Aside0.mk (Kd.S_below (by (with_reducible repeat (first | apply Kd.S_alloc | apply Kd.S_drewN | apply Kd.S_drew)); exact HO865.out) hb); have n1_ := Aside0.mk (Kd.S_below (by (with_reducible repeat (first | apply Kd.S_alloc | apply Kd.S_drewN | apply Kd.S_drew)); exact HO874.out) hb); have n2_ := Aside0.mk (Kd.S_below (by (with_reducible repeat (first | apply Kd.S_alloc | apply Kd.S_drewN | apply Kd.S_drew)); exact HO884.out) hb); have n3_ := Aside0.mk (blk_below (g := gb859) (o := .cells #[.int .i64 a0_0, .slice A0_1 l0_1.length c0_1] 41 (0, 0)) (kz BK859.out) hb); have n4_ := Aside0.mk (blk_below (g := gb860) (o := .cells #[.int .i64 a1_0, .int .i64 a1_1, .int .i64 a1_2, .int .i64 a1_3] 24 (0, 0)) (kz BK860.out) hb); have n5_ := Aside0.mk (blk_below (g := gb875) (o := .cells #[.int .i64 t871, .slice Ao36 t872.length co36] 49 (0, 0)) (kz BK875.out) hb); have n6_ := Aside0.mk (below_step (by repeat (first | (with_reducible first | exact HB.out | apply below_alloc | apply pw_below_drewN | apply below_drew1 | refine below_set ?_ GE859.out | refine below_set ?_ GE860.out | refine below_set ?_ GE875.out) | exact HB.out)) hb); clear HO865; clear HO874; clear HO884; clear BK859; clear BK860; clear BK875; clear HB; have HO865 := n0_; have HO874 := n1_; have HO884 := n2_; have BK859 := n3_; have BK860 := n4_; have BK875 := n5_; have HB := n6_; clear n0_ n1_ n2_ n3_ n4_ n5_ n6_
        (try clear hb)
        (try clear hb2)
        (try clear hk)
        (try clear hi)
        refine hK.out _ _ ⟨(blk_cell BK875.out 0).trans rfl, (blk_cell BK875.out 1).trans rfl, (blk_cell BK859.out 0).trans rfl, (blk_cell BK859.out 1).trans rfl⟩ (fun hHeld => ?_); clear hK K; refine norm_ (a' := ?_) ?_ ?_; rotate_left
        · show Act.put _ (some 31) _ = _
          simp only [Act.put, List.setIfInBounds_toArray, List.set_cons_zero, List.set_cons_succ, i64_w, i32_w]
          rfl
        refine pure_ (i := 4) (N := some 32) (v := ?_) (a' := ?_) #[true, true, true, true, true] rfl rfl (by kernel_rfl) (fun _ _ _ h => h) (Or.inl ⟨by rfl, ?_⟩) ?_ ?_; rotate_left
        · intro w'
          go_simp
          with_reducible rfl
        rotate_left
        · exact pz
        refine done_ (by kernel_rfl) ?_
        try go_wp2
        go_ret; exact ⟨ez, by repeat (first | (with_reducible first | exact HB.out | apply below_alloc | apply pw_below_drewN | apply below_drew1 | refine below_set ?_ GE859.out | refine below_set ?_ GE860.out | refine below_set ?_ GE875.out) | exact HB.out)⟩
      · replace c19 := Bool.eq_false_iff.mpr c19
        subst c19; replace H : (some false) = some r := (by rw [if_neg (show ¬ (false = true) by decide)] at H; exact H); obtain rfl := Option.some.inj H
        go_enter Try.func10, Try.ntmps10
        try go_wp2_with (first | ((with_reducible refine gate_dst (N := 2) rfl ?_); refine box_event ?hg (N := 2) ?hd (cs := #[.int .i64 a0_0, .slice A0_1 l0_1.length c0_1]) (t := 41) ?hr ?_; (case hd => rfl); (case hg => rfl); (case hr => first | (go_simp; done) | (go_simp; rfl)); intro gb859 hg w45 hbox hb; have n0_ := Aside0.mk (below_step (bz HB.out) hb); have n1_ := Aside0.mk (hbox); have n2_ := Aside0.mk ((by rw [hg]; exact (below_size (bz HB.out)) : w.heap.size ≤ gb859)); have n3_ := Aside0.mk ((by rw [hg]; exact (below_size (bz HB.out)) : w.heap.size ≤ gb859)); clear HB; have HB := n0_; have BK859 := n1_; have GW859 := n2_; have GE859 := n3_; clear n0_ n1_ n2_ n3_; clear hb hbox hg) | ((with_reducible refine gate_dst (N := 3) rfl ?_); refine box_event ?hg (N := 3) ?hd (cs := #[.int .i64 a1_0, .int .i64 a1_1, .int .i64 a1_2, .int .i64 a1_3]) (t := 24) ?hr ?_; (case hd => rfl); (case hg => rfl); (case hr => first | (go_simp; done) | (go_simp; rfl)); intro gb860 hg w46 hbox hb; have n0_ := Aside0.mk (blk_below (g := gb859) (o := .cells #[.int .i64 a0_0, .slice A0_1 l0_1.length c0_1] 41 (0, 0)) (kz BK859.out) hb); have n1_ := Aside0.mk (below_step (b1 GE859.out HB.out) hb); have n2_ := Aside0.mk (hbox); have n3_ := Aside0.mk ((by rw [hg]; exact (below_size (b1 GE859.out HB.out)) : w.heap.size ≤ gb860)); have n4_ := Aside0.mk ((by rw [hg]; exact (below_size (b1 GE859.out HB.out)) : w.heap.size ≤ gb860)); have n5_ := Aside0.mk ((by rw [hg]; exact Nat.ne_of_lt (blk_lt (g := gb859) (o := .cells #[.int .i64 a0_0, .slice A0_1 l0_1.length c0_1] 41 (0, 0)) (kz BK859.out)) : gb859 ≠ gb860)); have n6_ := Aside0.mk ((by rw [hg]; exact Nat.ne_of_gt (blk_lt (g := gb859) (o := .cells #[.int .i64 a0_0, .slice A0_1 l0_1.length c0_1] 41 (0, 0)) (kz BK859.out)) : gb860 ≠ gb859)); clear BK859; clear HB; have BK859 := n0_; have HB := n1_; have BK860 := n2_; have GW860 := n3_; have GE860 := n4_; have NB859_860 := n5_; have NB860_859 := n6_; clear n0_ n1_ n2_ n3_ n4_ n5_ n6_; clear hb hbox hg; have hnb47 := NB859_860.out; have hnc47 := NB860_859.out; have hcz48_0 := fz BK859.out 0 (.int .i64 a0_0); have hcz48_1 := fz BK859.out 1 (.slice A0_1 l0_1.length c0_1); have hfz48_0 := blk_frozen BK859.out 0; have hfz48_1 := blk_frozen BK859.out 1) | ((with_reducible refine gate_callee (f := 23) rfl ?_); refine goesL_ (some 11) rfl rfl Try.func23 (by kernel_rfl) rfl #[.agg #[.int .i64 a0_0, .slice A0_1 l0_1.length c0_1], .int .i64 1048576] rfl dz ?_; (with_reducible refine (laws_szBook.calls k a0_0 _ _ l0_1 1048576 t861 _ ?side1 ?side2 A3.out).mono ?_); (case side1 => exact sz HR0_1.out HB.out); (case side2 => exact HC0_1.out); rintro e w49 ⟨rfl, hb⟩; refine ⟨_, rfl, ?_⟩; have n0_ := Aside0.mk (blk_below (g := gb859) (o := .cells #[.int .i64 a0_0, .slice A0_1 l0_1.length c0_1] 41 (0, 0)) (kz BK859.out) hb); have n1_ := Aside0.mk (blk_below (g := gb860) (o := .cells #[.int .i64 a1_0, .int .i64 a1_1, .int .i64 a1_2, .int .i64 a1_3] 24 (0, 0)) (kz BK860.out) hb); have n2_ := Aside0.mk (below_step (b2 GE859.out GE860.out HB.out) hb); clear BK859; clear BK860; clear HB; have BK859 := n0_; have BK860 := n1_; have HB := n2_; clear n0_ n1_ n2_; (try clear hb); (try clear hb2); (try clear hk); (try clear hi)))
        have n0_ := Aside0.mk (blk_drew BK859.out); have n1_ := Aside0.mk (blk_drew BK860.out); have n2_ := Aside0.mk (below_drew1 HB.out); clear BK859; clear BK860; clear HB; have BK859 := n0_; have BK860 := n1_; have HB := n2_; clear n0_ n1_ n2_; refine start_ (n := 6) (S := fun w' => w'.cell? ⟨gb859, 0, none⟩ = some (.int .i64 a0_0) ∧ w'.cell? ⟨gb859, 1, none⟩ = some (.slice A0_1 l0_1.length c0_1) ∧ w'.cell? ⟨gb860, 0, none⟩ = some (.int .i64 a1_0) ∧ w'.cell? ⟨gb860, 1, none⟩ = some (.int .i64 a1_1) ∧ w'.cell? ⟨gb860, 2, none⟩ = some (.int .i64 a1_2) ∧ w'.cell? ⟨gb860, 3, none⟩ = some (.int .i64 a1_3)) (ds := []) #[false, false, false, false, false, false] (by kernel_rfl) rfl rfl ⟨(blk_cell BK859.out 0).trans rfl, (blk_cell BK859.out 1).trans rfl, (blk_cell BK860.out 0).trans rfl, (blk_cell BK860.out 1).trans rfl, (blk_cell BK860.out 2).trans rfl, (blk_cell BK860.out 3).trans rfl⟩ (fun hHeld => ?_)
        generalize w49.drew = w50 at BK859 BK860 HB hHeld ⊢
        refine take_ (i := 0) (N := some 14) (v := ?_) (a' := ?_) #[true, false, false, false, false, false] rfl rfl (by kernel_rfl) (fun _ _ _ h => h) (Or.inl ⟨by rfl, ?_⟩) hHeld ?_ ?_; rotate_left
        · rintro w' ⟨s0, s1, s2, s3, s4, s5⟩
          go_simp
          with_reducible rfl
        rotate_left
        · exact pz
        refine take_ (i := 2) (N := some 16) (v := ?_) (a' := ?_) #[true, false, true, false, false, false] rfl rfl (by kernel_rfl) (fun _ _ _ h => h) (Or.inl ⟨by rfl, ?_⟩) hHeld ?_ ?_; rotate_left
        · rintro w' ⟨s0, s1, s2, s3, s4, s5⟩
          go_simp
          with_reducible rfl
        rotate_left
        · exact pz
        refine one_ (i := 1) (N := some 15) #[true, true, true, false, false, false] rfl rfl (by kernel_rfl) (by decide) (fun K hK => ?_); refine goes_ Try.func26 (by kernel_rfl) rfl #[.agg #[.int .i64 a0_0, .slice A0_1 l0_1.length c0_1]] (by rfl) rfl rfl dz ?_
        with_reducible refine (laws_toBook.calls k a0_0 _ _ l0_1 t862 t863 _ ?side1 ?side2 A10.out).mono ?_
        (case side1 => exact sz HR0_1.out HB.out)
        (case side2 => exact HC0_1.out)
        rintro e w51 ⟨v864, rfl, ho0, hb⟩
        refine ⟨_, rfl, ?_⟩; have n0_ := Aside0.mk (Kd.S_lower ho0 (below_size (b2 GE859.out GE860.out HB.out))); have n1_ := Aside0.mk (blk_below (g := gb859) (o := .cells #[.int .i64 a0_0, .slice A0_1 l0_1.length c0_1] 41 (0, 0)) (kz BK859.out) hb); have n2_ := Aside0.mk (blk_below (g := gb860) (o := .cells #[.int .i64 a1_0, .int .i64 a1_1, .int .i64 a1_2, .int .i64 a1_3] 24 (0, 0)) (kz BK860.out) hb); have n3_ := Aside0.mk (below_step (b2 GE859.out GE860.out HB.out) hb); clear BK859; clear BK860; clear HB; have HO865 := n0_; have BK859 := n1_; have BK860 := n2_; have HB := n3_; clear n0_ n1_ n2_ n3_
        (try clear hb)
        (try clear hb2)
        (try clear hk)
        (try clear hi)
        (try clear ho0)
        refine hK.out _ _ ⟨(blk_cell BK859.out 0).trans rfl, (blk_cell BK859.out 1).trans rfl, (blk_cell BK860.out 0).trans rfl, (blk_cell BK860.out 1).trans rfl, (blk_cell BK860.out 2).trans rfl, (blk_cell BK860.out 3).trans rfl⟩ (fun hHeld => ?_); clear hK K; refine norm_ (a' := ?_) ?_ ?_; rotate_left
        · show Act.put _ (some 15) _ = _
          simp only [Act.put, List.setIfInBounds_toArray, List.set_cons_zero, List.set_cons_succ, i64_w, i32_w]
          rfl
        refine one_ (i := 3) (N := some 17) #[true, true, true, true, false, false] rfl rfl (by kernel_rfl) (by decide) (fun K hK => ?_); refine goes_ Try.func48 (by kernel_rfl) rfl #[.agg #[.int .i64 a1_0, .int .i64 a1_1, .int .i64 a1_2, .int .i64 a1_3]] (by rfl) rfl rfl dz ?_
        with_reducible refine (laws_toBox.calls a1_0 a1_1 a1_2 a1_3 t866 t867 t868 t869 _ A11.out).mono ?_
        rintro e w52 ⟨rfl, hb⟩
        refine ⟨_, rfl, ?_⟩; have n0_ := Aside0.mk (Kd.S_below (by (with_reducible repeat (first | apply Kd.S_alloc | apply Kd.S_drewN | apply Kd.S_drew)); exact HO865.out) hb); have n1_ := Aside0.mk (blk_below (g := gb859) (o := .cells #[.int .i64 a0_0, .slice A0_1 l0_1.length c0_1] 41 (0, 0)) (kz BK859.out) hb); have n2_ := Aside0.mk (blk_below (g := gb860) (o := .cells #[.int .i64 a1_0, .int .i64 a1_1, .int .i64 a1_2, .int .i64 a1_3] 24 (0, 0)) (kz BK860.out) hb); have n3_ := Aside0.mk (below_step (b2 GE859.out GE860.out HB.out) hb); clear HO865; clear BK859; clear BK860; clear HB; have HO865 := n0_; have BK859 := n1_; have BK860 := n2_; have HB := n3_; clear n0_ n1_ n2_ n3_
        (try clear hb)
        (try clear hb2)
        (try clear hk)
        (try clear hi)
        obtain ⟨Ao53, co53, eo53⟩ := Kd.S_slice HO865.out
        (first | subst eo53 | (injection eo53 with f1_ f2_ f3_; have f4_ := f1_.symm; have f5_ := f3_.symm; clear f1_ f2_ f3_; subst f4_; subst f5_))
        refine hK.out _ _ ⟨(blk_cell BK859.out 0).trans rfl, (blk_cell BK859.out 1).trans rfl, (blk_cell BK860.out 0).trans rfl, (blk_cell BK860.out 1).trans rfl, (blk_cell BK860.out 2).trans rfl, (blk_cell BK860.out 3).trans rfl⟩ (fun hHeld => ?_); clear hK K; refine norm_ (a' := ?_) ?_ ?_; rotate_left
        · show Act.put _ (some 17) _ = _
          simp only [Act.put, List.setIfInBounds_toArray, List.set_cons_zero, List.set_cons_succ, i64_w, i32_w]
          rfl
        refine one_ (i := 4) (N := some 18) #[true, true, true, true, true, false] rfl rfl (by kernel_rfl) (by decide) (fun K hK => ?_); refine goes_ Try.func47 (by kernel_rfl) rfl #[.agg #[.int .i64 t862, .slice Ao53 t863.length co53], .agg #[.int .i64 t866, .int .i64 t867, .int .i64 t868, .int .i64 t869]] (by rfl) rfl rfl dz ?_
        with_reducible refine (spec_Visited.calls k t862 _ _ t863 t866 t867 t868 t869 t870 _ ?side1 ?side2 A12.out).mono ?_
        (case side1 => repeat (first | exact (Kd.S_reads' HO865.out).2.2 | (with_reducible refine Kd.C_alloc ?_ _) | (with_reducible refine Kd.C_drewN ?_ _) | (with_reducible refine Kd.C_drew ?_)))
        (case side2 => exact (Kd.S_reads' HO865.out).2.1)
        rintro e w54 ⟨rfl, hb⟩
        refine ⟨_, rfl, ?_⟩; have n0_ := Aside0.mk (Kd.S_below (by (with_reducible repeat (first | apply Kd.S_alloc | apply Kd.S_drewN | apply Kd.S_drew)); exact HO865.out) hb); have n1_ := Aside0.mk (blk_below (g := gb859) (o := .cells #[.int .i64 a0_0, .slice A0_1 l0_1.length c0_1] 41 (0, 0)) (kz BK859.out) hb); have n2_ := Aside0.mk (blk_below (g := gb860) (o := .cells #[.int .i64 a1_0, .int .i64 a1_1, .int .i64 a1_2, .int .i64 a1_3] 24 (0, 0)) (kz BK860.out) hb); have n3_ := Aside0.mk (below_step (b2 GE859.out GE860.out HB.out) hb); clear HO865; clear BK859; clear BK860; clear HB; have HO865 := n0_; have BK859 := n1_; have BK860 := n2_; have HB := n3_; clear n0_ n1_ n2_ n3_
        (try clear hb)
        (try clear hb2)
        (try clear hk)
        (try clear hi)
        refine hK.out _ _ ⟨(blk_cell BK859.out 0).trans rfl, (blk_cell BK859.out 1).trans rfl, (blk_cell BK860.out 0).trans rfl, (blk_cell BK860.out 1).trans rfl, (blk_cell BK860.out 2).trans rfl, (blk_cell BK860.out 3).trans rfl⟩ (fun hHeld => ?_); clear hK K; refine norm_ (a' := ?_) ?_ ?_; rotate_left
        · show Act.put _ (some 18) _ = _
          simp only [Act.put, List.setIfInBounds_toArray, List.set_cons_zero, List.set_cons_succ, i64_w, i32_w]
          rfl
        refine pure_ (i := 5) (N := some 6) (v := ?_) (a' := ?_) #[true, true, true, true, true, true] rfl rfl (by kernel_rfl) (fun _ _ _ h => h) (Or.inl ⟨by rfl, ?_⟩) ?_ ?_; rotate_left
        · intro w'
          go_simp
          with_reducible rfl
        rotate_left
        · exact pz
        refine done_ (by kernel_rfl) ?_; have hcz55_0 := fz BK859.out 0 (.int .i64 a0_0); have hcz55_1 := fz BK859.out 1 (.slice A0_1 l0_1.length c0_1); have hfz55_0 := blk_frozen BK859.out 0; have hfz55_1 := blk_frozen BK859.out 1
        try go_wp2_with (first | ((with_reducible refine gate_callee (f := 26) rfl ?_); refine goesL_ (some 20) rfl rfl Try.func26 (by kernel_rfl) rfl #[.agg #[.int .i64 a0_0, .slice A0_1 l0_1.length c0_1]] rfl dz ?_; (with_reducible refine (laws_toBook.calls k a0_0 _ _ l0_1 t871 t872 _ ?side1 ?side2 A13.out).mono ?_); (case side1 => exact sz HR0_1.out HB.out); (case side2 => exact HC0_1.out); rintro e w56 ⟨v873, rfl, ho0, hb⟩; refine ⟨_, rfl, ?_⟩; have n0_ := Aside0.mk (Kd.S_elder' (by (with_reducible repeat (first | apply Kd.S_alloc | apply Kd.S_drewN | apply Kd.S_drew)); exact HO865.out) (Kd.S_base ho0) hb); have n1_ := Aside0.mk (Kd.S_lower (Kd.S_new' ho0 (Kd.S_lt (by (with_reducible repeat (first | apply Kd.S_alloc | apply Kd.S_drewN | apply Kd.S_drew)); exact HO865.out))) (below_size (b2 GE859.out GE860.out HB.out))); have n2_ := Aside0.mk (blk_below (g := gb859) (o := .cells #[.int .i64 a0_0, .slice A0_1 l0_1.length c0_1] 41 (0, 0)) (kz BK859.out) hb); have n3_ := Aside0.mk (blk_below (g := gb860) (o := .cells #[.int .i64 a1_0, .int .i64 a1_1, .int .i64 a1_2, .int .i64 a1_3] 24 (0, 0)) (kz BK860.out) hb); have n4_ := Aside0.mk (below_step (b2 GE859.out GE860.out HB.out) hb); clear HO865; clear BK859; clear BK860; clear HB; have HO865 := n0_; have HO874 := n1_; have BK859 := n2_; have BK860 := n3_; have HB := n4_; clear n0_ n1_ n2_ n3_ n4_; (try clear hb); (try clear hb2); (try clear hk); (try clear hi); (try clear ho0)) | ((with_reducible refine gate_dst (N := 7) rfl ?_); refine box_event ?hg (N := 7) ?hd (cs := #[.int .i64 0, .slice none 0 0]) (t := 49) ?hr ?_; (case hd => rfl); (case hg => rfl); (case hr => first | (go_simp; done) | (go_simp; rfl)); intro gb875 hg w57 hbox hb; have n0_ := Aside0.mk (Kd.S_below (by (with_reducible repeat (first | apply Kd.S_alloc | apply Kd.S_drewN | apply Kd.S_drew)); exact HO865.out) hb); have n1_ := Aside0.mk (Kd.S_below (by (with_reducible repeat (first | apply Kd.S_alloc | apply Kd.S_drewN | apply Kd.S_drew)); exact HO874.out) hb); have n2_ := Aside0.mk (blk_below (g := gb859) (o := .cells #[.int .i64 a0_0, .slice A0_1 l0_1.length c0_1] 41 (0, 0)) (kz BK859.out) hb); have n3_ := Aside0.mk (blk_below (g := gb860) (o := .cells #[.int .i64 a1_0, .int .i64 a1_1, .int .i64 a1_2, .int .i64 a1_3] 24 (0, 0)) (kz BK860.out) hb); have n4_ := Aside0.mk (below_step (b2 GE859.out GE860.out HB.out) hb); have n5_ := Aside0.mk (hbox); have n6_ := Aside0.mk ((by rw [hg]; exact (below_size (b2 GE859.out GE860.out HB.out)) : w.heap.size ≤ gb875)); have n7_ := Aside0.mk ((by rw [hg]; exact (below_size (b2 GE859.out GE860.out HB.out)) : w.heap.size ≤ gb875)); have n8_ := Aside0.mk ((by rw [hg]; exact Nat.ne_of_lt (blk_lt (g := gb859) (o := .cells #[.int .i64 a0_0, .slice A0_1 l0_1.length c0_1] 41 (0, 0)) (kz BK859.out)) : gb859 ≠ gb875)); have n9_ := Aside0.mk ((by rw [hg]; exact Nat.ne_of_gt (blk_lt (g := gb859) (o := .cells #[.int .i64 a0_0, .slice A0_1 l0_1.length c0_1] 41 (0, 0)) (kz BK859.out)) : gb875 ≠ gb859)); have n10_ := Aside0.mk ((by rw [hg]; exact Nat.ne_of_lt (blk_lt (g := gb860) (o := .cells #[.int .i64 a1_0, .int .i64 a1_1, .int .i64 a1_2, .int .i64 a1_3] 24 (0, 0)) (kz BK860.out)) : gb860 ≠ gb875)); have n11_ := Aside0.mk ((by rw [hg]; exact Nat.ne_of_gt (blk_lt (g := gb860) (o := .cells #[.int .i64 a1_0, .int .i64 a1_1, .int .i64 a1_2, .int .i64 a1_3] 24 (0, 0)) (kz BK860.out)) : gb875 ≠ gb860)); clear HO865; clear HO874; clear BK859; clear BK860; clear HB; have HO865 := n0_; have HO874 := n1_; have BK859 := n2_; have BK860 := n3_; have HB := n4_; have BK875 := n5_; have GW875 := n6_; have GE875 := n7_; have NB859_875 := n8_; have NB875_859 := n9_; have NB860_875 := n10_; have NB875_860 := n11_; clear n0_ n1_ n2_ n3_ n4_ n5_ n6_ n7_ n8_ n9_ n10_ n11_; clear hb hbox hg; have hnb58 := NB875_859.out; have hnc58 := NB859_875.out; have hnb59 := NB875_860.out; have hnc59 := NB860_875.out; have hcz60_0 := fz BK875.out 0 (.int .i64 0); have hcz60_1 := fz BK875.out 1 (.slice none 0 0); have hfz60_0 := blk_frozen BK875.out 0; have hfz60_1 := blk_frozen BK875.out 1; obtain ⟨Ao61, co61, eo61⟩ := Kd.S_slice HO874.out; subst eo61))
        have n0_ : Aside0 (Kd.S k90 90 ((w57.setCell ⟨gb875, 0, none⟩ (.int .i64 t871)).setCell ⟨gb875, 1, none⟩ (.slice Ao61 t872.length co61)) w.heap.size (fun k_ => some k_ ≠ (.slice Ao61 t872.length co61 : Value).ownBlock) (.slice Ao53 t863.length co53) t863) := ⟨by (with_reducible repeat (first | apply Kd.S_alloc | apply Kd.S_drewN | apply Kd.S_drew)); exact Kd.S_mono (Kd.S_far (p := ⟨gb875, 1, none⟩) (Kd.S_far (p := ⟨gb875, 0, none⟩) (Kd.S_types HO865.out BK875.out (by decide)) (fun _ hk => hk.2) (.int .i64 t871)) (fun _ hk => hk.2) (.slice Ao61 t872.length co61)) (fun _ hk => hk.1.2)⟩; have n1_ : Aside0 (Kd.S k90 90 ((w57.setCell ⟨gb875, 0, none⟩ (.int .i64 t871)).setCell ⟨gb875, 1, none⟩ (.slice Ao61 t872.length co61)) w.heap.size (fun k_ => some k_ ≠ (.slice Ao53 t863.length co53 : Value).ownBlock) (.slice Ao61 t872.length co61) t872) := ⟨by (with_reducible repeat (first | apply Kd.S_alloc | apply Kd.S_drewN | apply Kd.S_drew)); exact Kd.S_mono (Kd.S_far (p := ⟨gb875, 1, none⟩) (Kd.S_far (p := ⟨gb875, 0, none⟩) (Kd.S_types HO874.out BK875.out (by decide)) (fun _ hk => hk.2) (.int .i64 t871)) (fun _ hk => hk.2) (.slice Ao61 t872.length co61)) (fun _ hk => hk.1.2)⟩; have n2_ : Aside0 (((w57.setCell ⟨gb875, 0, none⟩ (.int .i64 t871)).setCell ⟨gb875, 1, none⟩ (.slice Ao61 t872.length co61)).heap[gb859]? = some (.cells #[.int .i64 a0_0, .slice A0_1 l0_1.length c0_1] 41 (0, 0))) := ⟨by (with_reducible repeat (first | refine blk_drewN ?_ _ | refine blk_drew ?_ | refine blk_alloc ?_ _)); refine blk_far ?_ NB859_875.out _; (with_reducible repeat (first | refine blk_drewN ?_ _ | refine blk_drew ?_ | refine blk_alloc ?_ _)); refine blk_far ?_ NB859_875.out _; (with_reducible repeat (first | refine blk_drewN ?_ _ | refine blk_drew ?_ | refine blk_alloc ?_ _)); exact BK859.out⟩; have n3_ : Aside0 (((w57.setCell ⟨gb875, 0, none⟩ (.int .i64 t871)).setCell ⟨gb875, 1, none⟩ (.slice Ao61 t872.length co61)).heap[gb860]? = some (.cells #[.int .i64 a1_0, .int .i64 a1_1, .int .i64 a1_2, .int .i64 a1_3] 24 (0, 0))) := ⟨by (with_reducible repeat (first | refine blk_drewN ?_ _ | refine blk_drew ?_ | refine blk_alloc ?_ _)); refine blk_far ?_ NB860_875.out _; (with_reducible repeat (first | refine blk_drewN ?_ _ | refine blk_drew ?_ | refine blk_alloc ?_ _)); refine blk_far ?_ NB860_875.out _; (with_reducible repeat (first | refine blk_drewN ?_ _ | refine blk_drew ?_ | refine blk_alloc ?_ _)); exact BK860.out⟩; have n4_ : Aside0 (((w57.setCell ⟨gb875, 0, none⟩ (.int .i64 t871)).setCell ⟨gb875, 1, none⟩ (.slice Ao61 t872.length co61)).heap[gb875]? = some (.cells #[.int .i64 t871, .slice Ao61 t872.length co61] 49 (0, 0))) := ⟨by (with_reducible repeat (first | refine blk_drewN ?_ _ | refine blk_drew ?_ | refine blk_alloc ?_ _)); refine blk_put (cs := #[.int .i64 t871, .slice none 0 0]) ?_ 1 _ rfl; (with_reducible repeat (first | refine blk_drewN ?_ _ | refine blk_drew ?_ | refine blk_alloc ?_ _)); refine blk_put (cs := #[.int .i64 0, .slice none 0 0]) ?_ 0 _ rfl; (with_reducible repeat (first | refine blk_drewN ?_ _ | refine blk_drew ?_ | refine blk_alloc ?_ _)); exact BK875.out⟩; have n5_ : Aside0 (Below w.heap.size w ((w57.setCell ⟨gb875, 0, none⟩ (.int .i64 t871)).setCell ⟨gb875, 1, none⟩ (.slice Ao61 t872.length co61))) := ⟨by repeat (first | (with_reducible first | exact HB.out | apply below_alloc | apply pw_below_drewN | apply below_drew1 | refine below_set ?_ GE859.out | refine below_set ?_ GE860.out | refine below_set ?_ GE875.out) | exact HB.out)⟩
        (try clear HO865)
        (try clear HO874)
        (try clear BK859)
        (try clear BK860)
        (try clear BK875)
        (try clear HB)
        generalize ((w57.setCell ⟨gb875, 0, none⟩ (.int .i64 t871)).setCell ⟨gb875, 1, none⟩ (.slice Ao61 t872.length co61)) = w62 at n0_ n1_ n2_ n3_ n4_ n5_ ⊢
        have HO865 := n0_; have HO874 := n1_; have BK859 := n2_; have BK860 := n3_; have BK875 := n4_; have HB := n5_; clear n0_ n1_ n2_ n3_ n4_ n5_; have n0_ := Aside0.mk (Kd.S_drew HO865.out); have n1_ := Aside0.mk (Kd.S_drew HO874.out); have n2_ := Aside0.mk (blk_drew BK859.out); have n3_ := Aside0.mk (blk_drew BK860.out); have n4_ := Aside0.mk (blk_drew BK875.out); have n5_ := Aside0.mk (below_drew1 HB.out); clear HO865; clear HO874; clear BK859; clear BK860; clear BK875; clear HB; have HO865 := n0_; have HO874 := n1_; have BK859 := n2_; have BK860 := n3_; have BK875 := n4_; have HB := n5_; clear n0_ n1_ n2_ n3_ n4_ n5_; refine start_ (n := 5) (S := fun w' => w'.cell? ⟨gb875, 0, none⟩ = some (.int .i64 t871) ∧ w'.cell? ⟨gb875, 1, none⟩ = some (.slice Ao61 t872.length co61) ∧ w'.cell? ⟨gb860, 0, none⟩ = some (.int .i64 a1_0) ∧ w'.cell? ⟨gb860, 1, none⟩ = some (.int .i64 a1_1) ∧ w'.cell? ⟨gb860, 2, none⟩ = some (.int .i64 a1_2) ∧ w'.cell? ⟨gb860, 3, none⟩ = some (.int .i64 a1_3)) (ds := []) #[false, false, false, false, false] (by kernel_rfl) rfl rfl ⟨(blk_cell BK875.out 0).trans rfl, (blk_cell BK875.out 1).trans rfl, (blk_cell BK860.out 0).trans rfl, (blk_cell BK860.out 1).trans rfl, (blk_cell BK860.out 2).trans rfl, (blk_cell BK860.out 3).trans rfl⟩ (fun hHeld => ?_)
        generalize w62.drew = w63 at HO865 HO874 BK859 BK860 BK875 HB hHeld ⊢
        refine take_ (i := 0) (N := some 21) (v := ?_) (a' := ?_) #[true, false, false, false, false] rfl rfl (by kernel_rfl) (fun _ _ _ h => h) (Or.inl ⟨by rfl, ?_⟩) hHeld ?_ ?_; rotate_left
        · rintro w' ⟨s0, s1, s2, s3, s4, s5⟩
          go_simp
          with_reducible rfl
        rotate_left
        · exact pz
        refine take_ (i := 1) (N := some 22) (v := ?_) (a' := ?_) #[true, true, false, false, false] rfl rfl (by kernel_rfl) (fun _ _ _ h => h) (Or.inl ⟨by rfl, ?_⟩) hHeld ?_ ?_; rotate_left
        · rintro w' ⟨s0, s1, s2, s3, s4, s5⟩
          go_simp
          with_reducible rfl
        rotate_left
        · exact pz
        refine one_ (i := 2) (N := some 23) #[true, true, true, false, false] rfl rfl (by kernel_rfl) (by decide) (fun K hK => ?_); refine goes_ Try.func48 (by kernel_rfl) rfl #[.agg #[.int .i64 a1_0, .int .i64 a1_1, .int .i64 a1_2, .int .i64 a1_3]] (by rfl) rfl rfl dz ?_
        with_reducible refine (laws_toBox.calls a1_0 a1_1 a1_2 a1_3 t876 t877 t878 t879 _ A14.out).mono ?_
        rintro e w64 ⟨rfl, hb⟩
        refine ⟨_, rfl, ?_⟩; have n0_ := Aside0.mk (Kd.S_below (by (with_reducible repeat (first | apply Kd.S_alloc | apply Kd.S_drewN | apply Kd.S_drew)); exact HO865.out) hb); have n1_ := Aside0.mk (Kd.S_below (by (with_reducible repeat (first | apply Kd.S_alloc | apply Kd.S_drewN | apply Kd.S_drew)); exact HO874.out) hb); have n2_ := Aside0.mk (blk_below (g := gb859) (o := .cells #[.int .i64 a0_0, .slice A0_1 l0_1.length c0_1] 41 (0, 0)) (kz BK859.out) hb); have n3_ := Aside0.mk (blk_below (g := gb860) (o := .cells #[.int .i64 a1_0, .int .i64 a1_1, .int .i64 a1_2, .int .i64 a1_3] 24 (0, 0)) (kz BK860.out) hb); have n4_ := Aside0.mk (blk_below (g := gb875) (o := .cells #[.int .i64 t871, .slice Ao61 t872.length co61] 49 (0, 0)) (kz BK875.out) hb); have n5_ := Aside0.mk (below_step (by repeat (first | (with_reducible first | exact HB.out | apply below_alloc | apply pw_below_drewN | apply below_drew1 | refine below_set ?_ GE859.out | refine below_set ?_ GE860.out | refine below_set ?_ GE875.out) | exact HB.out)) hb); clear HO865; clear HO874; clear BK859; clear BK860; clear BK875; clear HB; have HO865 := n0_; have HO874 := n1_; have BK859 := n2_; have BK860 := n3_; have BK875 := n4_; have HB := n5_; clear n0_ n1_ n2_ n3_ n4_ n5_
        (try clear hb)
        (try clear hb2)
        (try clear hk)
        (try clear hi)
        refine hK.out _ _ ⟨(blk_cell BK875.out 0).trans rfl, (blk_cell BK875.out 1).trans rfl, (blk_cell BK860.out 0).trans rfl, (blk_cell BK860.out 1).trans rfl, (blk_cell BK860.out 2).trans rfl, (blk_cell BK860.out 3).trans rfl⟩ (fun hHeld => ?_); clear hK K; refine norm_ (a' := ?_) ?_ ?_; rotate_left
        · show Act.put _ (some 23) _ = _
          simp only [Act.put, List.setIfInBounds_toArray, List.set_cons_zero, List.set_cons_succ, i64_w, i32_w]
          rfl
        refine one_ (i := 3) (N := some 24) #[true, true, true, true, false] rfl rfl (by kernel_rfl) (by decide) (fun K hK => ?_); refine goes_ Try.func49 (by kernel_rfl) rfl #[.agg #[.int .i64 t871, .slice Ao61 t872.length co61], .agg #[.int .i64 t876, .int .i64 t877, .int .i64 t878, .int .i64 t879]] (by rfl) rfl rfl dz ?_
        with_reducible refine (impl_Visited.calls k t871 _ _ t872 t876 t877 t878 t879 t880 _ ?side1 ?side2 A15.out).mono ?_
        (case side1 => repeat (first | exact (Kd.S_reads' HO874.out).2.2 | (with_reducible refine Kd.C_alloc ?_ _) | (with_reducible refine Kd.C_drewN ?_ _) | (with_reducible refine Kd.C_drew ?_)))
        (case side2 => exact (Kd.S_reads' HO874.out).2.1)
        rintro e w65 ⟨rfl, hb⟩
        refine ⟨_, rfl, ?_⟩; have n0_ := Aside0.mk (Kd.S_below (by (with_reducible repeat (first | apply Kd.S_alloc | apply Kd.S_drewN | apply Kd.S_drew)); exact HO865.out) hb); have n1_ := Aside0.mk (Kd.S_below (by (with_reducible repeat (first | apply Kd.S_alloc | apply Kd.S_drewN | apply Kd.S_drew)); exact HO874.out) hb); have n2_ := Aside0.mk (blk_below (g := gb859) (o := .cells #[.int .i64 a0_0, .slice A0_1 l0_1.length c0_1] 41 (0, 0)) (kz BK859.out) hb); have n3_ := Aside0.mk (blk_below (g := gb860) (o := .cells #[.int .i64 a1_0, .int .i64 a1_1, .int .i64 a1_2, .int .i64 a1_3] 24 (0, 0)) (kz BK860.out) hb); have n4_ := Aside0.mk (blk_below (g := gb875) (o := .cells #[.int .i64 t871, .slice Ao61 t872.length co61] 49 (0, 0)) (kz BK875.out) hb); have n5_ := Aside0.mk (below_step (by repeat (first | (with_reducible first | exact HB.out | apply below_alloc | apply pw_below_drewN | apply below_drew1 | refine below_set ?_ GE859.out | refine below_set ?_ GE860.out | refine below_set ?_ GE875.out) | exact HB.out)) hb); clear HO865; clear HO874; clear BK859; clear BK860; clear BK875; clear HB; have HO865 := n0_; have HO874 := n1_; have BK859 := n2_; have BK860 := n3_; have BK875 := n4_; have HB := n5_; clear n0_ n1_ n2_ n3_ n4_ n5_
        (try clear hb)
        (try clear hb2)
        (try clear hk)
        (try clear hi)
        refine hK.out _ _ ⟨(blk_cell BK875.out 0).trans rfl, (blk_cell BK875.out 1).trans rfl, (blk_cell BK860.out 0).trans rfl, (blk_cell BK860.out 1).trans rfl, (blk_cell BK860.out 2).trans rfl, (blk_cell BK860.out 3).trans rfl⟩ (fun hHeld => ?_); clear hK K; refine norm_ (a' := ?_) ?_ ?_; rotate_left
        · show Act.put _ (some 24) _ = _
          simp only [Act.put, List.setIfInBounds_toArray, List.set_cons_zero, List.set_cons_succ, i64_w, i32_w]
          rfl
        refine pure_ (i := 4) (N := some 8) (v := ?_) (a' := ?_) #[true, true, true, true, true] rfl rfl (by kernel_rfl) (fun _ _ _ h => h) (Or.inl ⟨by rfl, ?_⟩) ?_ ?_; rotate_left
        · intro w'
          go_simp
          with_reducible rfl
        rotate_left
        · exact pz
        refine done_ (by kernel_rfl) ?_
        try go_wp2
        have n0_ := Aside0.mk (Kd.S_drew HO865.out); have n1_ := Aside0.mk (Kd.S_drew HO874.out); have n2_ := Aside0.mk (blk_drew BK859.out); have n3_ := Aside0.mk (blk_drew BK860.out); have n4_ := Aside0.mk (blk_drew BK875.out); have n5_ := Aside0.mk (below_drew1 HB.out); clear HO865; clear HO874; clear BK859; clear BK860; clear BK875; clear HB; have HO865 := n0_; have HO874 := n1_; have BK859 := n2_; have BK860 := n3_; have BK875 := n4_; have HB := n5_; clear n0_ n1_ n2_ n3_ n4_ n5_; refine start_ (n := 5) (S := fun w' => w'.cell? ⟨gb875, 0, none⟩ = some (.int .i64 t871) ∧ w'.cell? ⟨gb875, 1, none⟩ = some (.slice Ao61 t872.length co61) ∧ w'.cell? ⟨gb859, 0, none⟩ = some (.int .i64 a0_0) ∧ w'.cell? ⟨gb859, 1, none⟩ = some (.slice A0_1 l0_1.length c0_1)) (ds := []) #[false, false, false, false, false] (by kernel_rfl) rfl rfl ⟨(blk_cell BK875.out 0).trans rfl, (blk_cell BK875.out 1).trans rfl, (blk_cell BK859.out 0).trans rfl, (blk_cell BK859.out 1).trans rfl⟩ (fun hHeld => ?_)
        generalize w65.drew = w66 at HO865 HO874 BK859 BK860 BK875 HB hHeld ⊢
        refine take_ (i := 0) (N := some 28) (v := ?_) (a' := ?_) #[true, false, false, false, false] rfl rfl (by kernel_rfl) (fun _ _ _ h => h) (Or.inl ⟨by rfl, ?_⟩) hHeld ?_ ?_; rotate_left
        · rintro w' ⟨s0, s1, s2, s3⟩
          go_simp
          with_reducible rfl
        rotate_left
        · exact pz
        refine take_ (i := 1) (N := some 29) (v := ?_) (a' := ?_) #[true, true, false, false, false] rfl rfl (by kernel_rfl) (fun _ _ _ h => h) (Or.inl ⟨by rfl, ?_⟩) hHeld ?_ ?_; rotate_left
        · rintro w' ⟨s0, s1, s2, s3⟩
          go_simp
          with_reducible rfl
        rotate_left
        · exact pz
        refine one_ (i := 2) (N := some 30) #[true, true, true, false, false] rfl rfl (by kernel_rfl) (by decide) (fun K hK => ?_); refine goes_ Try.func26 (by kernel_rfl) rfl #[.agg #[.int .i64 a0_0, .slice A0_1 l0_1.length c0_1]] (by rfl) rfl rfl dz ?_
        with_reducible refine (laws_toBook.calls k a0_0 _ _ l0_1 t881 t882 _ ?side1 ?side2 A17.out).mono ?_
        (case side1 => exact sz HR0_1.out HB.out)
        (case side2 => exact HC0_1.out)
        rintro e w67 ⟨v883, rfl, ho0, hb⟩
        refine ⟨_, rfl, ?_⟩; have n0_ := Aside0.mk (Kd.S_elder' (by (with_reducible repeat (first | apply Kd.S_alloc | apply Kd.S_drewN | apply Kd.S_drew)); exact HO865.out) (Kd.S_base ho0) hb); have n1_ := Aside0.mk (Kd.S_elder' (by (with_reducible repeat (first | apply Kd.S_alloc | apply Kd.S_drewN | apply Kd.S_drew)); exact HO874.out) (Kd.S_base ho0) hb); have n2_ := Aside0.mk (Kd.S_lower (Kd.S_new' (Kd.S_new' ho0 (Kd.S_lt (by (with_reducible repeat (first | apply Kd.S_alloc | apply Kd.S_drewN | apply Kd.S_drew)); exact HO865.out))) (Kd.S_lt (by (with_reducible repeat (first | apply Kd.S_alloc | apply Kd.S_drewN | apply Kd.S_drew)); exact HO874.out))) (below_size (by repeat (first | (with_reducible first | exact HB.out | apply below_alloc | apply pw_below_drewN | apply below_drew1 | refine below_set ?_ GE859.out | refine below_set ?_ GE860.out | refine below_set ?_ GE875.out) | exact HB.out)))); have n3_ := Aside0.mk (blk_below (g := gb859) (o := .cells #[.int .i64 a0_0, .slice A0_1 l0_1.length c0_1] 41 (0, 0)) (kz BK859.out) hb); have n4_ := Aside0.mk (blk_below (g := gb860) (o := .cells #[.int .i64 a1_0, .int .i64 a1_1, .int .i64 a1_2, .int .i64 a1_3] 24 (0, 0)) (kz BK860.out) hb); have n5_ := Aside0.mk (blk_below (g := gb875) (o := .cells #[.int .i64 t871, .slice Ao61 t872.length co61] 49 (0, 0)) (kz BK875.out) hb); have n6_ := Aside0.mk (below_step (by repeat (first | (with_reducible first | exact HB.out | apply below_alloc | apply pw_below_drewN | apply below_drew1 | refine below_set ?_ GE859.out | refine below_set ?_ GE860.out | refine below_set ?_ GE875.out) | exact HB.out)) hb); clear HO865; clear HO874; clear BK859; clear BK860; clear BK875; clear HB; have HO865 := n0_; have HO874 := n1_; have HO884 := n2_; have BK859 := n3_; have BK860 := n4_; have BK875 := n5_; have HB := n6_; clear n0_ n1_ n2_ n3_ n4_ n5_ n6_
        (try clear hb)
        (try clear hb2)
        (try clear hk)
        (try clear hi)
        (try clear ho0)
        obtain ⟨Ao68, co68, eo68⟩ := Kd.S_slice HO884.out
        (first | subst eo68 | (injection eo68 with f1_ f2_ f3_; have f4_ := f1_.symm; have f5_ := f3_.symm; clear f1_ f2_ f3_; subst f4_; subst f5_))
        refine hK.out _ _ ⟨(blk_cell BK875.out 0).trans rfl, (blk_cell BK875.out 1).trans rfl, (blk_cell BK859.out 0).trans rfl, (blk_cell BK859.out 1).trans rfl⟩ (fun hHeld => ?_); clear hK K; refine norm_ (a' := ?_) ?_ ?_; rotate_left
        · show Act.put _ (some 30) _ = _
          simp only [Act.put, List.setIfInBounds_toArray, List.set_cons_zero, List.set_cons_succ, i64_w, i32_w]
          rfl
        refine one_ (i := 3) (N := some 31) #[true, true, true, true, false] rfl rfl (by kernel_rfl) (by decide) (fun K hK => ?_); refine goes_ Try.func29 (by kernel_rfl) rfl #[.agg #[.int .i64 t871, .slice Ao61 t872.length co61], .agg #[.int .i64 t881, .slice Ao68 t882.length co68]] (by rfl) rfl rfl dz ?_
        with_reducible refine (laws_eqBook.calls k t871 _ _ t872 t881 _ _ t882 false _ ?side1 ?side2 ?side3 ?side4 A18.out).mono ?_
        (case side1 => repeat (first | exact (Kd.S_reads' HO874.out).2.2 | (with_reducible refine Kd.C_alloc ?_ _) | (with_reducible refine Kd.C_drewN ?_ _) | (with_reducible refine Kd.C_drew ?_)))
        (case side2 => exact (Kd.S_reads' HO874.out).2.1)
        (case side3 => repeat (first | exact (Kd.S_reads' HO884.out).2.2 | (with_reducible refine Kd.C_alloc ?_ _) | (with_reducible refine Kd.C_drewN ?_ _) | (with_reducible refine Kd.C_drew ?_)))
        (case side4 => exact (Kd.S_reads' HO884.out).2.1)
        rintro e w69 ⟨rfl, hb⟩
        refine ⟨_, rfl, ?_⟩; have n0_ := Aside0.mk (Kd.S_below (by (with_reducible repeat (first | apply Kd.S_alloc | apply Kd.S_drewN | apply Kd.S_drew)); exact HO865.out) hb); have n1_ := Aside0.mk (Kd.S_below (by (with_reducible repeat (first | apply Kd.S_alloc | apply Kd.S_drewN | apply Kd.S_drew)); exact HO874.out) hb); have n2_ := Aside0.mk (Kd.S_below (by (with_reducible repeat (first | apply Kd.S_alloc | apply Kd.S_drewN | apply Kd.S_drew)); exact HO884.out) hb); have n3_ := Aside0.mk (blk_below (g := gb859) (o := .cells #[.int .i64 a0_0, .slice A0_1 l0_1.length c0_1] 41 (0, 0)) (kz BK859.out) hb); have n4_ := Aside0.mk (blk_below (g := gb860) (o := .cells #[.int .i64 a1_0, .int .i64 a1_1, .int .i64 a1_2, .int .i64 a1_3] 24 (0, 0)) (kz BK860.out) hb); have n5_ := Aside0.mk (blk_below (g := gb875) (o := .cells #[.int .i64 t871, .slice Ao61 t872.length co61] 49 (0, 0)) (kz BK875.out) hb); have n6_ := Aside0.mk (below_step (by repeat (first | (with_reducible first | exact HB.out | apply below_alloc | apply pw_below_drewN | apply below_drew1 | refine below_set ?_ GE859.out | refine below_set ?_ GE860.out | refine below_set ?_ GE875.out) | exact HB.out)) hb); clear HO865; clear HO874; clear HO884; clear BK859; clear BK860; clear BK875; clear HB; have HO865 := n0_; have HO874 := n1_; have HO884 := n2_; have BK859 := n3_; have BK860 := n4_; have BK875 := n5_; have HB := n6_; clear n0_ n1_ n2_ n3_ n4_ n5_ n6_
        (try clear hb)
        (try clear hb2)
        (try clear hk)
        (try clear hi)
        refine hK.out _ _ ⟨(blk_cell BK875.out 0).trans rfl, (blk_cell BK875.out 1).trans rfl, (blk_cell BK859.out 0).trans rfl, (blk_cell BK859.out 1).trans rfl⟩ (fun hHeld => ?_); clear hK K; refine norm_ (a' := ?_) ?_ ?_; rotate_left
        · show Act.put _ (some 31) _ = _
          simp only [Act.put, List.setIfInBounds_toArray, List.set_cons_zero, List.set_cons_succ, i64_w, i32_w]
          rfl
        refine pure_ (i := 4) (N := some 32) (v := ?_) (a' := ?_) #[true, true, true, true, true] rfl rfl (by kernel_rfl) (fun _ _ _ h => h) (Or.inl ⟨by rfl, ?_⟩) ?_ ?_; rotate_left
        · intro w'
          go_simp
          with_reducible rfl
        rotate_left
        · exact pz
        refine done_ (by kernel_rfl) ?_
        try go_wp2
        go_ret; exact ⟨ez, by repeat (first | (with_reducible first | exact HB.out | apply below_alloc | apply pw_below_drewN | apply below_drew1 | refine below_set ?_ GE859.out | refine below_set ?_ GE860.out | refine below_set ?_ GE875.out) | exact HB.out)⟩
    · rw [if_neg c16] at H
      have c16b0 : (t880 == t870) = false := beq_eq_false_iff_ne.mpr c16; have c16b1 : (t880 != t870) = true := bne_iff_ne.mpr c16; obtain rfl := Option.some.inj H
      go_enter Try.func10, Try.ntmps10
      try go_wp2_with (first | ((with_reducible refine gate_dst (N := 2) rfl ?_); refine box_event ?hg (N := 2) ?hd (cs := #[.int .i64 a0_0, .slice A0_1 l0_1.length c0_1]) (t := 41) ?hr ?_; (case hd => rfl); (case hg => rfl); (case hr => first | (go_simp; done) | (go_simp; rfl)); intro gb859 hg w70 hbox hb; have n0_ := Aside0.mk (below_step (bz HB.out) hb); have n1_ := Aside0.mk (hbox); have n2_ := Aside0.mk ((by rw [hg]; exact (below_size (bz HB.out)) : w.heap.size ≤ gb859)); have n3_ := Aside0.mk ((by rw [hg]; exact (below_size (bz HB.out)) : w.heap.size ≤ gb859)); clear HB; have HB := n0_; have BK859 := n1_; have GW859 := n2_; have GE859 := n3_; clear n0_ n1_ n2_ n3_; clear hb hbox hg) | ((with_reducible refine gate_dst (N := 3) rfl ?_); refine box_event ?hg (N := 3) ?hd (cs := #[.int .i64 a1_0, .int .i64 a1_1, .int .i64 a1_2, .int .i64 a1_3]) (t := 24) ?hr ?_; (case hd => rfl); (case hg => rfl); (case hr => first | (go_simp; done) | (go_simp; rfl)); intro gb860 hg w71 hbox hb; have n0_ := Aside0.mk (blk_below (g := gb859) (o := .cells #[.int .i64 a0_0, .slice A0_1 l0_1.length c0_1] 41 (0, 0)) (kz BK859.out) hb); have n1_ := Aside0.mk (below_step (b1 GE859.out HB.out) hb); have n2_ := Aside0.mk (hbox); have n3_ := Aside0.mk ((by rw [hg]; exact (below_size (b1 GE859.out HB.out)) : w.heap.size ≤ gb860)); have n4_ := Aside0.mk ((by rw [hg]; exact (below_size (b1 GE859.out HB.out)) : w.heap.size ≤ gb860)); have n5_ := Aside0.mk ((by rw [hg]; exact Nat.ne_of_lt (blk_lt (g := gb859) (o := .cells #[.int .i64 a0_0, .slice A0_1 l0_1.length c0_1] 41 (0, 0)) (kz BK859.out)) : gb859 ≠ gb860)); have n6_ := Aside0.mk ((by rw [hg]; exact Nat.ne_of_gt (blk_lt (g := gb859) (o := .cells #[.int .i64 a0_0, .slice A0_1 l0_1.length c0_1] 41 (0, 0)) (kz BK859.out)) : gb860 ≠ gb859)); clear BK859; clear HB; have BK859 := n0_; have HB := n1_; have BK860 := n2_; have GW860 := n3_; have GE860 := n4_; have NB859_860 := n5_; have NB860_859 := n6_; clear n0_ n1_ n2_ n3_ n4_ n5_ n6_; clear hb hbox hg; have hnb72 := NB859_860.out; have hnc72 := NB860_859.out; have hcz73_0 := fz BK859.out 0 (.int .i64 a0_0); have hcz73_1 := fz BK859.out 1 (.slice A0_1 l0_1.length c0_1); have hfz73_0 := blk_frozen BK859.out 0; have hfz73_1 := blk_frozen BK859.out 1) | ((with_reducible refine gate_callee (f := 23) rfl ?_); refine goesL_ (some 11) rfl rfl Try.func23 (by kernel_rfl) rfl #[.agg #[.int .i64 a0_0, .slice A0_1 l0_1.length c0_1], .int .i64 1048576] rfl dz ?_; (with_reducible refine (laws_szBook.calls k a0_0 _ _ l0_1 1048576 t861 _ ?side1 ?side2 A3.out).mono ?_); (case side1 => exact sz HR0_1.out HB.out); (case side2 => exact HC0_1.out); rintro e w74 ⟨rfl, hb⟩; refine ⟨_, rfl, ?_⟩; have n0_ := Aside0.mk (blk_below (g := gb859) (o := .cells #[.int .i64 a0_0, .slice A0_1 l0_1.length c0_1] 41 (0, 0)) (kz BK859.out) hb); have n1_ := Aside0.mk (blk_below (g := gb860) (o := .cells #[.int .i64 a1_0, .int .i64 a1_1, .int .i64 a1_2, .int .i64 a1_3] 24 (0, 0)) (kz BK860.out) hb); have n2_ := Aside0.mk (below_step (b2 GE859.out GE860.out HB.out) hb); clear BK859; clear BK860; clear HB; have BK859 := n0_; have BK860 := n1_; have HB := n2_; clear n0_ n1_ n2_; (try clear hb); (try clear hb2); (try clear hk); (try clear hi)))
      have n0_ := Aside0.mk (blk_drew BK859.out); have n1_ := Aside0.mk (blk_drew BK860.out); have n2_ := Aside0.mk (below_drew1 HB.out); clear BK859; clear BK860; clear HB; have BK859 := n0_; have BK860 := n1_; have HB := n2_; clear n0_ n1_ n2_; refine start_ (n := 6) (S := fun w' => w'.cell? ⟨gb859, 0, none⟩ = some (.int .i64 a0_0) ∧ w'.cell? ⟨gb859, 1, none⟩ = some (.slice A0_1 l0_1.length c0_1) ∧ w'.cell? ⟨gb860, 0, none⟩ = some (.int .i64 a1_0) ∧ w'.cell? ⟨gb860, 1, none⟩ = some (.int .i64 a1_1) ∧ w'.cell? ⟨gb860, 2, none⟩ = some (.int .i64 a1_2) ∧ w'.cell? ⟨gb860, 3, none⟩ = some (.int .i64 a1_3)) (ds := []) #[false, false, false, false, false, false] (by kernel_rfl) rfl rfl ⟨(blk_cell BK859.out 0).trans rfl, (blk_cell BK859.out 1).trans rfl, (blk_cell BK860.out 0).trans rfl, (blk_cell BK860.out 1).trans rfl, (blk_cell BK860.out 2).trans rfl, (blk_cell BK860.out 3).trans rfl⟩ (fun hHeld => ?_)
      generalize w74.drew = w75 at BK859 BK860 HB hHeld ⊢
      refine take_ (i := 0) (N := some 14) (v := ?_) (a' := ?_) #[true, false, false, false, false, false] rfl rfl (by kernel_rfl) (fun _ _ _ h => h) (Or.inl ⟨by rfl, ?_⟩) hHeld ?_ ?_; rotate_left
      · rintro w' ⟨s0, s1, s2, s3, s4, s5⟩
        go_simp
        with_reducible rfl
      rotate_left
      · exact pz
      refine take_ (i := 2) (N := some 16) (v := ?_) (a' := ?_) #[true, false, true, false, false, false] rfl rfl (by kernel_rfl) (fun _ _ _ h => h) (Or.inl ⟨by rfl, ?_⟩) hHeld ?_ ?_; rotate_left
      · rintro w' ⟨s0, s1, s2, s3, s4, s5⟩
        go_simp
        with_reducible rfl
      rotate_left
      · exact pz
      refine one_ (i := 1) (N := some 15) #[true, true, true, false, false, false] rfl rfl (by kernel_rfl) (by decide) (fun K hK => ?_); refine goes_ Try.func26 (by kernel_rfl) rfl #[.agg #[.int .i64 a0_0, .slice A0_1 l0_1.length c0_1]] (by rfl) rfl rfl dz ?_
      with_reducible refine (laws_toBook.calls k a0_0 _ _ l0_1 t862 t863 _ ?side1 ?side2 A10.out).mono ?_
      (case side1 => exact sz HR0_1.out HB.out)
      (case side2 => exact HC0_1.out)
      rintro e w76 ⟨v864, rfl, ho0, hb⟩
      refine ⟨_, rfl, ?_⟩; have n0_ := Aside0.mk (Kd.S_lower ho0 (below_size (b2 GE859.out GE860.out HB.out))); have n1_ := Aside0.mk (blk_below (g := gb859) (o := .cells #[.int .i64 a0_0, .slice A0_1 l0_1.length c0_1] 41 (0, 0)) (kz BK859.out) hb); have n2_ := Aside0.mk (blk_below (g := gb860) (o := .cells #[.int .i64 a1_0, .int .i64 a1_1, .int .i64 a1_2, .int .i64 a1_3] 24 (0, 0)) (kz BK860.out) hb); have n3_ := Aside0.mk (below_step (b2 GE859.out GE860.out HB.out) hb); clear BK859; clear BK860; clear HB; have HO865 := n0_; have BK859 := n1_; have BK860 := n2_; have HB := n3_; clear n0_ n1_ n2_ n3_
      (try clear hb)
      (try clear hb2)
      (try clear hk)
      (try clear hi)
      (try clear ho0)
      refine hK.out _ _ ⟨(blk_cell BK859.out 0).trans rfl, (blk_cell BK859.out 1).trans rfl, (blk_cell BK860.out 0).trans rfl, (blk_cell BK860.out 1).trans rfl, (blk_cell BK860.out 2).trans rfl, (blk_cell BK860.out 3).trans rfl⟩ (fun hHeld => ?_); clear hK K; refine norm_ (a' := ?_) ?_ ?_; rotate_left
      · show Act.put _ (some 15) _ = _
        simp only [Act.put, List.setIfInBounds_toArray, List.set_cons_zero, List.set_cons_succ, i64_w, i32_w]
        rfl
      refine one_ (i := 3) (N := some 17) #[true, true, true, true, false, false] rfl rfl (by kernel_rfl) (by decide) (fun K hK => ?_); refine goes_ Try.func48 (by kernel_rfl) rfl #[.agg #[.int .i64 a1_0, .int .i64 a1_1, .int .i64 a1_2, .int .i64 a1_3]] (by rfl) rfl rfl dz ?_
      with_reducible refine (laws_toBox.calls a1_0 a1_1 a1_2 a1_3 t866 t867 t868 t869 _ A11.out).mono ?_
      rintro e w77 ⟨rfl, hb⟩
      refine ⟨_, rfl, ?_⟩; have n0_ := Aside0.mk (Kd.S_below (by (with_reducible repeat (first | apply Kd.S_alloc | apply Kd.S_drewN | apply Kd.S_drew)); exact HO865.out) hb); have n1_ := Aside0.mk (blk_below (g := gb859) (o := .cells #[.int .i64 a0_0, .slice A0_1 l0_1.length c0_1] 41 (0, 0)) (kz BK859.out) hb); have n2_ := Aside0.mk (blk_below (g := gb860) (o := .cells #[.int .i64 a1_0, .int .i64 a1_1, .int .i64 a1_2, .int .i64 a1_3] 24 (0, 0)) (kz BK860.out) hb); have n3_ := Aside0.mk (below_step (b2 GE859.out GE860.out HB.out) hb); clear HO865; clear BK859; clear BK860; clear HB; have HO865 := n0_; have BK859 := n1_; have BK860 := n2_; have HB := n3_; clear n0_ n1_ n2_ n3_
      (try clear hb)
      (try clear hb2)
      (try clear hk)
      (try clear hi)
      obtain ⟨Ao78, co78, eo78⟩ := Kd.S_slice HO865.out
      (first | subst eo78 | (injection eo78 with f1_ f2_ f3_; have f4_ := f1_.symm; have f5_ := f3_.symm; clear f1_ f2_ f3_; subst f4_; subst f5_))
      refine hK.out _ _ ⟨(blk_cell BK859.out 0).trans rfl, (blk_cell BK859.out 1).trans rfl, (blk_cell BK860.out 0).trans rfl, (blk_cell BK860.out 1).trans rfl, (blk_cell BK860.out 2).trans rfl, (blk_cell BK860.out 3).trans rfl⟩ (fun hHeld => ?_); clear hK K; refine norm_ (a' := ?_) ?_ ?_; rotate_left
      · show Act.put _ (some 17) _ = _
        simp only [Act.put, List.setIfInBounds_toArray, List.set_cons_zero, List.set_cons_succ, i64_w, i32_w]
        rfl
      refine one_ (i := 4) (N := some 18) #[true, true, true, true, true, false] rfl rfl (by kernel_rfl) (by decide) (fun K hK => ?_); refine goes_ Try.func47 (by kernel_rfl) rfl #[.agg #[.int .i64 t862, .slice Ao78 t863.length co78], .agg #[.int .i64 t866, .int .i64 t867, .int .i64 t868, .int .i64 t869]] (by rfl) rfl rfl dz ?_
      with_reducible refine (spec_Visited.calls k t862 _ _ t863 t866 t867 t868 t869 t870 _ ?side1 ?side2 A12.out).mono ?_
      (case side1 => repeat (first | exact (Kd.S_reads' HO865.out).2.2 | (with_reducible refine Kd.C_alloc ?_ _) | (with_reducible refine Kd.C_drewN ?_ _) | (with_reducible refine Kd.C_drew ?_)))
      (case side2 => exact (Kd.S_reads' HO865.out).2.1)
      rintro e w79 ⟨rfl, hb⟩
      refine ⟨_, rfl, ?_⟩; have n0_ := Aside0.mk (Kd.S_below (by (with_reducible repeat (first | apply Kd.S_alloc | apply Kd.S_drewN | apply Kd.S_drew)); exact HO865.out) hb); have n1_ := Aside0.mk (blk_below (g := gb859) (o := .cells #[.int .i64 a0_0, .slice A0_1 l0_1.length c0_1] 41 (0, 0)) (kz BK859.out) hb); have n2_ := Aside0.mk (blk_below (g := gb860) (o := .cells #[.int .i64 a1_0, .int .i64 a1_1, .int .i64 a1_2, .int .i64 a1_3] 24 (0, 0)) (kz BK860.out) hb); have n3_ := Aside0.mk (below_step (b2 GE859.out GE860.out HB.out) hb); clear HO865; clear BK859; clear BK860; clear HB; have HO865 := n0_; have BK859 := n1_; have BK860 := n2_; have HB := n3_; clear n0_ n1_ n2_ n3_
      (try clear hb)
      (try clear hb2)
      (try clear hk)
      (try clear hi)
      refine hK.out _ _ ⟨(blk_cell BK859.out 0).trans rfl, (blk_cell BK859.out 1).trans rfl, (blk_cell BK860.out 0).trans rfl, (blk_cell BK860.out 1).trans rfl, (blk_cell BK860.out 2).trans rfl, (blk_cell BK860.out 3).trans rfl⟩ (fun hHeld => ?_); clear hK K; refine norm_ (a' := ?_) ?_ ?_; rotate_left
      · show Act.put _ (some 18) _ = _
        simp only [Act.put, List.setIfInBounds_toArray, List.set_cons_zero, List.set_cons_succ, i64_w, i32_w]
        rfl
      refine pure_ (i := 5) (N := some 6) (v := ?_) (a' := ?_) #[true, true, true, true, true, true] rfl rfl (by kernel_rfl) (fun _ _ _ h => h) (Or.inl ⟨by rfl, ?_⟩) ?_ ?_; rotate_left
      · intro w'
        go_simp
        with_reducible rfl
      rotate_left
      · exact pz
      refine done_ (by kernel_rfl) ?_; have hcz80_0 := fz BK859.out 0 (.int .i64 a0_0); have hcz80_1 := fz BK859.out 1 (.slice A0_1 l0_1.length c0_1); have hfz80_0 := blk_frozen BK859.out 0; have hfz80_1 := blk_frozen BK859.out 1
      try go_wp2_with (first | ((with_reducible refine gate_callee (f := 26) rfl ?_); refine goesL_ (some 20) rfl rfl Try.func26 (by kernel_rfl) rfl #[.agg #[.int .i64 a0_0, .slice A0_1 l0_1.length c0_1]] rfl dz ?_; (with_reducible refine (laws_toBook.calls k a0_0 _ _ l0_1 t871 t872 _ ?side1 ?side2 A13.out).mono ?_); (case side1 => exact sz HR0_1.out HB.out); (case side2 => exact HC0_1.out); rintro e w81 ⟨v873, rfl, ho0, hb⟩; refine ⟨_, rfl, ?_⟩; have n0_ := Aside0.mk (Kd.S_elder' (by (with_reducible repeat (first | apply Kd.S_alloc | apply Kd.S_drewN | apply Kd.S_drew)); exact HO865.out) (Kd.S_base ho0) hb); have n1_ := Aside0.mk (Kd.S_lower (Kd.S_new' ho0 (Kd.S_lt (by (with_reducible repeat (first | apply Kd.S_alloc | apply Kd.S_drewN | apply Kd.S_drew)); exact HO865.out))) (below_size (b2 GE859.out GE860.out HB.out))); have n2_ := Aside0.mk (blk_below (g := gb859) (o := .cells #[.int .i64 a0_0, .slice A0_1 l0_1.length c0_1] 41 (0, 0)) (kz BK859.out) hb); have n3_ := Aside0.mk (blk_below (g := gb860) (o := .cells #[.int .i64 a1_0, .int .i64 a1_1, .int .i64 a1_2, .int .i64 a1_3] 24 (0, 0)) (kz BK860.out) hb); have n4_ := Aside0.mk (below_step (b2 GE859.out GE860.out HB.out) hb); clear HO865; clear BK859; clear BK860; clear HB; have HO865 := n0_; have HO874 := n1_; have BK859 := n2_; have BK860 := n3_; have HB := n4_; clear n0_ n1_ n2_ n3_ n4_; (try clear hb); (try clear hb2); (try clear hk); (try clear hi); (try clear ho0)) | ((with_reducible refine gate_dst (N := 7) rfl ?_); refine box_event ?hg (N := 7) ?hd (cs := #[.int .i64 0, .slice none 0 0]) (t := 49) ?hr ?_; (case hd => rfl); (case hg => rfl); (case hr => first | (go_simp; done) | (go_simp; rfl)); intro gb875 hg w82 hbox hb; have n0_ := Aside0.mk (Kd.S_below (by (with_reducible repeat (first | apply Kd.S_alloc | apply Kd.S_drewN | apply Kd.S_drew)); exact HO865.out) hb); have n1_ := Aside0.mk (Kd.S_below (by (with_reducible repeat (first | apply Kd.S_alloc | apply Kd.S_drewN | apply Kd.S_drew)); exact HO874.out) hb); have n2_ := Aside0.mk (blk_below (g := gb859) (o := .cells #[.int .i64 a0_0, .slice A0_1 l0_1.length c0_1] 41 (0, 0)) (kz BK859.out) hb); have n3_ := Aside0.mk (blk_below (g := gb860) (o := .cells #[.int .i64 a1_0, .int .i64 a1_1, .int .i64 a1_2, .int .i64 a1_3] 24 (0, 0)) (kz BK860.out) hb); have n4_ := Aside0.mk (below_step (b2 GE859.out GE860.out HB.out) hb); have n5_ := Aside0.mk (hbox); have n6_ := Aside0.mk ((by rw [hg]; exact (below_size (b2 GE859.out GE860.out HB.out)) : w.heap.size ≤ gb875)); have n7_ := Aside0.mk ((by rw [hg]; exact (below_size (b2 GE859.out GE860.out HB.out)) : w.heap.size ≤ gb875)); have n8_ := Aside0.mk ((by rw [hg]; exact Nat.ne_of_lt (blk_lt (g := gb859) (o := .cells #[.int .i64 a0_0, .slice A0_1 l0_1.length c0_1] 41 (0, 0)) (kz BK859.out)) : gb859 ≠ gb875)); have n9_ := Aside0.mk ((by rw [hg]; exact Nat.ne_of_gt (blk_lt (g := gb859) (o := .cells #[.int .i64 a0_0, .slice A0_1 l0_1.length c0_1] 41 (0, 0)) (kz BK859.out)) : gb875 ≠ gb859)); have n10_ := Aside0.mk ((by rw [hg]; exact Nat.ne_of_lt (blk_lt (g := gb860) (o := .cells #[.int .i64 a1_0, .int .i64 a1_1, .int .i64 a1_2, .int .i64 a1_3] 24 (0, 0)) (kz BK860.out)) : gb860 ≠ gb875)); have n11_ := Aside0.mk ((by rw [hg]; exact Nat.ne_of_gt (blk_lt (g := gb860) (o := .cells #[.int .i64 a1_0, .int .i64 a1_1, .int .i64 a1_2, .int .i64 a1_3] 24 (0, 0)) (kz BK860.out)) : gb875 ≠ gb860)); clear HO865; clear HO874; clear BK859; clear BK860; clear HB; have HO865 := n0_; have HO874 := n1_; have BK859 := n2_; have BK860 := n3_; have HB := n4_; have BK875 := n5_; have GW875 := n6_; have GE875 := n7_; have NB859_875 := n8_; have NB875_859 := n9_; have NB860_875 := n10_; have NB875_860 := n11_; clear n0_ n1_ n2_ n3_ n4_ n5_ n6_ n7_ n8_ n9_ n10_ n11_; clear hb hbox hg; have hnb83 := NB875_859.out; have hnc83 := NB859_875.out; have hnb84 := NB875_860.out; have hnc84 := NB860_875.out; have hcz85_0 := fz BK875.out 0 (.int .i64 0); have hcz85_1 := fz BK875.out 1 (.slice none 0 0); have hfz85_0 := blk_frozen BK875.out 0; have hfz85_1 := blk_frozen BK875.out 1; obtain ⟨Ao86, co86, eo86⟩ := Kd.S_slice HO874.out; subst eo86))
      have n0_ : Aside0 (Kd.S k90 90 ((w82.setCell ⟨gb875, 0, none⟩ (.int .i64 t871)).setCell ⟨gb875, 1, none⟩ (.slice Ao86 t872.length co86)) w.heap.size (fun k_ => some k_ ≠ (.slice Ao86 t872.length co86 : Value).ownBlock) (.slice Ao78 t863.length co78) t863) := ⟨by (with_reducible repeat (first | apply Kd.S_alloc | apply Kd.S_drewN | apply Kd.S_drew)); exact Kd.S_mono (Kd.S_far (p := ⟨gb875, 1, none⟩) (Kd.S_far (p := ⟨gb875, 0, none⟩) (Kd.S_types HO865.out BK875.out (by decide)) (fun _ hk => hk.2) (.int .i64 t871)) (fun _ hk => hk.2) (.slice Ao86 t872.length co86)) (fun _ hk => hk.1.2)⟩; have n1_ : Aside0 (Kd.S k90 90 ((w82.setCell ⟨gb875, 0, none⟩ (.int .i64 t871)).setCell ⟨gb875, 1, none⟩ (.slice Ao86 t872.length co86)) w.heap.size (fun k_ => some k_ ≠ (.slice Ao78 t863.length co78 : Value).ownBlock) (.slice Ao86 t872.length co86) t872) := ⟨by (with_reducible repeat (first | apply Kd.S_alloc | apply Kd.S_drewN | apply Kd.S_drew)); exact Kd.S_mono (Kd.S_far (p := ⟨gb875, 1, none⟩) (Kd.S_far (p := ⟨gb875, 0, none⟩) (Kd.S_types HO874.out BK875.out (by decide)) (fun _ hk => hk.2) (.int .i64 t871)) (fun _ hk => hk.2) (.slice Ao86 t872.length co86)) (fun _ hk => hk.1.2)⟩; have n2_ : Aside0 (((w82.setCell ⟨gb875, 0, none⟩ (.int .i64 t871)).setCell ⟨gb875, 1, none⟩ (.slice Ao86 t872.length co86)).heap[gb859]? = some (.cells #[.int .i64 a0_0, .slice A0_1 l0_1.length c0_1] 41 (0, 0))) := ⟨by (with_reducible repeat (first | refine blk_drewN ?_ _ | refine blk_drew ?_ | refine blk_alloc ?_ _)); refine blk_far ?_ NB859_875.out _; (with_reducible repeat (first | refine blk_drewN ?_ _ | refine blk_drew ?_ | refine blk_alloc ?_ _)); refine blk_far ?_ NB859_875.out _; (with_reducible repeat (first | refine blk_drewN ?_ _ | refine blk_drew ?_ | refine blk_alloc ?_ _)); exact BK859.out⟩; have n3_ : Aside0 (((w82.setCell ⟨gb875, 0, none⟩ (.int .i64 t871)).setCell ⟨gb875, 1, none⟩ (.slice Ao86 t872.length co86)).heap[gb860]? = some (.cells #[.int .i64 a1_0, .int .i64 a1_1, .int .i64 a1_2, .int .i64 a1_3] 24 (0, 0))) := ⟨by (with_reducible repeat (first | refine blk_drewN ?_ _ | refine blk_drew ?_ | refine blk_alloc ?_ _)); refine blk_far ?_ NB860_875.out _; (with_reducible repeat (first | refine blk_drewN ?_ _ | refine blk_drew ?_ | refine blk_alloc ?_ _)); refine blk_far ?_ NB860_875.out _; (with_reducible repeat (first | refine blk_drewN ?_ _ | refine blk_drew ?_ | refine blk_alloc ?_ _)); exact BK860.out⟩; have n4_ : Aside0 (((w82.setCell ⟨gb875, 0, none⟩ (.int .i64 t871)).setCell ⟨gb875, 1, none⟩ (.slice Ao86 t872.length co86)).heap[gb875]? = some (.cells #[.int .i64 t871, .slice Ao86 t872.length co86] 49 (0, 0))) := ⟨by (with_reducible repeat (first | refine blk_drewN ?_ _ | refine blk_drew ?_ | refine blk_alloc ?_ _)); refine blk_put (cs := #[.int .i64 t871, .slice none 0 0]) ?_ 1 _ rfl; (with_reducible repeat (first | refine blk_drewN ?_ _ | refine blk_drew ?_ | refine blk_alloc ?_ _)); refine blk_put (cs := #[.int .i64 0, .slice none 0 0]) ?_ 0 _ rfl; (with_reducible repeat (first | refine blk_drewN ?_ _ | refine blk_drew ?_ | refine blk_alloc ?_ _)); exact BK875.out⟩; have n5_ : Aside0 (Below w.heap.size w ((w82.setCell ⟨gb875, 0, none⟩ (.int .i64 t871)).setCell ⟨gb875, 1, none⟩ (.slice Ao86 t872.length co86))) := ⟨by repeat (first | (with_reducible first | exact HB.out | apply below_alloc | apply pw_below_drewN | apply below_drew1 | refine below_set ?_ GE859.out | refine below_set ?_ GE860.out | refine below_set ?_ GE875.out) | exact HB.out)⟩
      (try clear HO865)
      (try clear HO874)
      (try clear BK859)
      (try clear BK860)
      (try clear BK875)
      (try clear HB)
      generalize ((w82.setCell ⟨gb875, 0, none⟩ (.int .i64 t871)).setCell ⟨gb875, 1, none⟩ (.slice Ao86 t872.length co86)) = w87 at n0_ n1_ n2_ n3_ n4_ n5_ ⊢
      have HO865 := n0_; have HO874 := n1_; have BK859 := n2_; have BK860 := n3_; have BK875 := n4_; have HB := n5_; clear n0_ n1_ n2_ n3_ n4_ n5_; have n0_ := Aside0.mk (Kd.S_drew HO865.out); have n1_ := Aside0.mk (Kd.S_drew HO874.out); have n2_ := Aside0.mk (blk_drew BK859.out); have n3_ := Aside0.mk (blk_drew BK860.out); have n4_ := Aside0.mk (blk_drew BK875.out); have n5_ := Aside0.mk (below_drew1 HB.out); clear HO865; clear HO874; clear BK859; clear BK860; clear BK875; clear HB; have HO865 := n0_; have HO874 := n1_; have BK859 := n2_; have BK860 := n3_; have BK875 := n4_; have HB := n5_; clear n0_ n1_ n2_ n3_ n4_ n5_; refine start_ (n := 5) (S := fun w' => w'.cell? ⟨gb875, 0, none⟩ = some (.int .i64 t871) ∧ w'.cell? ⟨gb875, 1, none⟩ = some (.slice Ao86 t872.length co86) ∧ w'.cell? ⟨gb860, 0, none⟩ = some (.int .i64 a1_0) ∧ w'.cell? ⟨gb860, 1, none⟩ = some (.int .i64 a1_1) ∧ w'.cell? ⟨gb860, 2, none⟩ = some (.int .i64 a1_2) ∧ w'.cell? ⟨gb860, 3, none⟩ = some (.int .i64 a1_3)) (ds := []) #[false, false, false, false, false] (by kernel_rfl) rfl rfl ⟨(blk_cell BK875.out 0).trans rfl, (blk_cell BK875.out 1).trans rfl, (blk_cell BK860.out 0).trans rfl, (blk_cell BK860.out 1).trans rfl, (blk_cell BK860.out 2).trans rfl, (blk_cell BK860.out 3).trans rfl⟩ (fun hHeld => ?_)
      generalize w87.drew = w88 at HO865 HO874 BK859 BK860 BK875 HB hHeld ⊢
      refine take_ (i := 0) (N := some 21) (v := ?_) (a' := ?_) #[true, false, false, false, false] rfl rfl (by kernel_rfl) (fun _ _ _ h => h) (Or.inl ⟨by rfl, ?_⟩) hHeld ?_ ?_; rotate_left
      · rintro w' ⟨s0, s1, s2, s3, s4, s5⟩
        go_simp
        with_reducible rfl
      rotate_left
      · exact pz
      refine take_ (i := 1) (N := some 22) (v := ?_) (a' := ?_) #[true, true, false, false, false] rfl rfl (by kernel_rfl) (fun _ _ _ h => h) (Or.inl ⟨by rfl, ?_⟩) hHeld ?_ ?_; rotate_left
      · rintro w' ⟨s0, s1, s2, s3, s4, s5⟩
        go_simp
        with_reducible rfl
      rotate_left
      · exact pz
      refine one_ (i := 2) (N := some 23) #[true, true, true, false, false] rfl rfl (by kernel_rfl) (by decide) (fun K hK => ?_); refine goes_ Try.func48 (by kernel_rfl) rfl #[.agg #[.int .i64 a1_0, .int .i64 a1_1, .int .i64 a1_2, .int .i64 a1_3]] (by rfl) rfl rfl dz ?_
      with_reducible refine (laws_toBox.calls a1_0 a1_1 a1_2 a1_3 t876 t877 t878 t879 _ A14.out).mono ?_
      rintro e w89 ⟨rfl, hb⟩
      refine ⟨_, rfl, ?_⟩; have n0_ := Aside0.mk (Kd.S_below (by (with_reducible repeat (first | apply Kd.S_alloc | apply Kd.S_drewN | apply Kd.S_drew)); exact HO865.out) hb); have n1_ := Aside0.mk (Kd.S_below (by (with_reducible repeat (first | apply Kd.S_alloc | apply Kd.S_drewN | apply Kd.S_drew)); exact HO874.out) hb); have n2_ := Aside0.mk (blk_below (g := gb859) (o := .cells #[.int .i64 a0_0, .slice A0_1 l0_1.length c0_1] 41 (0, 0)) (kz BK859.out) hb); have n3_ := Aside0.mk (blk_below (g := gb860) (o := .cells #[.int .i64 a1_0, .int .i64 a1_1, .int .i64 a1_2, .int .i64 a1_3] 24 (0, 0)) (kz BK860.out) hb); have n4_ := Aside0.mk (blk_below (g := gb875) (o := .cells #[.int .i64 t871, .slice Ao86 t872.length co86] 49 (0, 0)) (kz BK875.out) hb); have n5_ := Aside0.mk (below_step (by repeat (first | (with_reducible first | exact HB.out | apply below_alloc | apply pw_below_drewN | apply below_drew1 | refine below_set ?_ GE859.out | refine below_set ?_ GE860.out | refine below_set ?_ GE875.out) | exact HB.out)) hb); clear HO865; clear HO874; clear BK859; clear BK860; clear BK875; clear HB; have HO865 := n0_; have HO874 := n1_; have BK859 := n2_; have BK860 := n3_; have BK875 := n4_; have HB := n5_; clear n0_ n1_ n2_ n3_ n4_ n5_
      (try clear hb)
      (try clear hb2)
      (try clear hk)
      (try clear hi)
      refine hK.out _ _ ⟨(blk_cell BK875.out 0).trans rfl, (blk_cell BK875.out 1).trans rfl, (blk_cell BK860.out 0).trans rfl, (blk_cell BK860.out 1).trans rfl, (blk_cell BK860.out 2).trans rfl, (blk_cell BK860.out 3).trans rfl⟩ (fun hHeld => ?_); clear hK K; refine norm_ (a' := ?_) ?_ ?_; rotate_left
      · show Act.put _ (some 23) _ = _
        simp only [Act.put, List.setIfInBounds_toArray, List.set_cons_zero, List.set_cons_succ, i64_w, i32_w]
        rfl
      refine one_ (i := 3) (N := some 24) #[true, true, true, true, false] rfl rfl (by kernel_rfl) (by decide) (fun K hK => ?_); refine goes_ Try.func49 (by kernel_rfl) rfl #[.agg #[.int .i64 t871, .slice Ao86 t872.length co86], .agg #[.int .i64 t876, .int .i64 t877, .int .i64 t878, .int .i64 t879]] (by rfl) rfl rfl dz ?_
      with_reducible refine (impl_Visited.calls k t871 _ _ t872 t876 t877 t878 t879 t880 _ ?side1 ?side2 A15.out).mono ?_
      (case side1 => repeat (first | exact (Kd.S_reads' HO874.out).2.2 | (with_reducible refine Kd.C_alloc ?_ _) | (with_reducible refine Kd.C_drewN ?_ _) | (with_reducible refine Kd.C_drew ?_)))
      (case side2 => exact (Kd.S_reads' HO874.out).2.1)
      rintro e w90 ⟨rfl, hb⟩
      refine ⟨_, rfl, ?_⟩; have n0_ := Aside0.mk (Kd.S_below (by (with_reducible repeat (first | apply Kd.S_alloc | apply Kd.S_drewN | apply Kd.S_drew)); exact HO865.out) hb); have n1_ := Aside0.mk (Kd.S_below (by (with_reducible repeat (first | apply Kd.S_alloc | apply Kd.S_drewN | apply Kd.S_drew)); exact HO874.out) hb); have n2_ := Aside0.mk (blk_below (g := gb859) (o := .cells #[.int .i64 a0_0, .slice A0_1 l0_1.length c0_1] 41 (0, 0)) (kz BK859.out) hb); have n3_ := Aside0.mk (blk_below (g := gb860) (o := .cells #[.int .i64 a1_0, .int .i64 a1_1, .int .i64 a1_2, .int .i64 a1_3] 24 (0, 0)) (kz BK860.out) hb); have n4_ := Aside0.mk (blk_below (g := gb875) (o := .cells #[.int .i64 t871, .slice Ao86 t872.length co86] 49 (0, 0)) (kz BK875.out) hb); have n5_ := Aside0.mk (below_step (by repeat (first | (with_reducible first | exact HB.out | apply below_alloc | apply pw_below_drewN | apply below_drew1 | refine below_set ?_ GE859.out | refine below_set ?_ GE860.out | refine below_set ?_ GE875.out) | exact HB.out)) hb); clear HO865; clear HO874; clear BK859; clear BK860; clear BK875; clear HB; have HO865 := n0_; have HO874 := n1_; have BK859 := n2_; have BK860 := n3_; have BK875 := n4_; have HB := n5_; clear n0_ n1_ n2_ n3_ n4_ n5_
      (try clear hb)
      (try clear hb2)
      (try clear hk)
      (try clear hi)
      refine hK.out _ _ ⟨(blk_cell BK875.out 0).trans rfl, (blk_cell BK875.out 1).trans rfl, (blk_cell BK860.out 0).trans rfl, (blk_cell BK860.out 1).trans rfl, (blk_cell BK860.out 2).trans rfl, (blk_cell BK860.out 3).trans rfl⟩ (fun hHeld => ?_); clear hK K; refine norm_ (a' := ?_) ?_ ?_; rotate_left
      · show Act.put _ (some 24) _ = _
        simp only [Act.put, List.setIfInBounds_toArray, List.set_cons_zero, List.set_cons_succ, i64_w, i32_w]
        rfl
      refine pure_ (i := 4) (N := some 8) (v := ?_) (a' := ?_) #[true, true, true, true, true] rfl rfl (by kernel_rfl) (fun _ _ _ h => h) (Or.inl ⟨by rfl, ?_⟩) ?_ ?_; rotate_left
      · intro w'
        go_simp
        with_reducible rfl
      rotate_left
      · exact pz
      refine done_ (by kernel_rfl) ?_
      try go_wp2
      go_ret; exact ⟨ez, by repeat (first | (with_reducible first | exact HB.out | apply below_alloc | apply pw_below_drewN | apply below_drew1 | refine below_set ?_ GE859.out | refine below_set ?_ GE860.out | refine below_set ?_ GE875.out) | exact HB.out)⟩

end Go.Proofs.Ytngjaajcdbodeaa.All

/- Opening of arguments: what reads as data of a type is of its kind. No condition. -/
namespace Go.Proofs.Ytngjaajcdbodeaa.Op
open Go.Proofs.YtngjaajcdbodeaaW.PrintWords
open Go.Deep
set_option linter.unusedVariables false

/-- What reads as data of type t is of the kind d, and good. -/
def Opens {α : Type} (P : Program) (t : TypeId) (d : Kd α) (good : α → Prop) : Prop :=
  ∀ {H : Type} {enc : TypeId × Value → H} {w : World} {base : Nat} {spare : Nat → Bool} {held : Bool} {fuel : Nat} {cs : List Value} {x : DataW H × List MemPlace},
    DataW.trod enc P w base spare held fuel t cs = some x → ∃ y, d.K w y cs ∧ good y

def goodInt (n : Int) : Prop := -9223372036854775808 ≤ n ∧ n ≤ 9223372036854775807

theorem goodInt_of_wf {n : Int} (h : (Lit.int .i64 n).wf = true) : goodInt n := by
  simp [Lit.wf, IntKind.min, IntKind.max, IntKind.signed, IntKind.bits] at h
  unfold goodInt
  omega

theorem opens_int {P : Program} {t : TypeId} (ht : P.underlying t = some (.int .i64)) : Opens P t (Kd.int .i64) goodInt := by
  intro H enc w base spare held fuel cs x h
  obtain ⟨n, rfl, _, hw⟩ := DataW.trod_int ht h; exact ⟨n, rfl, goodInt_of_wf hw⟩

theorem opens_bool {P : Program} {t : TypeId} (ht : P.underlying t = some .bool) : Opens P t Kd.bool (fun _ => True) := by
  intro H enc w base spare held fuel cs x h
  obtain ⟨n, rfl, _⟩ := DataW.trod_bool ht h; exact ⟨n, rfl, trivial⟩

theorem opens_slice {α : Type} {P : Program} {t e : TypeId} {d : Kd α} {good : α → Prop} (ht : P.underlying t = some (.slice e)) (hC : P.cellsOf e = d.sz) (he : Opens P e d good) :
    Opens P t (Kd.slice e d) (fun xs => xs.length ≤ 9223372036854775807 ∧ ∀ y ∈ xs, good y) := by
  intro H enc w base spare held fuel cs x h
  rcases open_slice ht h with ⟨rfl, _⟩ | ⟨a, len, cap, m, n, D, Pl, rfl, hb, hl, hm, hmm, rfl, hx⟩
  · exact ⟨[], ⟨none, 0, rfl, Nat.le_refl _, ⟨rfl, by simp, fun h => absurd h (Nat.lt_irrefl 0)⟩⟩, by simp, by simp⟩
  · have hlm : len ≤ m := by rw [hmm]; split <;> omega
    have hex : ∀ i : Nat, ∃ y : α ⊕ Unit, i < len → ∃ z cs', y = .inl z ∧ d.K w z cs' ∧ good z ∧ w.cells? base (a.add (i * d.sz)) d.sz = some cs' := by
      intro i
      by_cases hi : i < len
      · obtain ⟨cs', h1, h2⟩ := hx i (by omega)
        obtain ⟨z, hz, hg⟩ := he h2; exact ⟨.inl z, fun _ => ⟨z, cs', rfl, hz, hg, by rw [← hC]; exact h1⟩⟩
      · exact ⟨.inr (), fun h => absurd h hi⟩
    obtain ⟨f, hf⟩ := Classical.axiomOfChoice hex
    have hlist : ∀ k, k ≤ len → ∃ ys : List α, ys.length = k ∧ ∀ i y, ys[i]? = some y → f i = .inl y := by
      intro k
      induction k with
      | zero => exact fun _ => ⟨[], rfl, fun i y h => by simp at h⟩
      | succ k ih =>
        intro hk
        obtain ⟨ys, hys, hall⟩ := ih (by omega); obtain ⟨z, cs', hz, _⟩ := hf k (by omega); refine ⟨ys ++ [z], by simp [hys], fun i y hy => ?_⟩
        rcases Nat.lt_or_ge i ys.length with hi | hi
        · rw [List.getElem?_append_left hi] at hy
          exact hall i y hy
        · have hik : i = k := by
            have := (List.getElem?_eq_some_iff.1 hy).1
            simp at this
            omega
          subst hik; rw [List.getElem?_append_right (by omega)] at hy
          simp [hys] at hy
          rw [hz, hy]
    obtain ⟨ys, hys, hall⟩ := hlist len (Nat.le_refl _)
    have hget : ∀ i y, ys[i]? = some y → ∃ cs', d.K w y cs' ∧ good y ∧ w.cells? base (a.add (i * d.sz)) d.sz = some cs' := by
      intro i y hy
      have hi : i < len := by rw [← hys]; exact (List.getElem?_eq_some_iff.1 hy).1
      obtain ⟨z, cs', hz, hK, hg, hc⟩ := hf i hi; have := hall i y hy; rw [hz] at this
      cases this
      exact ⟨cs', hK, hg, hc⟩
    subst hys; refine ⟨ys, ⟨some a, cap, rfl, hl, ⟨rfl, by unfold maxLen at hm; omega, fun _ => ⟨a, rfl, fun j p hp => ?_⟩⟩⟩, by unfold maxLen at hm; omega, fun y hy => ?_⟩
    · obtain ⟨cs', hK, _, hc⟩ := hget j p hp
      obtain ⟨_, hcl, hat⟩ := World.cells?_some hc; refine ⟨cs', hcl, hK, fun i u hu => ?_⟩
      have hi : i < d.sz := by rw [← hcl]; exact (List.getElem?_eq_some_iff.1 hu).1
      have := hat i hi; rw [← Go.Deep.add_add, this, hu]
    · obtain ⟨i, hi⟩ := List.getElem?_of_mem hy
      obtain ⟨_, _, hg, _⟩ := hget i y hi; exact hg

theorem opens_pair2 {α β γ : Type} {P : Program} {t : TypeId} {f0 f1 : Field} {d0 : Kd α} {d1 : Kd β} {g0 : α → Prop} {g1 : β → Prop} (f : γ → α × β) (mk : α → β → γ) (hmk : ∀ a b, f (mk a b) = (a, b))
    (ht : P.underlying t = some (.struct #[f0, f1])) (hc : P.cellsOf t = d0.sz + d1.sz) (ho0 : f0.offset = 0) (ho1 : f1.offset = d0.sz) (hc0 : P.cellsOf f0.type = d0.sz) (hc1 : P.cellsOf f1.type = d1.sz)
    (h0 : Opens P f0.type d0 g0) (h1 : Opens P f1.type d1 g1) : Opens P t (Kd.iso (Kd.pair d0 d1) f) (fun y => g0 (f y).1 ∧ g1 (f y).2) := by
  intro H enc w base spare held fuel cs x h
  obtain ⟨y0, y1, n, _, hl, ht0, ht1⟩ := ChangeShapes.trod_struct2 ht h; obtain ⟨a, ha, ga⟩ := h0 ht0; obtain ⟨b, hb, gb⟩ := h1 ht1; rw [ho0, hc0] at ha; rw [ho1, hc1] at hb; refine ⟨mk a b, ⟨_, _, ?_, by rw [hmk]; exact ha, by rw [hmk]; exact hb⟩, show g0 (f (mk a b)).1 ∧ g1 (f (mk a b)).2 by rw [hmk]; exact ⟨ga, gb⟩⟩; rw [List.drop_zero, List.take_of_length_le (l := List.drop d0.sz cs) (by rw [List.length_drop]; omega), List.take_append_drop]

def goodByte (n : Int) : Prop := 0 ≤ n ∧ n ≤ 255

theorem opens_byte {P : Program} {t : TypeId} (ht : P.underlying t = some (.int .u8)) : Opens P t (Kd.int .u8) goodByte := by
  intro H enc w base spare held fuel cs x h
  obtain ⟨n, rfl, _, hw⟩ := DataW.trod_int ht h; refine ⟨n, rfl, ?_⟩
  simp [Lit.wf, IntKind.min, IntKind.max, IntKind.signed, IntKind.bits] at hw
  unfold goodByte
  omega

theorem opens_int4 {γ : Type} {P : Program} {t : TypeId} {f0 f1 f2 f3 : Field} {g0 g1 g2 g3 : Int → Prop} (f : γ → Int × Int × Int × Int) (mk : Int → Int → Int → Int → γ) (hmk : ∀ a b c d, f (mk a b c d) = (a, b, c, d))
    (ht : P.underlying t = some (.struct #[f0, f1, f2, f3])) (hc : P.cellsOf t = 4) (ho0 : f0.offset = 0) (ho1 : f1.offset = 1) (ho2 : f2.offset = 2) (ho3 : f3.offset = 3)
    (hc0 : P.cellsOf f0.type = 1) (hc1 : P.cellsOf f1.type = 1) (hc2 : P.cellsOf f2.type = 1) (hc3 : P.cellsOf f3.type = 1)
    (h0 : Opens P f0.type (Kd.int .i64) g0) (h1 : Opens P f1.type (Kd.int .i64) g1) (h2 : Opens P f2.type (Kd.int .i64) g2) (h3 : Opens P f3.type (Kd.int .i64) g3) :
    Opens P t (Kd.iso (Kd.pair (Kd.int .i64) (Kd.pair (Kd.int .i64) (Kd.pair (Kd.int .i64) (Kd.int .i64)))) f) (fun y => g0 (f y).1 ∧ g1 (f y).2.1 ∧ g2 (f y).2.2.1 ∧ g3 (f y).2.2.2) := by
  intro H enc w base spare held fuel cs x h
  obtain ⟨xs, n, _, _, hl, hlen, hf⟩ := DataW.trod_struct ht h
  have hn : ∀ i, i < 4 → ∃ y, xs[i]? = some y := fun i hi => ⟨_, List.getElem?_eq_getElem (by rw [hlen]; exact hi)⟩
  obtain ⟨y0, e0⟩ := hn 0 (by omega); obtain ⟨y1, e1⟩ := hn 1 (by omega); obtain ⟨y2, e2⟩ := hn 2 (by omega); obtain ⟨y3, e3⟩ := hn 3 (by omega); obtain ⟨a, ha, ga⟩ := h0 ((hf 0 f0 rfl).trans e0); obtain ⟨b, hb, gb⟩ := h1 ((hf 1 f1 rfl).trans e1); obtain ⟨c, hcc, gc⟩ := h2 ((hf 2 f2 rfl).trans e2); obtain ⟨d, hd, gd⟩ := h3 ((hf 3 f3 rfl).trans e3); rw [ho0, hc0] at ha; rw [ho1, hc1] at hb; rw [ho2, hc2] at hcc; rw [ho3, hc3] at hd; rw [hc] at hl
  match cs, hl with
  | [v0, v1, v2, v3], _ =>
    have ea : v0 = .int .i64 a := by simpa [Kd.int, Kd.scalar] using ha
    have eb : v1 = .int .i64 b := by simpa [Kd.int, Kd.scalar] using hb
    have ec : v2 = .int .i64 c := by simpa [Kd.int, Kd.scalar] using hcc
    have ed : v3 = .int .i64 d := by simpa [Kd.int, Kd.scalar] using hd
    subst ea eb ec ed; refine ⟨mk a b c d, ?_, ?_⟩
    · show (Kd.pair (Kd.int .i64) (Kd.pair (Kd.int .i64) (Kd.pair (Kd.int .i64) (Kd.int .i64)))).K w (f (mk a b c d)) _
      rw [hmk]; exact ⟨[_], [_, _, _], rfl, rfl, ⟨[_], [_, _], rfl, rfl, ⟨[_], [_], rfl, rfl, rfl⟩⟩⟩
    · show g0 (f (mk a b c d)).1 ∧ g1 (f (mk a b c d)).2.1 ∧ g2 (f (mk a b c d)).2.2.1 ∧ g3 (f (mk a b c d)).2.2.2
      rw [hmk]; exact ⟨ga, gb, gc, gd⟩

end Go.Proofs.Ytngjaajcdbodeaa.Op

/- What reads as data of the laws' argument types is of their kinds. -/
namespace Go.Proofs.Ytngjaajcdbodeaa.Op
open Go.Proofs.Ytngjaajcdbodeaa.All Go.Proofs.YtngjaajcdbodeaaW.PrintWords
def good3 (n : Int) : Prop := goodInt n
theorem op3 : Opens Try.prog 3 (Kd.int .i64) good3 := opens_int Try.underlying3
def good4 (_ : Bool) : Prop := True
theorem op4 : Opens Try.prog 4 Kd.bool good4 := opens_bool Try.underlying4
def good24 (x : S24) : Prop := good3 x.f0 ∧ good3 x.f1 ∧ good3 x.f2 ∧ good3 x.f3
theorem op24 : Opens Try.prog 24 k24 good24 := opens_int4 (fun x : S24 => (x.f0, x.f1, x.f2, x.f3)) (fun a b c d => ⟨a, b, c, d⟩) (fun _ _ _ _ => rfl) Try.underlying24 (by kernel_rfl) rfl rfl rfl rfl (by kernel_rfl) (by kernel_rfl) (by kernel_rfl) (by kernel_rfl) op3 op3 op3 op3
def good122 (x : S122) : Prop := good3 x.f0 ∧ good24 x.f1
theorem op122 : Opens Try.prog 122 k122 good122 := opens_pair2 (d0 := (Kd.int .i64)) (d1 := k24) (fun x : S122 => (x.f0, x.f1)) (fun a b => ⟨a, b⟩) (fun _ _ => rfl) Try.underlying122 (by kernel_rfl) rfl rfl (by kernel_rfl) (by kernel_rfl) op3 op24
def good42 (xs : List (S122)) : Prop := xs.length ≤ 9223372036854775807 ∧ ∀ y ∈ xs, good122 y
theorem op42 : Opens Try.prog 42 (Kd.slice 122 k122) good42 := opens_slice Try.underlying42 (by kernel_rfl) op122
def good44 (x : S44) : Prop := good4 x.f0 ∧ good42 x.f1
theorem op44 : Opens Try.prog 44 k44 good44 := opens_pair2 (d0 := Kd.bool) (d1 := (Kd.slice 122 k122)) (fun x : S44 => (x.f0, x.f1)) (fun a b => ⟨a, b⟩) (fun _ _ => rfl) Try.underlying44 (by kernel_rfl) rfl rfl (by kernel_rfl) (by kernel_rfl) op4 op42
def good118 (x : S118) : Prop := good4 x.f0 ∧ good44 x.f1
theorem op118 : Opens Try.prog 118 k118 good118 := opens_pair2 (d0 := Kd.bool) (d1 := k44) (fun x : S118 => (x.f0, x.f1)) (fun a b => ⟨a, b⟩) (fun _ _ => rfl) Try.underlying118 (by kernel_rfl) rfl rfl (by kernel_rfl) (by kernel_rfl) op4 op44
def good39 (xs : List (S118)) : Prop := xs.length ≤ 9223372036854775807 ∧ ∀ y ∈ xs, good118 y
theorem op39 : Opens Try.prog 39 (Kd.slice 118 k118) good39 := opens_slice Try.underlying39 (by kernel_rfl) op118
def good41 (x : (Int × List (S118))) : Prop := good3 x.1 ∧ good39 x.2
theorem op41 : Opens Try.prog 41 (Kd.iso (Kd.pair (Kd.int .i64) (Kd.slice 118 k118)) (fun x : (Int × List (S118)) => x)) good41 := opens_pair2 (d0 := (Kd.int .i64)) (d1 := (Kd.slice 118 k118)) (fun x : (Int × List (S118)) => x) (fun a b => (a, b)) (fun _ _ => rfl) Try.underlying41 (by kernel_rfl) rfl rfl (by kernel_rfl) (by kernel_rfl) op3 op39
end Go.Proofs.Ytngjaajcdbodeaa.Op

/- Plain laws of the printed functions over lists of entries: what is made of a list. No condition. -/
namespace Go.Proofs.Ytngjaajcdbodeaa.Pure
open Go.RowKit Go.Proofs.Ytngjaajcdbodeaa.All Go.Proofs.YtngjaajcdbodeaaW.PrintWords Go.Proofs.YtngjaajcdbodeaaW.PrintLast Go.Proofs.Ytngjaajcdbodeaa.Sq
set_option linter.unusedVariables false

def big : Nat := 1152921504606846976
theorem wrap_small {a : Int} (h0 : -9223372036854775808 ≤ a) (h1 : a ≤ 9223372036854775807) : wrap64 a = a := by
  unfold wrap64
  omega
theorem wrap_succ {i n : Nat} (h : i < n) (hn : n ≤ big) : wrap64 ((i : Int) + 1) = ((i + 1 : Nat) : Int) := by
  unfold big at hn; rw [wrap_small (by omega) (by omega)]
  omega
/-- A loop, told from its end. -/
theorem down {P : Nat → Prop} : ∀ (n : Nat), (∀ i, i < n → P (i + 1) → P i) → P n → P 0
  | 0, _, h => h
  | n + 1, hs, h => down n (fun i hi => hs i (by omega)) (hs n (by omega) h)
/-- The same from i on. -/
theorem downFrom {P : Nat → Prop} (i : Nat) : ∀ (d : Nat), (∀ j, i ≤ j → j < i + d → P (j + 1) → P j) → P (i + d) → P i
  | 0, _, h => h
  | d + 1, hs, h => downFrom i d (fun j h0 hj => hs j h0 (by omega)) (hs (i + d) (by omega) (by omega) h)

theorem rdE_at (l : List En) (i : Nat) : rd_T103 l (i : Int) = l.getD i z103 := rfl
theorem rdB_at (l : List Bx) (i : Nat) : rd_T32 l (i : Int) = l.getD i z32 := rfl

/-- A loop that fills a row of the same length. -/
theorem fill_loop {α β : Type} {L : Nat → List α → List β → Int → Option (List β)} {f : α → β} {F : Nat → α → Option β} (d : α)
    (hstep : ∀ k (xs : List α) (acc : List β) (i : Nat), i < xs.length → acc.length = xs.length → L (k + 1) xs acc i = (F k (xs.getD i d)).bind fun y => L k xs (acc.set i y) (wrap64 ((i : Int) + 1)))
    (hstop : ∀ k (xs : List α) (acc : List β), L (k + 1) xs acc xs.length = some acc)
    (xs : List α) (hl : xs.length ≤ big) (hF : ∀ x ∈ xs, Evn (fun k => F k x) (f x)) (z : β) : Evn (fun k => L k xs (List.replicate xs.length z) 0) (xs.map f) := by
  have key : Evn (fun k => L k xs ((xs.take 0).map f ++ List.replicate (xs.length - 0) z) ((0 : Nat) : Int)) (xs.map f) := by
    refine down (P := fun i => Evn (fun k => L k xs ((xs.take i).map f ++ List.replicate (xs.length - i) z) (i : Int)) (xs.map f)) xs.length (fun i hi h => ?_) ?_
    · refine Evn.step (fun k => hstep k xs _ i hi (by simp; omega)) ?_
      refine Evn.bind (hF _ ?_) ?_
      · rw [List.getD_eq_getElem?_getD, List.getElem?_eq_getElem hi]
        exact List.getElem_mem hi
      · rw [wrap_succ hi hl]
        refine Evn.same h (fun k => ?_)
        congr 1
        have hi' : (List.map f (List.take i xs)).length = i := by simp; omega
        rw [List.set_append, if_neg (by omega), hi', Nat.sub_self]; obtain ⟨m, hm⟩ : ∃ m, xs.length - i = m + 1 := ⟨xs.length - i - 1, by omega⟩; rw [hm, show xs.length - (i + 1) = m from by omega, List.replicate_succ, List.set_cons_zero, List.take_succ_eq_append_getElem hi, List.map_append, List.append_assoc, List.getD_eq_getElem?_getD, List.getElem?_eq_getElem hi]
        rfl
    · refine Evn.step (fun k => ?_) (Evn.ret _)
      rw [hstop]
      simp
  simpa using key

def toB (b : LBx) : Bx := ⟨b.f0, b.f1, b.f2, b.f3⟩
def toE (e : LEn) : En := ⟨e.f0, toB e.f1⟩
theorem toEntryS_f (l : List LEn) (hl : l.length ≤ 1048576) : Evn (fun k => laws_toEntryS.f k l) (l.map toE) := by
  have h := fill_loop (L := laws_toEntryS.l0) (f := toE) (F := fun _ x => some (toE x)) z122 (fun k xs acc i hi ha => by
    simp only [laws_toEntryS.l0]
    rw [if_pos (by omega), if_pos (by omega)]
    simp only [laws_toEntry.f, laws_toBox.f, Option.bind_some]
    rw [if_pos (by omega)]
    rfl) (fun k xs acc => by simp only [laws_toEntryS.l0]; rw [if_neg (by omega)]) l (by unfold big; omega) (fun x _ => Evn.ret _) z103
  unfold laws_toEntryS.f; refine Evn.pos (by omega) (Evn.pos (by omega) ?_); exact h

/-- A loop that compares a row with itself. -/
theorem same_loop {α : Type} {L : Nat → List α → List α → Int → Option Bool}
    (hstep : ∀ k (xs : List α) (i : Nat), i < xs.length → L (k + 1) xs xs i = L k xs xs (wrap64 ((i : Int) + 1)))
    (hstop : ∀ k (xs : List α), L (k + 1) xs xs xs.length = some true) (xs : List α) (hl : xs.length ≤ big) : Evn (fun k => L k xs xs 0) true := by
  refine down (P := fun i => Evn (fun k => L k xs xs (i : Int)) true) xs.length (fun i hi h => ?_) (Evn.step (fun k => hstop k xs) (Evn.ret _)); refine Evn.step (fun k => hstep k xs i hi) ?_; rw [wrap_succ hi hl]; exact h
theorem eqBox_same (a b c d : Int) : laws_eqBox.f a b c d a b c d = some true := by simp [laws_eqBox.f]
theorem eqEntryS_same (l : List En) (hl : l.length ≤ big) : Evn (fun k => laws_eqEntryS.f k l l) true := by
  unfold laws_eqEntryS.f; refine Evn.pos rfl ?_; refine same_loop (L := laws_eqEntryS.l0) (fun k xs i hi => ?_) (fun k xs => ?_) l hl
  · simp only [laws_eqEntryS.l0]
    rw [if_pos (by omega), if_pos (by omega), if_pos (by omega)]
    simp only [laws_eqEntry.f, eqBox_same, Option.bind_some, if_true]
  · simp only [laws_eqEntryS.l0]
    rw [if_neg (by omega)]

/-- The count of what came in, and what it leaves of a bound. -/
theorem szEntryS_f (l : List LEn) (n : Int) (hn : 0 ≤ n ∧ n ≤ 1048576) (hl : l.length ≤ 9223372036854775807) : laws_szEntryS.f l n = some (if n < l.length then -1 else n - l.length) := by
  unfold laws_szEntryS.f; rw [wrap_small (by omega) (by omega)]
  by_cases h : n < l.length
  · rw [if_pos (by omega), if_pos h]
  · rw [if_neg (by omega), if_neg h]

abbrev LPg := S118
abbrev Pg := S90
abbrev Nd := S54
abbrev zPg : Pg := z90
def toPg (p : LPg) : Pg := ⟨p.f0, ⟨p.f1.f0, p.f1.f1.map toE⟩⟩
/-- How many entries the pages have together. -/
def heap (l : List LPg) : Nat := (l.map fun p => p.f1.f1.length).sum
theorem heap_snoc (l : List LPg) (i : Nat) (h : i < l.length) : heap (l.take (i + 1)) = heap (l.take i) + l[i].f1.f1.length := by
  unfold heap; rw [List.take_succ_eq_append_getElem h, List.map_append, List.sum_append]
  simp
theorem heap_le (l : List LPg) (i : Nat) : heap (l.take i) ≤ heap l := by
  unfold heap; rw [← List.take_append_drop i l, List.map_append, List.sum_append]
  simp
theorem heap_mem (l : List LPg) (p : LPg) (h : p ∈ l) : p.f1.f1.length ≤ heap l := by
  obtain ⟨i, hi, rfl⟩ := List.getElem_of_mem h; have h1 := heap_snoc l i hi; have h2 := heap_le l (i + 1)
  omega
theorem getD_LPg (l : List LPg) (i : Nat) (h : i < l.length) : l.getD i z118 = l[i] := by rw [List.getD_eq_getElem?_getD, List.getElem?_eq_getElem h]; rfl
theorem rdLPg_at (l : List LPg) (i : Nat) (h : i < l.length) : rd_T118 l (i : Int) = l[i] := getD_LPg l i h
theorem rdPg_at (l : List Pg) (i : Nat) (h : i < l.length) : rd_T90 l (i : Int) = l[i] := by
  show l.getD i zPg = l[i]
  rw [List.getD_eq_getElem?_getD, List.getElem?_eq_getElem h]; rfl

theorem szPage_f (a b : Bool) (l : List LEn) (n : Int) (hn : 0 ≤ n ∧ n ≤ 1048576) (hl : l.length ≤ 9223372036854775807) : laws_szPage.f a b l n = some (if n < l.length then -1 else n - l.length) := by
  unfold laws_szPage.f laws_szNode.f; rw [szEntryS_f l n hn hl]
  simp only [Option.bind_some]
  by_cases h : n < l.length
  · simp [if_pos h]
  · rw [if_neg h, if_neg (by omega)]
    simp only [Option.bind_some]
    rw [if_neg (by omega)]
/-- What is weighed: -1 where it is too much. -/
theorem szPageS_f (l : List LPg) (n : Int) (hn : 0 ≤ n ∧ n ≤ 1048576) (hl : l.length ≤ 9223372036854775807) (hp : ∀ p ∈ l, p.f1.f1.length ≤ 9223372036854775807) :
    Evn (fun k => laws_szPageS.f k l n) (if n < l.length + heap l then -1 else n - l.length - heap l) := by
  unfold laws_szPageS.f; rw [wrap_small (by omega) (by omega)]
  by_cases h0 : n - l.length < 0
  · rw [if_pos (show n < l.length + heap l by omega)]
    exact Evn.pos h0 (Evn.ret _)
  · refine Evn.neg h0 ?_
    have hb : l.length ≤ big := by unfold big; omega
    have key : ∀ i, ∀ hi : i < l.length, ∀ k (m : Int), 0 ≤ m → m ≤ 1048576 → laws_szPageS.l0 (k + 1) l m (i : Int) = if m < (l[i]'hi).f1.f1.length then some (-1) else laws_szPageS.l0 k l (m - (l[i]'hi).f1.f1.length) ((i + 1 : Nat) : Int) := by
      intro i hi k m hm0 hm1
      rw [laws_szPageS.l0, if_pos (by omega), if_pos (by omega), rdLPg_at l i hi, szPage_f _ _ _ _ ⟨hm0, hm1⟩ (hp _ (List.getElem_mem hi)), Option.bind_some, wrap_succ hi hb]
      by_cases hm : m < (l[i]).f1.f1.length
      · rw [if_pos hm, if_pos hm, if_pos (by omega)]
      · rw [if_neg hm, if_neg hm, if_neg (by omega)]
    have hend : ∀ k (m : Int), laws_szPageS.l0 (k + 1) l m (l.length : Int) = some m := fun k m => by rw [laws_szPageS.l0, if_neg (by omega)]
    by_cases hbig : n < l.length + heap l
    · rw [if_pos hbig]
      have := down (P := fun i => 0 ≤ n - l.length - heap (l.take i) → Evn (fun k => laws_szPageS.l0 k l (n - l.length - heap (l.take i)) (i : Int)) (-1)) l.length (fun i hi h hm => ?_) (fun hm => by rw [List.take_length] at hm; omega)
      · have h1 := this (by simp [heap]; omega)
        simpa [heap] using h1
      · refine Evn.step (fun k => key i hi k _ hm (by omega)) ?_
        by_cases hc : n - l.length - heap (l.take i) < (l[i]).f1.f1.length
        · exact Evn.pos hc (Evn.ret _)
        · refine Evn.neg hc ?_
          have hs := heap_snoc l i hi; rw [show n - l.length - heap (l.take i) - (l[i]).f1.f1.length = n - l.length - heap (l.take (i + 1)) by omega]; exact h (by omega)
    · rw [if_neg hbig]
      have := down (P := fun i => Evn (fun k => laws_szPageS.l0 k l (n - l.length - heap (l.take i)) (i : Int)) (n - l.length - heap l)) l.length (fun i hi h => ?_) (Evn.step (fun k => hend k _) (by rw [List.take_length]; exact Evn.ret _))
      · simpa [heap] using this
      · have hs := heap_snoc l i hi
        have hle := heap_le l (i + 1); refine Evn.step (fun k => key i hi k _ (by omega) (by omega)) (Evn.neg (by omega) ?_); rw [show n - l.length - heap (l.take i) - (l[i]).f1.f1.length = n - l.length - heap (l.take (i + 1)) by omega]; exact h
theorem szBook_f (a : Int) (l : List LPg) (n : Int) (hn : 0 ≤ n ∧ n ≤ 1048576) (hl : l.length ≤ 9223372036854775807) (hp : ∀ p ∈ l, p.f1.f1.length ≤ 9223372036854775807) :
    Evn (fun k => laws_szBook.f k a l n) (if n < l.length + heap l then -1 else n - l.length - heap l) := by
  unfold laws_szBook.f; refine Evn.bind (szPageS_f l n hn hl hp) ?_
  by_cases h : n < l.length + heap l
  · rw [if_pos h]
    exact Evn.ret _
  · rw [if_neg h, if_neg (by omega)]
    exact Evn.ret _

theorem toPage_f (p : LPg) (h : p.f1.f1.length ≤ 1048576) : Evn (fun k => laws_toPage.f k p.f0 p.f1.f0 p.f1.f1) (p.f0, p.f1.f0, p.f1.f1.map toE) := by
  unfold laws_toPage.f laws_toNode.f; exact Evn.bind (Evn.bind (toEntryS_f _ h) (Evn.ret _)) (Evn.ret _)
theorem toPageS_f (l : List LPg) (hl : l.length ≤ 1048576) (hp : ∀ p ∈ l, p.f1.f1.length ≤ 1048576) : Evn (fun k => laws_toPageS.f k l) (l.map toPg) := by
  have h := fill_loop (L := laws_toPageS.l0) (f := toPg) (F := fun k p => (laws_toPage.f k p.f0 p.f1.f0 p.f1.f1).bind fun t => some (⟨t.1, ⟨t.2.1, t.2.2⟩⟩ : Pg)) z118 (fun k xs acc i hi ha => by
    simp only [laws_toPageS.l0]
    rw [if_pos (by omega), if_pos (by omega), rdLPg_at xs i hi, getD_LPg xs i hi]
    cases laws_toPage.f k (xs[i]).f0 (xs[i]).f1.f0 (xs[i]).f1.f1 with
    | none => rfl
    | some t =>
      simp only [Option.bind_some]
      rw [if_pos (by omega)]
      rfl) (fun k xs acc => by simp only [laws_toPageS.l0]; rw [if_neg (by omega)]) l (by unfold big; omega) (fun x hx => Evn.bind (toPage_f x (hp x hx)) (Evn.ret _)) zPg
  unfold laws_toPageS.f; exact Evn.pos (by omega) (Evn.pos (by omega) h)
theorem toBook_f (a : Int) (l : List LPg) (hl : l.length ≤ 1048576) (hp : ∀ p ∈ l, p.f1.f1.length ≤ 1048576) : Evn (fun k => laws_toBook.f k a l) (a, l.map toPg) := by
  unfold laws_toBook.f; exact Evn.bind (toPageS_f l hl hp) (Evn.ret _)

theorem eqNode_same (b : Bool) (l : List En) (hl : l.length ≤ big) : Evn (fun k => laws_eqNode.f k b l b l) true := by
  unfold laws_eqNode.f; exact Evn.neg (by simp) (Evn.bind (eqEntryS_same l hl) (Evn.ret _))
theorem eqPageS_same (l : List Pg) (hl : l.length ≤ big) (hp : ∀ p ∈ l, p.f1.f1.length ≤ big) : Evn (fun k => laws_eqPageS.f k l l) true := by
  unfold laws_eqPageS.f; refine Evn.pos rfl ?_; refine down (P := fun i => Evn (fun k => laws_eqPageS.l0 k l l (i : Int)) true) l.length (fun i hi h => ?_) (Evn.step (fun k => by rw [laws_eqPageS.l0, if_neg (by omega)]) (Evn.ret _)); refine Evn.step (fun k => by rw [laws_eqPageS.l0, if_pos (by omega), if_pos (by omega), if_pos (by omega), rdPg_at l i hi, wrap_succ hi hl]) ?_; refine Evn.bind (a := true) ?_ (Evn.pos rfl h); unfold laws_eqPage.f; exact Evn.neg (by simp) (Evn.bind (eqNode_same _ _ (hp _ (List.getElem_mem hi))) (Evn.ret _))
theorem eqBook_same (a : Int) (l : List Pg) (hl : l.length ≤ big) (hp : ∀ p ∈ l, p.f1.f1.length ≤ big) : Evn (fun k => laws_eqBook.f k a l a l) true := by
  unfold laws_eqBook.f; exact Evn.pos rfl (Evn.bind (eqPageS_same l hl hp) (Evn.ret _))

/-- What a law over a book does: weigh it, make it, ask both, compare. -/
structure Small (l : List LPg) : Prop where
  len : l.length ≤ 1048576
  ent : ∀ p ∈ l, p.f1.f1.length ≤ 1048576
  sum : l.length + heap l ≤ 1048576
theorem Small.of (l : List LPg) (h : l.length + heap l ≤ 1048576) : Small l := ⟨by omega, fun p hp => by have := heap_mem l p hp; omega, h⟩
theorem Small.made (l : List LPg) (h : Small l) : (l.map toPg).length ≤ 1048576 ∧ ∀ p ∈ l.map toPg, p.f1.f1.length ≤ 1048576 := by
  refine ⟨by rw [List.length_map]; exact h.len, fun p hp => ?_⟩; obtain ⟨q, hq, rfl⟩ := List.mem_map.mp hp
  show (q.f1.f1.map toE).length ≤ _
  rw [List.length_map]; exact h.ent q hq
theorem big_of {n : Nat} (h : n ≤ 1048576) : n ≤ big := by unfold big; omega

theorem nodup_sub : ∀ (l u : List Int), l.Nodup → (∀ x ∈ l, x ∈ u) → l.length ≤ u.length
  | [], u, _, _ => Nat.zero_le _
  | a :: l, u, hn, hs => by
    rw [List.nodup_cons] at hn; have ha : a ∈ u := hs a (List.mem_cons_self ..)
    have h1 := nodup_sub l (u.erase a) hn.2 (fun x hx => by
      have hne : x ≠ a := fun e => hn.1 (e ▸ hx)
      exact (List.mem_erase_of_ne hne).2 (hs x (List.mem_cons_of_mem _ hx)))
    rw [List.length_erase_of_mem ha] at h1; have h2 := List.length_pos_of_mem ha
    simp only [List.length_cons]
    omega
theorem nodup_full (l u : List Int) (hn : l.Nodup) (hs : ∀ x ∈ l, x ∈ u) (hl : u.length ≤ l.length) : ∀ x ∈ u, x ∈ l := by
  intro x hx
  by_cases h : x ∈ l
  · exact h
  · have := nodup_sub (x :: l) u (List.nodup_cons.2 ⟨h, hn⟩) (fun y hy => by
      rcases List.mem_cons.1 hy with e | e
      · exact e ▸ hx
      · exact hs y e)
    simp only [List.length_cons] at this
    omega
def upto (n : Nat) : List Int := (List.range n).map fun (i : Nat) => (i : Int)
theorem upto_len (n : Nat) : (upto n).length = n := by simp [upto]
theorem mem_upto {n : Nat} {x : Int} : x ∈ upto n ↔ 0 ≤ x ∧ x < n := by
  unfold upto; rw [List.mem_map]
  constructor
  · rintro ⟨i, hi, rfl⟩
    rw [List.mem_range] at hi
    omega
  · intro h
    exact ⟨x.toNat, List.mem_range.2 (by omega), by omega⟩

/-- Pages that are there and used, each once. -/
def Once (ps : List Pg) (out : List Int) : Prop := out.Nodup ∧ ∀ i ∈ out, pgOk ps i
theorem Once.len {ps : List Pg} {out : List Int} (h : Once ps out) : out.length ≤ ps.length := by
  have := nodup_sub out (upto ps.length) h.1 (fun x hx => mem_upto.2 ⟨(h.2 x hx).1, (h.2 x hx).2.1⟩); rwa [upto_len] at this
theorem Once.nil (ps : List Pg) : Once ps [] := ⟨List.nodup_nil, fun _ h => absurd h (List.not_mem_nil)⟩
theorem Once.snoc {ps : List Pg} {out : List Int} (h : Once ps out) {i : Int} (hi : pgOk ps i) (hn : i ∉ out) : Once ps (out ++ [i]) := by
  refine ⟨?_, fun x hx => ?_⟩
  · rw [List.nodup_append]
    refine ⟨h.1, by simp, ?_⟩
    intro a ha b hb e
    rw [List.mem_singleton] at hb; subst hb; subst e; exact hn ha
  · rcases List.mem_append.1 hx with hx | hx
    · exact h.2 x hx
    · rw [List.mem_singleton] at hx
      exact hx ▸ hi

theorem walkL_ends (ps : List Pg) (n : Nat) (ih : ∀ out, Once ps out → ps.length ≤ out.length + n → ∀ i, ∃ r, Evn (fun k => walkM k ps i out) r ∧ Once ps r ∧ out.length ≤ r.length) (b : Bool) (es : List En) (he : es.length ≤ 1048576) :
    ∀ d x : Nat, x + d = es.length → ∀ o, Once ps o → ps.length ≤ o.length + n → ∃ r, Evn (fun k => walkL k ps b es o (x : Int)) r ∧ Once ps r ∧ o.length ≤ r.length
  | 0, x, hx, o, ho, hn => ⟨o, Evn.step (fun k => by rw [walkL, if_neg (by omega)]) (Evn.ret _), ho, Nat.le_refl _⟩
  | d + 1, x, hx, o, ho, hn => by
    cases b with
    | true => exact ⟨o, Evn.step (fun k => by rw [walkL, if_pos (by omega), if_pos rfl]) (Evn.ret _), ho, Nat.le_refl _⟩
    | false =>
      obtain ⟨r1, h1, o1, l1⟩ := ih o ho hn (rd_T103 es (x : Int)).f0; obtain ⟨r2, h2, o2, l2⟩ := walkL_ends ps n ih false es he d (x + 1) (by omega) r1 o1 (by omega)
      have hw : wrap64 ((x : Int) + 1) = ((x + 1 : Nat) : Int) := by
        unfold wrap64
        omega
      exact ⟨r2, Evn.step (fun k => by rw [walkL, if_pos (by omega), if_neg (by decide), if_pos (by omega), hw]) (Evn.bind h1 h2), o2, by omega⟩
theorem walk_ends (ps : List Pg) (hp : ps.length ≤ 1048576) (he : ∀ p ∈ ps, p.f1.f1.length ≤ 1048576) : ∀ n out, Once ps out → ps.length ≤ out.length + n → ∀ i, ∃ r, Evn (fun k => walkM k ps i out) r ∧ Once ps r ∧ out.length ≤ r.length := by
  intro n
  induction n with
  | zero =>
    intro out ho hn i
    have hl := ho.len
    by_cases h1 : pgOk ps i
    · by_cases h2 : i ∈ out
      · exact ⟨out, Evn.step (fun k => by rw [walkM, if_pos h1, if_pos (by omega), if_pos h2]) (Evn.ret _), ho, Nat.le_refl _⟩
      · have := (ho.snoc h1 h2).len
        rw [List.length_append, List.length_singleton] at this
        omega
    · exact ⟨out, Evn.step (fun k => by rw [walkM, if_neg h1]) (Evn.ret _), ho, Nat.le_refl _⟩
  | succ n ih =>
    intro out ho hn i
    have hl := ho.len
    by_cases h1 : pgOk ps i
    · by_cases h2 : i ∈ out
      · exact ⟨out, Evn.step (fun k => by rw [walkM, if_pos h1, if_pos (by omega), if_pos h2]) (Evn.ret _), ho, Nat.le_refl _⟩
      · have hes : (rd_T90 ps i).f1.f1.length ≤ 1048576 := by
          obtain ⟨m, rfl⟩ : ∃ m : Nat, i = (m : Int) := ⟨i.toNat, by have := h1.1; omega⟩
          have hm : m < ps.length := by have := h1.2.1; omega
          rw [rdPg_at ps m hm]; exact he _ (List.getElem_mem hm)
        obtain ⟨r, hr, h3, h4⟩ := walkL_ends ps n ih _ _ hes _ 0 (Nat.zero_add _) (out ++ [i]) (ho.snoc h1 h2) (by rw [List.length_append, List.length_singleton]; omega); refine ⟨r, Evn.step (fun k => by rw [walkM, if_pos h1, if_pos (by omega), if_neg h2]; rfl) hr, h3, ?_⟩; rw [List.length_append, List.length_singleton] at h4
        omega
    · exact ⟨out, Evn.step (fun k => by rw [walkM, if_neg h1]) (Evn.ret _), ho, Nat.le_refl _⟩
/-- What is reached from the root on. -/
theorem reach_ends (ps : List Pg) (hp : ps.length ≤ 1048576) (he : ∀ p ∈ ps, p.f1.f1.length ≤ 1048576) (i : Int) : ∃ r, Evn (fun k => walkM k ps i []) r ∧ Once ps r := by
  obtain ⟨r, h1, h2, _⟩ := walk_ends ps hp he ps.length [] (Once.nil ps) (by simp) i; exact ⟨r, h1, h2⟩

/-- The pages that an inner page names. -/
def kids (ps : List Pg) (i : Int) : List Int := if (rd_T90 ps i).f1.f0 = true then [] else (rd_T90 ps i).f1.f1.map (fun e => e.f0)
/-- Each page is the root, or is named by one ahead of it. -/
def Led (ps : List Pg) (root : Int) (l : List Int) : Prop := ∀ a j b, l = a ++ j :: b → j = root ∨ ∃ p ∈ a, j ∈ kids ps p
theorem Led.nil (ps : List Pg) (root : Int) : Led ps root [] := fun a j b h => by simp at h
theorem Led.snoc {ps : List Pg} {root : Int} {l : List Int} {i : Int} (h : Led ps root l) (hi : i = root ∨ ∃ p ∈ l, i ∈ kids ps p) : Led ps root (l ++ [i]) := by
  intro a j b e
  rcases List.eq_nil_or_concat b with hb | ⟨b', x, hb⟩
  · subst hb
    have := List.append_inj' e rfl; obtain ⟨rfl, h2⟩ := this
    injection h2 with h2
    subst h2; exact hi
  · subst hb
    have e2 : l ++ [i] = (a ++ j :: b') ++ [x] := by rw [e]; simp
    have := List.append_inj' e2 rfl; exact h a j b' this.1
theorem walkL_leaf' {k : Nat} {ps : List Pg} {es : List En} {o r : List Int} {x : Int} (h : walkL k ps true es o x = some r) : r = o := by
  cases k with
  | zero => simp [walkL] at h
  | succ k =>
    rw [walkL, if_pos rfl] at h
    split at h <;> exact (Option.some.inj h).symm
/-- What is new is closed. -/
def Shut (ps : List Pg) (out r : List Int) : Prop := ∀ j ∈ r, j ∈ out ∨ ∀ c ∈ kids ps j, pgOk ps c → c ∈ r
theorem walk_tree (ps : List Pg) (root : Int) (he : ∀ p ∈ ps, p.f1.f1.length ≤ 1048576) : ∀ k,
    (∀ i out r, Led ps root out → (i = root ∨ ∃ p ∈ out, i ∈ kids ps p) → walkM k ps i out = some r → Led ps root r ∧ (∀ j ∈ out, j ∈ r) ∧ (pgOk ps i → i ∈ r) ∧ Shut ps out r) ∧
    (∀ (j : Int) (out r : List Int) (x : Nat), Led ps root out → j ∈ out → pgOk ps j → (rd_T90 ps j).f1.f0 = false → walkL k ps false (rd_T90 ps j).f1.f1 out (x : Int) = some r →
      Led ps root r ∧ (∀ j ∈ out, j ∈ r) ∧ (∀ c ∈ (kids ps j).drop x, pgOk ps c → c ∈ r) ∧ Shut ps out r)
  | 0 => ⟨fun _ _ _ _ _ h => by simp [walkM] at h, fun _ _ _ _ _ _ _ _ h => by simp [walkL] at h⟩
  | k + 1 => by
    obtain ⟨ih1, ih2⟩ := walk_tree ps root he k
    constructor
    · intro i out r hl hi h
      rw [walkM] at h
      by_cases h1 : pgOk ps i
      · rw [if_pos h1] at h
        by_cases h3 : out.length < 17592186044415
        · rw [if_pos h3] at h
          by_cases h2 : i ∈ out
          · rw [if_pos h2] at h
            obtain rfl := Option.some.inj h; exact ⟨hl, fun _ h => h, fun _ => h2, fun j hj => .inl hj⟩
          · rw [if_neg h2] at h
            have hl2 := hl.snoc hi; have hin : i ∈ out ++ [i] := List.mem_append_right _ (List.mem_singleton.2 rfl)
            cases hb : (rd_T90 ps i).f1.f0 with
            | true =>
              rw [hb] at h; obtain rfl := walkL_leaf' h; refine ⟨hl2, fun j hj => List.mem_append_left _ hj, fun _ => hin, fun j hj => ?_⟩
              rcases List.mem_append.1 hj with hj | hj
              · exact .inl hj
              · rw [List.mem_singleton] at hj
                subst hj; refine .inr (fun c hc => ?_); unfold kids at hc; rw [if_pos hb] at hc; exact absurd hc List.not_mem_nil
            | false =>
              rw [hb] at h; obtain ⟨a1, a2, a3, a4⟩ := ih2 i (out ++ [i]) r 0 hl2 hin h1 hb h; refine ⟨a1, fun j hj => a2 j (List.mem_append_left _ hj), fun _ => a2 i hin, fun j hj => ?_⟩
              rcases a4 j hj with hj2 | hj2
              · rcases List.mem_append.1 hj2 with hj2 | hj2
                · exact .inl hj2
                · rw [List.mem_singleton] at hj2
                  subst hj2; exact .inr (fun c hc => a3 c (by rwa [List.drop_zero]))
              · exact .inr hj2
        · rw [if_neg h3] at h
          exact absurd h (by simp)
      · rw [if_neg h1] at h
        obtain rfl := Option.some.inj h; exact ⟨hl, fun _ h => h, fun h => absurd h h1, fun j hj => .inl hj⟩
    · intro j out r x hl hj hjo hb h
      have hes : (rd_T90 ps j).f1.f1.length ≤ 1048576 := by
        obtain ⟨m, rfl⟩ : ∃ m : Nat, j = (m : Int) := ⟨j.toNat, by have := hjo.1; omega⟩
        have hm : m < ps.length := by have := hjo.2.1; omega
        rw [rdPg_at ps m hm]; exact he _ (List.getElem_mem hm)
      have hk : kids ps j = (rd_T90 ps j).f1.f1.map (fun e => e.f0) := by
        unfold kids; rw [if_neg (by rw [hb]; decide)]
      rw [walkL] at h
      by_cases hx : x < (rd_T90 ps j).f1.f1.length
      · rw [if_pos (by omega), if_neg (by decide), if_pos (by omega)] at h
        obtain ⟨o, ho, h⟩ := Option.bind_eq_some_iff.mp h
        have hw : wrap64 ((x : Int) + 1) = ((x + 1 : Nat) : Int) := by
          unfold wrap64
          omega
        rw [hw] at h
        have hrd : (rd_T103 (rd_T90 ps j).f1.f1 (x : Int)).f0 = (kids ps j)[x]'(by rw [hk, List.length_map]; exact hx) := by
          have e0 : ∀ (l : List En) (h : x < l.length), (l.getD x z103).f0 = (l.map (fun e => e.f0))[x]'(by rw [List.length_map]; exact h) := fun l h => by
            rw [List.getD_eq_getElem?_getD, List.getElem?_eq_getElem h]
            simp
          simp only [hk]
          exact e0 _ hx
        rw [hrd] at ho; have hmem : (kids ps j)[x]'(by rw [hk, List.length_map]; exact hx) ∈ kids ps j := List.getElem_mem _; obtain ⟨a1, a2, a3, a4⟩ := ih1 _ out o hl (.inr ⟨j, hj, hmem⟩) ho; obtain ⟨b1, b2, b3, b4⟩ := ih2 j o r (x + 1) a1 (a2 j hj) hjo hb h; refine ⟨b1, fun q hq => b2 q (a2 q hq), fun c hc hco => ?_, fun q hq => ?_⟩
        · rw [List.drop_eq_getElem_cons (by rw [hk, List.length_map]; exact hx)] at hc
          rcases List.mem_cons.1 hc with hc | hc
          · subst hc
            exact b2 _ (a3 hco)
          · exact b3 c hc hco
        · rcases b4 q hq with hq | hq
          · rcases a4 q hq with hq | hq
            · exact .inl hq
            · exact .inr (fun c hc hco => b2 c (hq c hc hco))
          · exact .inr hq
      · rw [if_neg (by omega)] at h
        obtain rfl := Option.some.inj h; refine ⟨hl, fun _ h => h, fun c hc => ?_, fun q hq => .inl hq⟩; rw [List.drop_eq_nil_of_le (by rw [hk, List.length_map]; omega)] at hc; exact absurd hc List.not_mem_nil
/-- What is reached from the root on. -/
structure Reached (ps : List Pg) (root : Int) (r : List Int) : Prop where
  once : Once ps r
  led : Led ps root r
  shut : ∀ j ∈ r, ∀ c ∈ kids ps j, pgOk ps c → c ∈ r
  root_mem : pgOk ps root → root ∈ r
  none : ¬ pgOk ps root → r = []
theorem reached (ps : List Pg) (hp : ps.length ≤ 1048576) (he : ∀ p ∈ ps, p.f1.f1.length ≤ 1048576) (i : Int) : ∃ r, Evn (fun k => walkM k ps i []) r ∧ Reached ps i r := by
  obtain ⟨r, ⟨K, hK⟩, h2⟩ := reach_ends ps hp he i; obtain ⟨a1, a2, a3, a4⟩ := (walk_tree ps i he K).1 i [] r (Led.nil _ _) (.inl rfl) (hK K (Nat.le_refl _)); refine ⟨r, ⟨K, hK⟩, h2, a1, fun j hj => ?_, a3, fun hno => ?_⟩
  · rcases a4 j hj with h | h
    · exact absurd h List.not_mem_nil
    · exact h
  · have h : walkM (K + 1) ps i [] = some r := hK (K + 1) (by omega)
    rw [walkM, if_neg hno] at h; exact (Option.some.inj h).symm

theorem spec_l1In_f (a b c : Int) : spec_l1In.f a b c = some (decide (b ≤ a ∧ a ≤ c)) := by
  unfold spec_l1In.f
  split <;> simp_all
  omega
theorem impl_in_f (a b c : Int) : impl_in.f a b c = some (decide (b ≤ a ∧ a ≤ c)) := by
  unfold impl_in.f
  split <;> simp_all
  omega

def bok (a b c d : Int) : Bool := decide (0 ≤ a ∧ a ≤ c ∧ c ≤ 255 ∧ 0 ≤ b ∧ b ≤ d ∧ d ≤ 255)

theorem spec_BoxOk_f (a b c d : Int) : spec_BoxOk.f a b c d = some (bok a b c d) := by
  unfold spec_BoxOk.f bok
  simp only [spec_l1In_f, Option.bind_some]
  by_cases h0 : 0 ≤ a ∧ a ≤ 255
  · by_cases h1 : 0 ≤ b ∧ b ≤ 255
    · by_cases h2 : a ≤ c ∧ c ≤ 255
      · simp only [h0, h1, h2, and_self, decide_true, if_true]
        congr 1
        simp
      · simp only [h0, h1, h2, and_self, decide_true, decide_false, if_true]
        simp
        omega
    · simp only [h0, h1, and_self, decide_true, decide_false, if_true]
      simp
      omega
  · simp only [h0, decide_false]
    simp
    omega
theorem impl_BoxOk_f (a b c d : Int) : impl_BoxOk.f a b c d = some (bok a b c d) := by
  unfold impl_BoxOk.f bok
  simp only [impl_in_f, Option.bind_some]
  by_cases h0 : 0 ≤ a ∧ a ≤ c
  · by_cases h1 : 0 ≤ c ∧ c ≤ 255
    · by_cases h2 : 0 ≤ b ∧ b ≤ d
      · simp only [h0, h1, h2, and_self, decide_true, if_true]
        congr 1
        simp
        omega
      · simp only [h0, h1, h2, and_self, decide_true, decide_false, if_true]
        simp
        omega
    · simp only [h0, h1, and_self, decide_true, decide_false, if_true]
      simp
      omega
  · simp only [h0, decide_false]
    simp
    omega

/-- The place of the first entry of a number, from x on. -/
def idxE (es : List En) (n : Int) : Nat → Nat → Int
  | 0, _ => -1
  | d + 1, x => if (es.getD x z103).f0 = n then (x : Int) else idxE es n d (x + 1)
theorem entryAt_both (es : List En) (n : Int) (hl : es.length ≤ 1048576) : ∀ d x : Nat, x + d = es.length → Evn (fun k => spec_EntryAt.l0 k es n (x : Int)) (idxE es n d x) ∧ Evn (fun k => impl_EntryAt.l0 k es n (x : Int)) (idxE es n d x)
  | 0, x, hx => ⟨Evn.step (fun k => by rw [spec_EntryAt.l0, if_neg (by omega)]; rfl) (Evn.ret _), Evn.step (fun k => by rw [impl_EntryAt.l0, if_neg (by omega)]; rfl) (Evn.ret _)⟩
  | d + 1, x, hx => by
    have hw : wrap64 ((x : Int) + 1) = ((x + 1 : Nat) : Int) := by
      unfold wrap64
      omega
    have ih := entryAt_both es n hl d (x + 1) (by omega); rw [idxE]
    by_cases h : (es.getD x z103).f0 = n
    · rw [if_pos h]
      exact ⟨Evn.step (fun k => by rw [spec_EntryAt.l0, if_pos (by omega), if_pos (by omega), rdE_at, if_pos h]) (Evn.ret _), Evn.step (fun k => by rw [impl_EntryAt.l0, if_pos (by omega), if_pos (by omega), rdE_at, if_pos h]) (Evn.ret _)⟩
    · rw [if_neg h]
      exact ⟨Evn.step (fun k => by rw [spec_EntryAt.l0, if_pos (by omega), if_pos (by omega), rdE_at, if_neg h, hw]) ih.1, Evn.step (fun k => by rw [impl_EntryAt.l0, if_pos (by omega), if_pos (by omega), rdE_at, if_neg h, hw]) ih.2⟩
def entryAt (es : List En) (n : Int) : Int := idxE es n es.length 0
theorem spec_EntryAt_f (es : List En) (n : Int) (hl : es.length ≤ 1048576) : Evn (fun k => spec_EntryAt.f k es n) (entryAt es n) := (entryAt_both es n hl es.length 0 (by omega)).1
theorem impl_EntryAt_f (es : List En) (n : Int) (hl : es.length ≤ 1048576) : Evn (fun k => impl_EntryAt.f k es n) (entryAt es n) := (entryAt_both es n hl es.length 0 (by omega)).2
def numOk (lf : Bool) (n : Int) : Bool := if lf = true then decide (1 ≤ n ∧ n ≤ 999) else decide (0 ≤ n ∧ n ≤ 47)
/-- Entry x of a node is right. -/
def entOk (lf : Bool) (es : List En) (x : Nat) : Bool := bok (es.getD x z103).f1.f0 (es.getD x z103).f1.f1 (es.getD x z103).f1.f2 (es.getD x z103).f1.f3 && (decide (entryAt es (es.getD x z103).f0 = x) && numOk lf (es.getD x z103).f0)
def entsOk (lf : Bool) (es : List En) : Nat → Nat → Bool
  | 0, _ => true
  | d + 1, x => entOk lf es x && entsOk lf es d (x + 1)
def sizeOk (lf : Bool) (es : List En) : Bool := decide (es.length ≤ 4) && (lf || decide (0 < es.length))
def nodeOk (lf : Bool) (es : List En) : Bool := entsOk lf es es.length 0 && sizeOk lf es
theorem spec_node (lf : Bool) (es : List En) (hl : es.length ≤ 1048576) : ∀ d x : Nat, x + d = es.length → Evn (fun k => spec_NodeOk.l0 k (x : Int) lf es) (entsOk lf es d x && sizeOk lf es)
  | 0, x, hx => by
    refine Evn.step (fun k => ?_) (Evn.ret _); rw [spec_NodeOk.l0, if_neg (by omega), entsOk, Bool.true_and]; unfold sizeOk
    by_cases h : es.length ≤ 4
    · rw [if_pos (by omega), decide_eq_true h, Bool.true_and]
      cases lf with
      | true => rfl
      | false =>
        rw [if_neg (by decide), Bool.false_or]
        congr 1
        rw [decide_eq_decide]
        omega
    · rw [if_neg (by omega), decide_eq_false h, Bool.false_and]
  | d + 1, x, hx => by
    have ih := spec_node lf es hl d (x + 1) (by omega)
    have hw : wrap64 ((x : Int) + 1) = ((x + 1 : Nat) : Int) := by
      unfold wrap64
      omega
    refine Evn.step (fun k => by rw [spec_NodeOk.l0, if_pos (by omega), if_pos (by omega), rdE_at, spec_BoxOk_f, hw]) ?_; rw [entsOk]; unfold entOk
    generalize (es.getD x z103) = e
    refine Evn.bind (Evn.ret _) ?_
    cases bok e.f1.f0 e.f1.f1 e.f1.f2 e.f1.f3 with
    | false => exact Evn.neg (by decide) (Evn.ret _)
    | true =>
      refine Evn.pos rfl (Evn.bind (spec_EntryAt_f es e.f0 hl) ?_)
      by_cases h2 : entryAt es e.f0 = x
      · refine Evn.pos h2 ?_
        rw [decide_eq_true h2]
        simp only [Bool.true_and]
        unfold numOk
        cases lf with
        | true =>
          refine Evn.pos rfl ?_; rw [if_pos rfl]; refine Evn.bind (Evn.const fun _ => spec_l1In_f _ _ _) ?_
          by_cases h3 : 1 ≤ e.f0 ∧ e.f0 ≤ 999
          · rw [decide_eq_true h3, Bool.true_and]
            exact Evn.pos rfl ih
          · rw [decide_eq_false h3, Bool.false_and]
            exact Evn.neg (by decide) (Evn.ret _)
        | false =>
          refine Evn.neg (by decide) ?_; rw [if_neg (by decide)]; refine Evn.bind (Evn.const fun _ => spec_l1In_f _ _ _) ?_
          by_cases h3 : 0 ≤ e.f0 ∧ e.f0 ≤ 47
          · rw [decide_eq_true h3, Bool.true_and]
            exact Evn.pos rfl ih
          · rw [decide_eq_false h3, Bool.false_and]
            exact Evn.neg (by decide) (Evn.ret _)
      · rw [decide_eq_false h2]
        exact Evn.neg h2 (Evn.ret _)
theorem impl_node (lf : Bool) (es : List En) (hl : es.length ≤ 1048576) : ∀ d x : Nat, x + d = es.length → Evn (fun k => impl_NodeOk.l0 k es (es.length : Int) (x : Int) lf es) (entsOk lf es d x)
  | 0, x, hx => Evn.step (fun k => by rw [impl_NodeOk.l0, if_neg (by omega), entsOk]) (Evn.ret _)
  | d + 1, x, hx => by
    have ih := impl_node lf es hl d (x + 1) (by omega)
    have hw : wrap64 ((x : Int) + 1) = ((x + 1 : Nat) : Int) := by
      unfold wrap64
      omega
    refine Evn.step (fun k => by rw [impl_NodeOk.l0, if_pos (by omega), if_pos (by omega), if_pos (by omega), rdE_at, impl_BoxOk_f, hw]) ?_; rw [entsOk]; unfold entOk numOk
    generalize (es.getD x z103) = e
    cases lf with
    | true =>
      refine Evn.pos rfl (Evn.bind (Evn.const fun _ => impl_in_f _ _ _) ?_); rw [if_pos rfl]
      by_cases h3 : 1 ≤ e.f0 ∧ e.f0 ≤ 999
      · rw [decide_eq_true h3, Bool.and_true]
        refine Evn.pos rfl (Evn.bind (Evn.ret _) ?_)
        cases bok e.f1.f0 e.f1.f1 e.f1.f2 e.f1.f3 with
        | false => exact Evn.neg (by decide) (Evn.ret _)
        | true =>
          refine Evn.pos rfl (Evn.bind (impl_EntryAt_f es e.f0 hl) ?_)
          by_cases h2 : entryAt es e.f0 = x
          · rw [decide_eq_true h2]
            exact Evn.pos h2 ih
          · rw [decide_eq_false h2]
            exact Evn.neg h2 (Evn.ret _)
      · rw [decide_eq_false h3, Bool.and_false, Bool.and_false, Bool.false_and]
        exact Evn.neg (by decide) (Evn.ret _)
    | false =>
      refine Evn.neg (by decide) (Evn.bind (Evn.const fun _ => impl_in_f _ _ _) ?_); rw [if_neg (by decide)]
      by_cases h3 : 0 ≤ e.f0 ∧ e.f0 ≤ 47
      · rw [decide_eq_true h3, Bool.and_true]
        refine Evn.pos rfl (Evn.bind (Evn.ret _) ?_)
        cases bok e.f1.f0 e.f1.f1 e.f1.f2 e.f1.f3 with
        | false => exact Evn.neg (by decide) (Evn.ret _)
        | true =>
          refine Evn.pos rfl (Evn.bind (impl_EntryAt_f es e.f0 hl) ?_)
          by_cases h2 : entryAt es e.f0 = x
          · rw [decide_eq_true h2]
            exact Evn.pos h2 ih
          · rw [decide_eq_false h2]
            exact Evn.neg h2 (Evn.ret _)
      · rw [decide_eq_false h3, Bool.and_false, Bool.and_false, Bool.false_and]
        exact Evn.neg (by decide) (Evn.ret _)
theorem spec_NodeOk_f (lf : Bool) (es : List En) (hl : es.length ≤ 1048576) : Evn (fun k => spec_NodeOk.f k lf es) (nodeOk lf es) := spec_node lf es hl es.length 0 (by omega)
theorem impl_NodeOk_f (lf : Bool) (es : List En) (hl : es.length ≤ 1048576) : Evn (fun k => impl_NodeOk.f k lf es) (nodeOk lf es) := by
  have h := impl_node lf es hl es.length 0 (by omega); unfold impl_NodeOk.f nodeOk sizeOk
  have hf : ∀ b : Bool, Evn (fun k => impl_NodeOk.j0 k true lf es) false := fun b => Evn.step (fun k => by rw [impl_NodeOk.j0, if_pos rfl]) (Evn.ret _)
  have ht : Evn (fun k => impl_NodeOk.j0 k false lf es) (entsOk lf es es.length 0) := Evn.step (fun k => by rw [impl_NodeOk.j0, if_neg (by decide)]; rfl) h
  by_cases h4 : es.length ≤ 4
  · refine Evn.neg (by omega) ?_
    rw [decide_eq_true h4, Bool.true_and]
    cases lf with
    | true =>
      rw [Bool.true_or, Bool.and_true]; exact Evn.pos rfl ht
    | false =>
      refine Evn.neg (by decide) ?_; rw [Bool.false_or]
      by_cases h0 : 0 < es.length
      · rw [decide_eq_true h0, Bool.and_true, show ((es.length : Int) == 0) = false by rw [beq_eq_false_iff_ne]; omega]
        exact ht
      · rw [decide_eq_false h0, Bool.and_false, show ((es.length : Int) == 0) = true by rw [beq_iff_eq]; omega]
        exact hf true
  · rw [decide_eq_false h4, Bool.false_and, Bool.and_false]
    exact Evn.pos (by omega) (hf true)

theorem Evn.of_mono {α : Type} {g : Nat → Option α} {r : α} (hm : ∀ k, LeO (g k) (g (k + 1))) (k : Nat) (h : g k = some r) : Evn g r := by
  refine ⟨k, fun n hn => ?_⟩; obtain ⟨d, rfl⟩ := Nat.exists_eq_add_of_le hn
  induction d with
  | zero => exact h
  | succ d ih => exact hm _ r (ih (by omega))
theorem has_evn (l : List Int) (n : Int) (hl : l.length ≤ 4611686018427387904) : Evn (fun k => spec_l7Has.f k l n) (decide (n ∈ l)) := by
  obtain ⟨k, hk⟩ := has_f l n hl; exact Evn.of_mono (fun k => spec_l7Has.mono l n k) k hk
def pageOk (p : Pg) : Bool := if p.f0 = true then nodeOk p.f1.f0 p.f1.f1 else (!p.f1.f0 && decide (p.f1.f1.length = 0))
theorem wrapI {i : Nat} (h : i ≤ 4611686018427387904) : wrap64 ((i : Int) + 1) = ((i + 1 : Nat) : Int) := by
  unfold wrap64
  omega
theorem same_empty (b : Bool) (es : List En) : Evn (fun k => impl_SameNode.f k b es false []) (!b && decide (es.length = 0)) := by
  unfold impl_SameNode.f
  cases b with
  | true => exact Evn.neg (by decide) (Evn.ret _)
  | false =>
    refine Evn.pos (by decide) (Evn.bind (a := decide (es.length = 0)) ?_ (Evn.ret _)); unfold slices_Equal_Entry.f
    by_cases h : es.length = 0
    · rw [decide_eq_true h]
      refine Evn.pos (by rw [h]; rfl) (Evn.step (fun k => ?_) (Evn.ret _)); rw [slices_Equal_Entry.l0, if_neg (by omega)]
    · rw [decide_eq_false h]
      exact Evn.neg (by simp only [List.length_nil]; omega) (Evn.ret _)
theorem bokP_f (l : List Pg) (hl : l.length ≤ 1048576) (hp : ∀ p ∈ l, p.f1.f1.length ≤ 1048576) : ∀ d x : Nat, x + d = l.length → Evn (fun k => bokP k l (x : Int)) ((l.drop x).all pageOk)
  | 0, x, hx => by
    rw [List.drop_eq_nil_of_le (by omega)]; exact Evn.step (fun k => by rw [bokP, if_neg (by omega)]; rfl) (Evn.ret _)
  | d + 1, x, hx => by
    have ih := bokP_f l hl hp d (x + 1) (by omega)
    have hxl : x < l.length := by omega
    have hw : wrap64 ((x : Int) + 1) = ((x + 1 : Nat) : Int) := wrapI (by omega); rw [List.drop_eq_getElem_cons hxl, List.all_cons]; have hlen := hp _ (List.getElem_mem hxl); refine Evn.step (fun k => by rw [bokP, if_pos (by omega), if_pos (by omega), rdPg_at l x hxl, hw]) ?_
    generalize l[x] = p at hlen
    unfold pageOk
    by_cases hu : p.f0 = true
    · refine Evn.pos hu (Evn.bind (impl_NodeOk_f _ _ hlen) ?_)
      rw [if_pos hu]
      cases nodeOk p.f1.f0 p.f1.f1 with
      | true => exact Evn.pos rfl ih
      | false => exact Evn.neg (by decide) (Evn.ret _)
    · refine Evn.neg hu (Evn.bind (same_empty _ _) ?_)
      rw [if_neg hu]
      cases (!p.f1.f0 && decide (p.f1.f1.length = 0)) with
      | true => exact Evn.pos rfl ih
      | false => exact Evn.neg (by decide) (Evn.ret _)
theorem spec_pages (a : Int) (l : List Pg) (r : List Int) (b : Bool) (hl : l.length ≤ 1048576) (hp : ∀ p ∈ l, p.f1.f1.length ≤ 1048576) (hend : Evn (fun k => spec_BookOk.l1 k r 0 0 a l) b) : ∀ d x : Nat, x + d = l.length → Evn (fun k => spec_BookOk.l0 k r (x : Int) a l) ((l.drop x).all pageOk && b)
  | 0, x, hx => by
    rw [List.drop_eq_nil_of_le (by omega)]; exact Evn.step (fun k => by rw [spec_BookOk.l0, if_neg (by omega)]) hend
  | d + 1, x, hx => by
    have ih := spec_pages a l r b hl hp hend d (x + 1) (by omega)
    have hxl : x < l.length := by omega
    have hw : wrap64 ((x : Int) + 1) = ((x + 1 : Nat) : Int) := wrapI (by omega); rw [List.drop_eq_getElem_cons hxl, List.all_cons, Bool.and_assoc]; have hlen := hp _ (List.getElem_mem hxl); refine Evn.step (fun k => by rw [spec_BookOk.l0, if_pos (by omega), if_pos (by omega), rdPg_at l x hxl, hw]) ?_
    generalize l[x] = p at hlen
    unfold pageOk
    by_cases hu : p.f0 = true
    · refine Evn.pos hu (Evn.bind (spec_NodeOk_f _ _ hlen) ?_)
      rw [if_pos hu]
      cases nodeOk p.f1.f0 p.f1.f1 with
      | true => exact Evn.pos rfl (Evn.pos hu ih)
      | false => exact Evn.neg (by decide) (Evn.ret _)
    · refine Evn.neg hu (Evn.neg hu ?_)
      rw [if_neg hu]
      by_cases hb : p.f1.f0 = true
      · rw [hb]
        exact Evn.pos rfl (Evn.ret _)
      · refine Evn.neg hb ?_
        rw [Bool.not_eq_true] at hb; rw [hb]
        by_cases h0 : p.f1.f1.length = 0
        · rw [decide_eq_true h0]
          exact Evn.neg (by omega) ih
        · rw [decide_eq_false h0]
          exact Evn.pos (by omega) (Evn.ret _)
/-- Those that are told, behind told. -/
def tellE (ps : List Pg) (told : List Int) : List Int → Option (List Int)
  | [] => some told
  | c :: t => if pgOk ps c ∧ ¬ c ∈ told then tellE ps (told ++ [c]) t else none
def tellR (ps : List Pg) : List Int → List Int → Bool
  | _, [] => true
  | told, i :: t => match tellE ps told (kids ps i) with | none => false | some told' => tellR ps told' t
theorem tellE_once (ps : List Pg) : ∀ F told t, Once ps told → tellE ps told F = some t → Once ps t
  | [], told, t, ho, h => by
    rw [tellE] at h
    injection h with h
    exact h ▸ ho
  | c :: F, told, t, ho, h => by
    rw [tellE] at h
    by_cases hc : pgOk ps c ∧ ¬ c ∈ told
    · rw [if_pos hc] at h
      exact tellE_once ps F _ t (ho.snoc hc.1 hc.2) h
    · rw [if_neg hc] at h
      cases h
theorem bokE_f (ps : List Pg) (hl : ps.length ≤ 1048576) (es : List En) (he : es.length ≤ 1048576) : ∀ d y : Nat, y + d = es.length → ∀ told, Once ps told → Evn (fun k => bokE k ps es told (y : Int)) (tellE ps told ((es.drop y).map (fun e => e.f0)))
  | 0, y, hy, told, ho => by
    rw [List.drop_eq_nil_of_le (by omega)]; exact Evn.step (fun k => by rw [bokE, if_neg (by omega)]; rfl) (Evn.ret _)
  | d + 1, y, hy, told, ho => by
    have hyl : y < es.length := by omega
    have hw : wrap64 ((y : Int) + 1) = ((y + 1 : Nat) : Int) := wrapI (by omega); have hlen := ho.len
    have hrd : rd_T103 es (y : Int) = es[y] := by
      show es.getD y z103 = _
      rw [List.getD_eq_getElem?_getD, List.getElem?_eq_getElem hyl]
      rfl
    rw [List.drop_eq_getElem_cons hyl, List.map_cons, tellE]; refine Evn.step (fun k => by rw [bokE, if_pos (by omega), if_pos (by omega), if_pos (by omega), hrd, hw]) ?_
    by_cases hc : pgOk ps (es[y]).f0
    · refine Evn.pos hc ?_
      by_cases hm : (es[y]).f0 ∈ told
      · rw [if_neg (fun h => h.2 hm)]
        exact Evn.pos hm (Evn.ret _)
      · rw [if_pos ⟨hc, hm⟩]
        exact Evn.neg hm (bokE_f ps hl es he d (y + 1) (by omega) _ (ho.snoc hc hm))
    · rw [if_neg (fun h => hc h.1)]
      exact Evn.neg hc (Evn.ret _)
theorem bokR_f (ps : List Pg) (hl : ps.length ≤ 1048576) (hp : ∀ p ∈ ps, p.f1.f1.length ≤ 1048576) (r : List Int) (hr : ∀ i ∈ r, pgOk ps i) (hrl : r.length ≤ 1048576) : ∀ d x : Nat, x + d = r.length → ∀ told, Once ps told → Evn (fun k => bokR k ps r told (x : Int)) (tellR ps told (r.drop x))
  | 0, x, hx, told, ho => by
    rw [List.drop_eq_nil_of_le (by omega)]; exact Evn.step (fun k => by rw [bokR, if_neg (by omega)]; rfl) (Evn.ret _)
  | d + 1, x, hx, told, ho => by
    have hxl : x < r.length := by omega
    have hw : wrap64 ((x : Int) + 1) = ((x + 1 : Nat) : Int) := wrapI (by omega); have hg := hr _ (List.getElem_mem hxl)
    have hrd : rd r (x : Int) = r[x] := by
      show r.getD x 0 = _
      rw [List.getD_eq_getElem?_getD, List.getElem?_eq_getElem hxl]
      rfl
    have ih := bokR_f ps hl hp r hr hrl d (x + 1) (by omega); rw [List.drop_eq_getElem_cons hxl, tellR]; refine Evn.step (fun k => by rw [bokR, if_pos (by omega), if_pos (by omega), hrd, if_pos hg.1, if_pos hg.2.1, hw]) ?_
    generalize r[x] = i at hg
    unfold kids
    by_cases hb : (rd_T90 ps i).f1.f0 = true
    · rw [if_pos hb]
      exact Evn.pos hb (ih told ho)
    · rw [if_neg hb]
      have hes : (rd_T90 ps i).f1.f1.length ≤ 1048576 := by
        obtain ⟨m, rfl⟩ : ∃ m : Nat, i = (m : Int) := ⟨i.toNat, by have := hg.1; omega⟩
        have hm : m < ps.length := by have := hg.2.1; omega
        rw [rdPg_at ps m hm]; exact hp _ (List.getElem_mem hm)
      have hE := bokE_f ps hl _ hes _ 0 (Nat.zero_add _) told ho; rw [List.drop_zero] at hE; refine Evn.neg hb (Evn.bind hE ?_)
      cases ht : tellE ps told ((rd_T90 ps i).f1.f1.map (fun e => e.f0)) with
      | none => exact Evn.ret _
      | some t => exact ih t (tellE_once ps _ told t ho ht)
theorem tellE_some (ps : List Pg) : ∀ F told, told.Nodup → (∀ t, tellE ps told F = some t → t = told ++ F ∧ (∀ c ∈ F, pgOk ps c) ∧ (told ++ F).Nodup) ∧ ((∀ c ∈ F, pgOk ps c) → (told ++ F).Nodup → tellE ps told F = some (told ++ F))
  | [], told, hn => by
    refine ⟨fun t h => ?_, fun _ _ => by rw [tellE, List.append_nil]⟩; rw [tellE] at h
    injection h with h
    subst h
    simp [hn]
  | c :: F, told, hn => by
    have e : told ++ c :: F = (told ++ [c]) ++ F := by simp
    constructor
    · intro t h
      rw [tellE] at h
      by_cases hc : pgOk ps c ∧ ¬ c ∈ told
      · rw [if_pos hc] at h
        have hn2 : (told ++ [c]).Nodup := by
          rw [List.nodup_append]; refine ⟨hn, by simp, fun a ha b hb hab => ?_⟩; rw [List.mem_singleton] at hb; subst hb; subst hab; exact hc.2 ha
        obtain ⟨h1, h2, h3⟩ := (tellE_some ps F (told ++ [c]) hn2).1 t h; rw [e]; refine ⟨h1, fun q hq => ?_, h3⟩
        rcases List.mem_cons.1 hq with hq | hq
        · exact hq ▸ hc.1
        · exact h2 q hq
      · rw [if_neg hc] at h
        cases h
    · intro h1 h2
      have hcn : ¬ c ∈ told := by
        intro hin
        rw [List.nodup_append] at h2; exact h2.2.2 c hin c (List.mem_cons_self ..) rfl
      rw [tellE, if_pos ⟨h1 c (List.mem_cons_self ..), hcn⟩, e]; rw [e] at h2; exact (tellE_some ps F (told ++ [c]) (by rw [List.nodup_append] at h2; exact h2.1)).2 (fun q hq => h1 q (List.mem_cons_of_mem _ hq)) h2
theorem tellR_iff (ps : List Pg) : ∀ r told, told.Nodup → (tellR ps told r = true ↔ (∀ c ∈ r.flatMap (kids ps), pgOk ps c) ∧ (told ++ r.flatMap (kids ps)).Nodup)
  | [], told, hn => by simp [tellR, hn]
  | i :: r, told, hn => by
    obtain ⟨h1, h2⟩ := tellE_some ps (kids ps i) told hn; rw [tellR, List.flatMap_cons]
    constructor
    · intro h
      cases ht : tellE ps told (kids ps i) with
      | none =>
        rw [ht] at h
        cases h
      | some t =>
        rw [ht] at h; obtain ⟨rfl, h4, h5⟩ := h1 t ht; have h6 := (tellR_iff ps r _ h5).1 h; refine ⟨fun c hc => ?_, by rw [← List.append_assoc]; exact h6.2⟩
        rcases List.mem_append.1 hc with hc | hc
        · exact h4 c hc
        · exact h6.1 c hc
    · rintro ⟨h3, h4⟩
      rw [← List.append_assoc] at h4
      have h5 : (told ++ kids ps i).Nodup := by
        rw [List.nodup_append] at h4; exact h4.1
      rw [h2 (fun c hc => h3 c (List.mem_append_left _ hc)) h5]; exact (tellR_iff ps r _ h5).2 ⟨fun c hc => h3 c (List.mem_append_right _ hc), h4⟩
/-- The entries are all reached, none is the root, and with those that were counted they are one less than the pages. -/
def edgeB (r : List Int) (a : Int) (F : List Int) (e : Nat) : Bool := (F.all fun c => decide (c ∈ r) && decide (c ≠ a)) && decide (e + F.length + 1 = r.length)
theorem edgeB_out {r : List Int} {a c : Int} {F : List Int} {e : Nat} (h : ¬ c ∈ r) : edgeB r a (c :: F) e = false := by
  unfold edgeB; rw [List.all_cons, decide_eq_false h]
  rfl
theorem edgeB_root {r : List Int} {a c : Int} {F : List Int} {e : Nat} (h : c = a) : edgeB r a (c :: F) e = false := by
  unfold edgeB; rw [List.all_cons, decide_eq_false (fun hn : c ≠ a => hn h), Bool.and_false]
  rfl
theorem edgeB_next {r : List Int} {a c : Int} {F : List Int} {e : Nat} (h1 : c ∈ r) (h2 : ¬ c = a) : edgeB r a (c :: F) e = edgeB r a F (e + 1) := by
  unfold edgeB; rw [List.all_cons, decide_eq_true h1, decide_eq_true (show c ≠ a from h2), Bool.and_self, Bool.true_and, List.length_cons]
  congr 1
  rw [decide_eq_decide]
  omega
theorem edgeB_iff {r : List Int} {a : Int} {F : List Int} {e : Nat} : edgeB r a F e = true ↔ (∀ c ∈ F, c ∈ r ∧ c ≠ a) ∧ e + F.length + 1 = r.length := by
  unfold edgeB; rw [Bool.and_eq_true, List.all_eq_true, decide_eq_true_iff]
  constructor
  · rintro ⟨h1, h2⟩
    refine ⟨fun c hc => ?_, h2⟩; have := h1 c hc; rw [Bool.and_eq_true, decide_eq_true_iff, decide_eq_true_iff] at this; exact this
  · rintro ⟨h1, h2⟩
    refine ⟨fun c hc => ?_, h2⟩; rw [Bool.and_eq_true, decide_eq_true_iff, decide_eq_true_iff]; exact h1 c hc
/-- The reference's count of the entries, from page x of those that are reached on. -/
theorem small_e {e2 B y M M2 n : Nat} (h2 : e2 ≤ B + y) (hxb : B ≤ M2) (hM : M2 + M + M ≤ 4611686018427387904) (hy : y < n) (hes : n ≤ M) : e2 ≤ 4611686018427387904 := by omega
theorem small_y {y M M2 n : Nat} (hM : M2 + M + M ≤ 4611686018427387904) (hy : y < n) (hes : n ≤ M) : y ≤ 4611686018427387904 := by omega
theorem spec_edges (M : Nat) (hM : M * M + M + M ≤ 4611686018427387904) (a : Int) (l : List Pg) (r : List Int) (hp : ∀ p ∈ l, p.f1.f1.length ≤ M) (hr : ∀ i ∈ r, pgOk l i) (hrl : r.length ≤ M) :
    ∀ d x : Nat, x + d = r.length → ∀ e : Nat, e ≤ x * M → Evn (fun k => spec_BookOk.l1 k r (e : Int) (x : Int) a l) (edgeB r a ((r.drop x).flatMap (kids l)) e)
  | 0, x, hx, e, hE => by
    rw [List.drop_eq_nil_of_le (by omega)]; refine Evn.step (fun k => ?_) (Evn.ret _); rw [spec_BookOk.l1, if_neg (by omega), show wrap64 ((r.length : Int) - 1) = (r.length : Int) - 1 by unfold wrap64; omega]
    congr 1
    unfold edgeB; rw [List.flatMap_nil, List.all_nil, Bool.true_and, Bool.eq_iff_iff, beq_iff_eq, decide_eq_true_iff, List.length_nil]
    omega
  | d + 1, x, hx, e, hE => by
    have hxl : x < r.length := by omega
    have hw : wrap64 ((x : Int) + 1) = ((x + 1 : Nat) : Int) := wrapI (by omega); have hg := hr _ (List.getElem_mem hxl)
    have hrd : rd r (x : Int) = r[x] := by
      show r.getD x 0 = _
      rw [List.getD_eq_getElem?_getD, List.getElem?_eq_getElem hxl]
      rfl
    have ih0 := spec_edges M hM a l r hp hr hrl d (x + 1) (by omega)
    have ih : ∀ e : Nat, e ≤ x * M + M → Evn (fun k => spec_BookOk.l1 k r (e : Int) ((x + 1 : Nat) : Int) a l) (edgeB r a ((r.drop (x + 1)).flatMap (kids l)) e) := fun e he => ih0 e (Nat.le_trans he (Nat.le_of_eq (Nat.succ_mul x M).symm))
    clear ih0; rw [List.drop_eq_getElem_cons hxl, List.flatMap_cons]; refine Evn.step (fun k => by rw [spec_BookOk.l1, if_pos (by omega), if_pos (by omega), hrd, if_pos hg.1, if_pos hg.2.1]) ?_
    generalize r[x] = i at hg
    have hes : (rd_T90 l i).f1.f1.length ≤ M := by
      obtain ⟨m, rfl⟩ : ∃ m : Nat, i = (m : Int) := ⟨i.toNat, by have := hg.1; omega⟩
      have hm : m < l.length := by have := hg.2.1; omega
      rw [rdPg_at l m hm]; exact hp _ (List.getElem_mem hm)
    generalize (r.drop (x + 1)).flatMap (kids l) = F at ih
    have hxb : x * M ≤ M * M := Nat.mul_le_mul_right M (show x ≤ M by omega)
    generalize x * M = B at hE ih hxb
    generalize M * M = M2 at hxb hM
    unfold kids
    generalize (rd_T90 l i).f1.f1 = es at hes
    generalize (rd_T90 l i).f1.f0 = b
    cases b with
    | true =>
      rw [if_pos rfl, List.nil_append]; have h1 : Evn (fun k => spec_BookOk.j4 k r (e : Int) (x : Int) 0 false a l true es) (edgeB r a F e) := Evn.step (fun k => by rw [spec_BookOk.j4, if_neg (by decide), hw]) (ih e (by omega))
      by_cases h0 : (0 : Int) < (es.length : Int)
      · exact Evn.step (fun k => by rw [spec_BookOk.l2, if_pos h0]; rfl) h1
      · exact Evn.step (fun k => by rw [spec_BookOk.l2, if_neg h0]) h1
    | false =>
      rw [if_neg (by decide)]
      have key : ∀ d y : Nat, y + d = es.length → ∀ e2 : Nat, e2 ≤ B + y → Evn (fun k => spec_BookOk.l2 k r (e2 : Int) (x : Int) (y : Int) a l false es) (edgeB r a ((es.drop y).map (fun e => e.f0) ++ F) e2) := by
        intro d
        induction d with
        | zero =>
          intro y hy e2 h2
          rw [List.drop_eq_nil_of_le (by omega), List.map_nil, List.nil_append]; exact Evn.step (fun k => by rw [spec_BookOk.l2, if_neg (by omega)]) (Evn.step (fun k => by rw [spec_BookOk.j4, if_neg (by decide), hw]) (ih e2 (by omega)))
        | succ d ihd =>
          intro y hy e2 h2
          have hyl : y < es.length := by omega
          have hrd : rd_T103 es (y : Int) = es[y] := by
            show es.getD y z103 = _
            rw [List.getD_eq_getElem?_getD, List.getElem?_eq_getElem hyl]
            rfl
          have ih2 := ihd (y + 1) (by omega) (e2 + 1) (by omega); have hw1 : wrap64 ((y : Int) + 1) = ((y + 1 : Nat) : Int) := wrapI (small_y hM hyl hes); have hw2 : wrap64 ((e2 : Int) + 1) = ((e2 + 1 : Nat) : Int) := wrapI (small_e h2 hxb hM hyl hes); have hy0 : (0 : Int) ≤ (y : Int) := Int.natCast_nonneg y; have hy1 : (y : Int) < (es.length : Int) := Int.ofNat_lt.mpr hyl; rw [List.drop_eq_getElem_cons hyl, List.map_cons, List.cons_append]; refine Evn.step (fun k => by rw [spec_BookOk.l2, if_pos hy1]) (Evn.step (fun k => by rw [spec_BookOk.j4, if_pos (by decide), if_pos hy0, if_pos hy1, hrd, hw1, hw2]) ?_); refine Evn.bind (has_evn r _ (by omega)) ?_
          by_cases hm : (es[y]).f0 ∈ r
          · rw [decide_eq_true hm]
            refine Evn.pos rfl ?_
            by_cases ha : (es[y]).f0 = a
            · rw [edgeB_root ha]
              exact Evn.pos ha (Evn.ret _)
            · rw [edgeB_next hm ha]
              exact Evn.neg ha ih2
          · rw [decide_eq_false hm, edgeB_out hm]
            exact Evn.neg (by decide) (Evn.ret _)
      have h := key es.length 0 (by omega) e (by omega); rw [List.drop_zero] at h; exact h
/-- A list that has all of another one, which names nothing twice, and is no longer, names nothing twice itself. -/
theorem nodup_cover : ∀ (F u : List Int), u.Nodup → (∀ x ∈ u, x ∈ F) → F.length ≤ u.length → F.Nodup
  | [], u, _, _, _ => List.nodup_nil
  | c :: F, u, hu, hs, hl => by
    have hc : ¬ c ∈ F := by
      intro hin
      have := nodup_sub u F hu (fun x hx => by
        rcases List.mem_cons.1 (hs x hx) with h | h
        · exact h ▸ hin
        · exact h)
      rw [List.length_cons] at hl
      omega
    rw [List.nodup_cons]; refine ⟨hc, nodup_cover F (u.erase c) (hu.erase c) (fun x hx => ?_) ?_⟩
    · have hxu := List.mem_of_mem_erase hx
      rcases List.mem_cons.1 (hs x hxu) with h | h
      · exact absurd hx (h ▸ hu.not_mem_erase)
      · exact h
    · by_cases hcu : c ∈ u
      · rw [List.length_erase_of_mem hcu]
        rw [List.length_cons] at hl
        omega
      · rw [List.erase_of_not_mem hcu]
        rw [List.length_cons] at hl
        omega
theorem tree_iff {ps : List Pg} {root : Int} {r : List Int} (h : Reached ps root r) (hroot : pgOk ps root) : ((∀ c ∈ r.flatMap (kids ps), pgOk ps c) ∧ ([root] ++ r.flatMap (kids ps)).Nodup) ↔ ((∀ c ∈ r.flatMap (kids ps), c ∈ r ∧ c ≠ root) ∧ 0 + (r.flatMap (kids ps)).length + 1 = r.length) := by
  have hr := h.root_mem hroot; have hlen : (r.erase root).length = r.length - 1 := List.length_erase_of_mem hr; have hpos := List.length_pos_of_mem hr
  have hcov : ∀ x ∈ r.erase root, x ∈ r.flatMap (kids ps) := by
    intro x hx
    have hxr := List.mem_of_mem_erase hx
    have hne : x ≠ root := fun e => absurd hx (e ▸ h.once.1.not_mem_erase)
    obtain ⟨a, b, e⟩ := List.append_of_mem hxr
    rcases h.led a x b e with h1 | ⟨p, hp, hk⟩
    · exact absurd h1 hne
    · exact List.mem_flatMap.2 ⟨p, by rw [e]; exact List.mem_append_left _ hp, hk⟩
  constructor
  · rintro ⟨h1, h2⟩
    have hF : (r.flatMap (kids ps)).Nodup := by
      rw [List.nodup_append] at h2; exact h2.2.1
    have hne : ∀ c ∈ r.flatMap (kids ps), c ≠ root := by
      intro c hc e
      rw [List.nodup_append] at h2; exact h2.2.2 root (by simp) c hc e.symm
    have hin : ∀ c ∈ r.flatMap (kids ps), c ∈ r := by
      intro c hc
      obtain ⟨j, hj, hk⟩ := List.mem_flatMap.1 hc; exact h.shut j hj c hk (h1 c hc)
    refine ⟨fun c hc => ⟨hin c hc, hne c hc⟩, ?_⟩; have h3 := nodup_sub _ (r.erase root) hF (fun c hc => (List.mem_erase_of_ne (hne c hc)).2 (hin c hc)); have h4 := nodup_sub _ (r.flatMap (kids ps)) (h.once.1.erase root) hcov
    omega
  · rintro ⟨h1, h2⟩
    have hF := nodup_cover (r.flatMap (kids ps)) (r.erase root) (h.once.1.erase root) hcov (by omega); refine ⟨fun c hc => h.once.2 c (h1 c hc).1, ?_⟩; rw [List.nodup_append]; refine ⟨by simp, hF, fun a ha b hb e => ?_⟩; rw [List.mem_singleton] at ha; subst ha; exact (h1 b hb).2 e.symm
/-- A book is right: its pages are, and what is reached is a tree. -/
structure Right (l : List Pg) (a : Int) (r : List Int) : Prop where
  len : 1 ≤ l.length ∧ l.length ≤ 48
  root : pgOk l a
  pages : l.all pageOk = true
  tree : (∀ c ∈ r.flatMap (kids l), pgOk l c) ∧ ([a] ++ r.flatMap (kids l)).Nodup
instance (l : List Pg) (a : Int) (r : List Int) : Decidable (Right l a r) :=
  if h1 : 1 ≤ l.length ∧ l.length ≤ 48 then if h2 : pgOk l a then if h3 : l.all pageOk = true then if h4 : (∀ c ∈ r.flatMap (kids l), pgOk l c) ∧ ([a] ++ r.flatMap (kids l)).Nodup then isTrue ⟨h1, h2, h3, h4⟩ else isFalse fun h => h4 h.tree else isFalse fun h => h3 h.pages else isFalse fun h => h2 h.root else isFalse fun h => h1 h.len
theorem impl_bookOk (a : Int) (l : List Pg) (r : List Int) (hl : l.length ≤ 1048576) (hp : ∀ p ∈ l, p.f1.f1.length ≤ 1048576) (hw : Evn (fun k => walkM k l a []) r) (h : Reached l a r) : Evn (fun k => impl_BookOk.f k a l) (decide (Right l a r)) := by
  have hrl := h.once.len; unfold impl_BookOk.f
  by_cases h1 : 1 ≤ l.length ∧ l.length ≤ 48
  · refine Evn.pos (by omega) ?_
    by_cases h2 : pgOk l a
    · refine Evn.pos h2 ?_
      have h3 := bokP_f l hl hp l.length 0 (by omega); rw [List.drop_zero] at h3; refine Evn.bind h3 ?_
      by_cases h4 : l.all pageOk = true
      · rw [h4]
        refine Evn.pos rfl (Evn.bind (Evn.bind (a := r) hw (Evn.ret _)) ?_); have h5 := bokR_f l hl hp r h.once.2 (by omega) r.length 0 (by omega) [a] ((Once.nil l).snoc h2 List.not_mem_nil); rw [List.drop_zero] at h5
        have e : tellR l [a] r = decide (Right l a r) := by
          rw [Bool.eq_iff_iff, decide_eq_true_iff, tellR_iff l r [a] (by simp)]; exact ⟨fun ht => ⟨h1, h2, h4, ht⟩, fun ht => ht.tree⟩
        rw [← e]; exact h5
      · rw [decide_eq_false (fun ht : Right l a r => h4 ht.pages)]
        exact Evn.neg h4 (Evn.ret _)
    · rw [decide_eq_false (fun ht : Right l a r => h2 ht.root)]
      exact Evn.neg h2 (Evn.ret _)
  · rw [decide_eq_false (fun ht : Right l a r => h1 ht.len)]
    exact Evn.neg (by omega) (Evn.ret _)
theorem spec_bookOk (a : Int) (l : List Pg) (r : List Int) (hl : l.length ≤ 1048576) (hp : ∀ p ∈ l, p.f1.f1.length ≤ 1048576) (hw : Evn (fun k => walkM k l a []) r) (h : Reached l a r) : Evn (fun k => spec_BookOk.f k a l) (decide (Right l a r)) := by
  have hrl := h.once.len; unfold spec_BookOk.f; refine Evn.bind (a := r) hw (Evn.bind (Evn.const fun _ => spec_l1In_f _ _ _) ?_)
  by_cases h1 : 1 ≤ l.length ∧ l.length ≤ 48
  · rw [decide_eq_true (show 1 ≤ (l.length : Int) ∧ (l.length : Int) ≤ 48 by omega)]
    refine Evn.pos rfl ?_
    by_cases h2 : pgOk l a
    · have hpos := List.length_pos_of_mem (h.root_mem h2)
      rw [show ((r.length : Int) == 0) = false by rw [beq_eq_false_iff_ne]; omega]; refine Evn.step (fun k => by rw [spec_BookOk.j0, if_neg (by decide)]) ?_; have h3 := spec_edges 1048576 (by decide) a l r hp h.once.2 (by omega) r.length 0 (by omega) 0 (Nat.zero_le _); rw [List.drop_zero] at h3; have h5 := spec_pages a l r _ hl hp h3 l.length 0 (by omega); rw [List.drop_zero] at h5
      have e : (l.all pageOk && edgeB r a (r.flatMap (kids l)) 0) = decide (Right l a r) := by
        rw [Bool.eq_iff_iff, Bool.and_eq_true, edgeB_iff, decide_eq_true_iff, ← tree_iff h h2]; exact ⟨fun ht => ⟨h1, h2, ht.1, ht.2⟩, fun ht => ⟨ht.pages, ht.tree⟩⟩
      rw [← e]; exact h5
    · rw [decide_eq_false (fun ht : Right l a r => h2 ht.root), h.none h2]
      exact Evn.step (fun k => by rw [spec_BookOk.j0]; rfl) (Evn.ret _)
  · rw [decide_eq_false (show ¬ (1 ≤ (l.length : Int) ∧ (l.length : Int) ≤ 48) by omega), decide_eq_false (fun ht : Right l a r => h1 ht.len)]
    exact Evn.neg (by decide) (Evn.step (fun k => by rw [spec_BookOk.j0, if_pos rfl]) (Evn.ret _))
theorem bookOk_both (a : Int) (l : List Pg) (hl : l.length ≤ 1048576) (hp : ∀ p ∈ l, p.f1.f1.length ≤ 1048576) : ∃ b : Bool, Evn (fun k => spec_BookOk.f k a l) b ∧ Evn (fun k => impl_BookOk.f k a l) b := by
  obtain ⟨r, hw, hr⟩ := reached l hl hp a; exact ⟨_, spec_bookOk a l r hl hp hw hr, impl_bookOk a l r hl hp hw hr⟩

abbrev pgLeaf (l : List Pg) (i : Int) : Bool := (rd_T90 l i).f1.f0
abbrev pgL (l : List Pg) (i : Int) : List En := (rd_T90 l i).f1.f1
theorem pg_mem {l : List Pg} {i : Int} (h : pgOk l i) : rd_T90 l i ∈ l := by
  obtain ⟨m, rfl⟩ : ∃ m : Nat, i = (m : Int) := ⟨i.toNat, by have := h.1; omega⟩
  have hm : m < l.length := by have := h.2.1; omega
  rw [rdPg_at l m hm]; exact List.getElem_mem hm
theorem Right.len4 {l : List Pg} {a : Int} {r : List Int} (h : Right l a r) {i : Int} (hi : pgOk l i) : (pgL l i).length ≤ 4 := by
  have h1 := List.all_eq_true.1 h.pages _ (pg_mem hi); unfold pageOk at h1; rw [if_pos hi.2.2] at h1; unfold nodeOk sizeOk at h1; rw [Bool.and_eq_true, Bool.and_eq_true] at h1; exact of_decide_eq_true h1.2.1
theorem kids_leaf {l : List Pg} {i : Int} (h : pgLeaf l i = true) : kids l i = [] := if_pos h
theorem kids_inner {l : List Pg} {i : Int} (h : pgLeaf l i = false) : kids l i = (pgL l i).map (fun e => e.f0) := if_neg (by rw [show (rd_T90 l i).f1.f0 = false from h]; decide)
theorem kids_len {l : List Pg} {i : Int} : (kids l i).length ≤ (pgL l i).length := by
  cases h : pgLeaf l i with
  | true => rw [kids_leaf h]; exact Nat.zero_le _
  | false => rw [kids_inner h, List.length_map]; exact Nat.le_refl _
theorem Right.kid {l : List Pg} {a : Int} {r : List Int} (h : Right l a r) (hr : Reached l a r) {i c : Int} (hi : i ∈ r) (hc : c ∈ kids l i) : c ∈ r :=
  hr.shut i hi c hc (h.tree.1 c (List.mem_flatMap.2 ⟨i, hi, hc⟩))
/-- Who names a page is told by the page. -/
theorem flat_once {α : Type} (f : α → List Int) : ∀ (r : List α), (r.flatMap f).Nodup → ∀ p ∈ r, ∀ q ∈ r, ∀ c, c ∈ f p → c ∈ f q → p = q
  | [], _, p, hp, _, _, _, _, _ => absurd hp List.not_mem_nil
  | x :: t, h, p, hp, q, hq, c, h1, h2 => by
    rw [List.flatMap_cons, List.nodup_append] at h; obtain ⟨_, ht, hd⟩ := h
    rcases List.mem_cons.1 hp with hp2 | hp2
    · rcases List.mem_cons.1 hq with hq2 | hq2
      · rw [hp2, hq2]
      · rw [hp2] at h1
        exact absurd rfl (hd c h1 c (List.mem_flatMap.2 ⟨q, hq2, h2⟩))
    · rcases List.mem_cons.1 hq with hq2 | hq2
      · rw [hq2] at h2
        exact absurd rfl (hd c h2 c (List.mem_flatMap.2 ⟨p, hp2, h1⟩))
      · exact flat_once f t ht p hp2 q hq2 c h1 h2
theorem Right.behind {l : List Pg} {a : Int} {r : List Int} (h : Right l a r) (hr : Reached l a r) {i c : Int} (hi : i ∈ r) (hc : c ∈ kids l i) : r.idxOf i < r.idxOf c := by
  have hcr := h.kid hr hi hc; have htree := h.tree.2; rw [List.nodup_append] at htree
  have hca : c ≠ a := fun e => htree.2.2 a (by simp) c (List.mem_flatMap.2 ⟨i, hi, hc⟩) e.symm
  obtain ⟨s, t, e⟩ := List.append_of_mem hcr; have hn := hr.once.1
  rcases hr.led s c t e with h1 | ⟨p, hp, hk⟩
  · exact absurd h1 hca
  · have hpr : p ∈ r := by rw [e]; exact List.mem_append_left _ hp
    have hpi := flat_once (kids l) r htree.2.1 p hpr i hi c hk hc; subst hpi
    have hcs : c ∉ s := by
      intro hcs
      rw [e, List.nodup_append] at hn; exact hn.2.2 c hcs c (List.mem_cons_self) rfl
    rw [e, List.idxOf_append, List.idxOf_append, if_pos hp, if_neg hcs]; have := List.idxOf_lt_length_of_mem hp
    omega
/-- A number that goes down from a page to those it names. -/
def under (r : List Int) (i : Int) : Nat := r.length - r.idxOf i
theorem Right.down {l : List Pg} {a : Int} {r : List Int} (h : Right l a r) (hr : Reached l a r) {i c : Int} (hi : i ∈ r) (hc : c ∈ kids l i) : under r c < under r i := by
  have h1 := h.behind hr hi hc; have h2 := List.idxOf_lt_length_of_mem (h.kid hr hi hc); unfold under
  omega
theorem under_pos {r : List Int} {i : Int} (hi : i ∈ r) : 0 < under r i := by
  have h2 := List.idxOf_lt_length_of_mem hi; unfold under
  omega
theorem rdEnF (es : List En) (x : Nat) (h : x < es.length) : (rd_T103 es (x : Int)).f0 = (es.map (fun e => e.f0))[x]'(by rw [List.length_map]; exact h) := by
  show (es.getD x z103).f0 = _
  rw [List.getD_eq_getElem?_getD, List.getElem?_eq_getElem h]
  simp
/-- The same number of pages at most four times as many. -/
theorem flat_le (f : Int → List Int) (n : Nat) : ∀ (q : List Int), (∀ c ∈ q, (f c).length ≤ n) → (q.flatMap f).length ≤ q.length * n
  | [], _ => by simp
  | c :: q, h => by
    have h1 := h c (by simp); have h2 := flat_le f n q (fun d hd => h d (List.mem_cons_of_mem _ hd)); rw [List.flatMap_cons, List.length_append, List.length_cons, Nat.succ_mul]
    omega

end Go.Proofs.Ytngjaajcdbodeaa.Pure

namespace Go.Proofs.Ytngjaajcdbodeaa.All
open Go.RowKit Go.Proofs.YtngjaajcdbodeaaW.PrintWords Go.Proofs.YtngjaajcdbodeaaW.PrintLast Go.Proofs.YtngjaajcdbodeaaW.PrintMore Go.Proofs.Ytngjaajcdbodeaa.Sq
attribute [local go_sem] max2_int min2_int max_two min_two max_three min_three max_four min_four 
set_option linter.unusedVariables false
set_option linter.unusedSimpArgs false

/-! ### spec_Search: function 53 -/
def spec_Search.f (k : Nat) (a0_0 : Int) (l0_1 : List (S90)) (a1_0 : Int) (a1_1 : Int) (a1_2 : Int) (a1_3 : Int) : Option ((List (S34))) := (spec_BookOk.f k a0_0 l0_1).bind fun t958 => (if t958 = true then ((spec_l8Search.f k a0_0 l0_1 a0_0 a1_0 a1_1 a1_2 a1_3 1).bind fun bt959 => (some bt959.1)) else (some (([] : List (S34)))))
theorem spec_Search.mono : ∀ a0 a1 a2 a3 a4 a5 k, LeO (spec_Search.f k a0 a1 a2 a3 a4 a5) (spec_Search.f (k + 1) a0 a1 a2 a3 a4 a5) := by
  intro a0 a1 a2 a3 a4 a5 k
  unfold spec_Search.f
  repeat' first | (with_reducible first | exact spec_BookOk.mono _ _ _ | exact spec_l8Search.mono _ _ _ _ _ _ _ _ _ | exact LeO.refl _ | exact LeO.none _ | refine LeO.ite ?_ ?_ | refine LeO.bind ?_ (fun _ => ?_)) | exact spec_BookOk.mono _ _ _ | exact spec_l8Search.mono _ _ _ _ _ _ _ _ _ | exact LeO.none _ | refine LeO.ite ?_ ?_ | refine LeO.bind ?_ (fun _ => ?_)
set_option maxHeartbeats 8000000 in
set_option maxRecDepth 100000 in
theorem spec_Search.calls (k : Nat) (a0_0 : Int) (A0_1 : Option Addr) (c0_1 : Nat) (l0_1 : List (S90)) (a1_0 : Int) (a1_1 : Int) (a1_2 : Int) (a1_3 : Int) (r : List (S34)) (w : World) (hr0_1 : Kd.C k90 w A0_1 l0_1.length l0_1) (hc0_1 : l0_1.length ≤ c0_1) (h : spec_Search.f k a0_0 l0_1 a1_0 a1_1 a1_2 a1_3 = some r) :
    Calls Try.prog 53 #[.agg #[.int .i64 a0_0, .slice A0_1 l0_1.length c0_1], .agg #[.int .i64 a1_0, .int .i64 a1_1, .int .i64 a1_2, .int .i64 a1_3]] w fun e w' => ∃ v0_ : Value, e = .returned (v0_) ∧ Kd.R k34 34 w' w.heap.size (fun _ => True) v0_ r ∧ Below w.heap.size w w' := by
  have hu49 := Try.underlying49; have hu32 := Try.underlying32; have HR0_1 := Aside0.mk hr0_1; have HC0_1 := Aside0.mk hc0_1; clear hr0_1 hc0_1; have HB := Aside0.mk (Below.refl w.heap.size w); have H : ((spec_BookOk.f k a0_0 l0_1).bind fun t958 => (if t958 = true then ((spec_l8Search.f k a0_0 l0_1 a0_0 a1_0 a1_1 a1_2 a1_3 1).bind fun bt959 => (some bt959.1)) else (some (([] : List (S34)))))) = some r := h; clear h; replace H := Option.bind_eq_some_iff.mp H; obtain ⟨t958, A30, H⟩ := H; replace H : (if t958 = true then ((spec_l8Search.f k a0_0 l0_1 a0_0 a1_0 a1_1 a1_2 a1_3 1).bind fun bt959 => (some bt959.1)) else (some (([] : List (S34))))) = some r := H; have A3 := Aside0.mk A30; clear A30
  by_cases c4 : t958 = true
  · subst c4
    replace H : ((spec_l8Search.f k a0_0 l0_1 a0_0 a1_0 a1_1 a1_2 a1_3 1).bind fun bt959 => (some bt959.1)) = some r := (by rw [if_pos rfl] at H; exact H); replace H := Option.bind_eq_some_iff.mp H; obtain ⟨⟨t959, t962⟩, A50, H⟩ := H; replace H : (some t959) = some r := H; have A5 := Aside0.mk A50; clear A50; obtain rfl := Option.some.inj H
    go_enter Try.func53, Try.ntmps53
    go_wp2_with (first | ((with_reducible refine gate_dst (N := 2) rfl ?_); refine box_event ?hg (N := 2) ?hd (cs := #[.int .i64 a0_0, .slice A0_1 l0_1.length c0_1]) (t := 49) ?hr ?_; (case hd => rfl); (case hg => rfl); (case hr => first | (go_simp; done) | (go_simp; rfl)); intro gb956 hg w6 hbox hb; have n0_ := Aside0.mk (below_step (bz HB.out) hb); have n1_ := Aside0.mk (hbox); have n2_ := Aside0.mk ((by rw [hg]; exact (below_size (bz HB.out)) : w.heap.size ≤ gb956)); have n3_ := Aside0.mk ((by rw [hg]; exact (below_size (bz HB.out)) : w.heap.size ≤ gb956)); clear HB; have HB := n0_; have BK956 := n1_; have GW956 := n2_; have GE956 := n3_; clear n0_ n1_ n2_ n3_; clear hb hbox hg) | ((with_reducible refine gate_dst (N := 3) rfl ?_); refine box_event ?hg (N := 3) ?hd (cs := #[.int .i64 a1_0, .int .i64 a1_1, .int .i64 a1_2, .int .i64 a1_3]) (t := 32) ?hr ?_; (case hd => rfl); (case hg => rfl); (case hr => first | (go_simp; done) | (go_simp; rfl)); intro gb957 hg w7 hbox hb; have n0_ := Aside0.mk (blk_below (g := gb956) (o := .cells #[.int .i64 a0_0, .slice A0_1 l0_1.length c0_1] 49 (0, 0)) (kz BK956.out) hb); have n1_ := Aside0.mk (below_step (b1 GE956.out HB.out) hb); have n2_ := Aside0.mk (hbox); have n3_ := Aside0.mk ((by rw [hg]; exact (below_size (b1 GE956.out HB.out)) : w.heap.size ≤ gb957)); have n4_ := Aside0.mk ((by rw [hg]; exact (below_size (b1 GE956.out HB.out)) : w.heap.size ≤ gb957)); have n5_ := Aside0.mk ((by rw [hg]; exact Nat.ne_of_lt (blk_lt (g := gb956) (o := .cells #[.int .i64 a0_0, .slice A0_1 l0_1.length c0_1] 49 (0, 0)) (kz BK956.out)) : gb956 ≠ gb957)); have n6_ := Aside0.mk ((by rw [hg]; exact Nat.ne_of_gt (blk_lt (g := gb956) (o := .cells #[.int .i64 a0_0, .slice A0_1 l0_1.length c0_1] 49 (0, 0)) (kz BK956.out)) : gb957 ≠ gb956)); clear BK956; clear HB; have BK956 := n0_; have HB := n1_; have BK957 := n2_; have GW957 := n3_; have GE957 := n4_; have NB956_957 := n5_; have NB957_956 := n6_; clear n0_ n1_ n2_ n3_ n4_ n5_ n6_; clear hb hbox hg; have hnb8 := NB956_957.out; have hnc8 := NB957_956.out; have hcz9_0 := fz BK956.out 0 (.int .i64 a0_0); have hcz9_1 := fz BK956.out 1 (.slice A0_1 l0_1.length c0_1); have hfz9_0 := blk_frozen BK956.out 0; have hfz9_1 := blk_frozen BK956.out 1) | ((with_reducible refine gate_callee (f := 41) rfl ?_); refine goesL_ (some 8) rfl rfl Try.func41 (by kernel_rfl) rfl #[.agg #[.int .i64 a0_0, .slice A0_1 l0_1.length c0_1]] rfl dz ?_; (with_reducible refine (spec_BookOk.calls k a0_0 _ _ l0_1 true _ ?side1 ?side2 A3.out).mono ?_); (case side1 => exact sz HR0_1.out HB.out); (case side2 => exact HC0_1.out); rintro e w10 ⟨rfl, hb⟩; refine ⟨_, rfl, ?_⟩; have n0_ := Aside0.mk (blk_below (g := gb956) (o := .cells #[.int .i64 a0_0, .slice A0_1 l0_1.length c0_1] 49 (0, 0)) (kz BK956.out) hb); have n1_ := Aside0.mk (blk_below (g := gb957) (o := .cells #[.int .i64 a1_0, .int .i64 a1_1, .int .i64 a1_2, .int .i64 a1_3] 32 (0, 0)) (kz BK957.out) hb); have n2_ := Aside0.mk (below_step (b2 GE956.out GE957.out HB.out) hb); clear BK956; clear BK957; clear HB; have BK956 := n0_; have BK957 := n1_; have HB := n2_; clear n0_ n1_ n2_; (try clear hb); (try clear hb2); (try clear hk); (try clear hi); have hcz11_0 := fz BK956.out 0 (.int .i64 a0_0); have hcz11_1 := fz BK956.out 1 (.slice A0_1 l0_1.length c0_1); have hfz11_0 := blk_frozen BK956.out 0; have hfz11_1 := blk_frozen BK956.out 1; have hcz12_0 := fz BK957.out 0 (.int .i64 a1_0); have hcz12_1 := fz BK957.out 1 (.int .i64 a1_1); have hcz12_2 := fz BK957.out 2 (.int .i64 a1_2); have hcz12_3 := fz BK957.out 3 (.int .i64 a1_3); have hfz12_0 := blk_frozen BK957.out 0; have hfz12_1 := blk_frozen BK957.out 1; have hfz12_2 := blk_frozen BK957.out 2; have hfz12_3 := blk_frozen BK957.out 3) | ((with_reducible refine gate_callee (f := 99) rfl ?_); refine goesL_ (some 16) rfl rfl Try.func99 (by kernel_rfl) rfl #[.agg #[.int .i64 a0_0, .slice A0_1 l0_1.length c0_1], .int .i64 a0_0, .agg #[.int .i64 a1_0, .int .i64 a1_1, .int .i64 a1_2, .int .i64 a1_3], .int .i64 1] rfl dz ?_; (with_reducible refine (spec_l8Search.calls k a0_0 _ _ l0_1 a0_0 a1_0 a1_1 a1_2 a1_3 1 t959 t962 _ ?side1 ?side2 A5.out).mono ?_); (case side1 => exact sz HR0_1.out HB.out); (case side2 => exact HC0_1.out); rintro e w13 ⟨v960, rfl, ho0, hb⟩; refine ⟨_, rfl, ?_⟩; have n0_ := Aside0.mk (Kd.R_lower ho0 (below_size (b2 GE956.out GE957.out HB.out))); have n1_ := Aside0.mk (blk_below (g := gb956) (o := .cells #[.int .i64 a0_0, .slice A0_1 l0_1.length c0_1] 49 (0, 0)) (kz BK956.out) hb); have n2_ := Aside0.mk (blk_below (g := gb957) (o := .cells #[.int .i64 a1_0, .int .i64 a1_1, .int .i64 a1_2, .int .i64 a1_3] 32 (0, 0)) (kz BK957.out) hb); have n3_ := Aside0.mk (below_step (b2 GE956.out GE957.out HB.out) hb); clear BK956; clear BK957; clear HB; have HO961 := n0_; have BK956 := n1_; have BK957 := n2_; have HB := n3_; clear n0_ n1_ n2_ n3_; (try clear hb); (try clear hb2); (try clear hk); (try clear hi); (try clear ho0)))
    go_ret; exact ⟨_, by first | rfl | (simp [errW_none, errW_some] <;> rfl) | (simp [*, errW_none, errW_some] <;> rfl), by (with_reducible repeat (first | apply Kd.R_alloc | apply Kd.R_drewN | apply Kd.R_drew)); exact HO961.out, b2 GE956.out GE957.out HB.out⟩
  · replace c4 := Bool.eq_false_iff.mpr c4
    subst c4; replace H : (some (([] : List (S34)))) = some r := (by rw [if_neg (show ¬ (false = true) by decide)] at H; exact H); obtain ⟨y963, hy963⟩ : ∃ y_ : List (S34), y_ = (([] : List (S34))) := ⟨_, rfl⟩
    replace H : (some y963) = some r := by first | (rw [hy963]; with_reducible exact H) | (have H2_ := (Option.bind_some _ _).symm.trans H; rw [hy963]; with_reducible exact H2_) | (have H2_ := (Option.bind_some _ _).symm.trans H; with_reducible exact H2_) | with_reducible exact H | (rw [hy963]; exact H) | exact H
    have Ny963 := Aside0.mk hy963; clear hy963; obtain rfl := Option.some.inj H
    go_enter Try.func53, Try.ntmps53
    go_wp2_with (first | ((with_reducible refine gate_dst (N := 2) rfl ?_); refine box_event ?hg (N := 2) ?hd (cs := #[.int .i64 a0_0, .slice A0_1 l0_1.length c0_1]) (t := 49) ?hr ?_; (case hd => rfl); (case hg => rfl); (case hr => first | (go_simp; done) | (go_simp; rfl)); intro gb956 hg w14 hbox hb; have n0_ := Aside0.mk (below_step (bz HB.out) hb); have n1_ := Aside0.mk (hbox); have n2_ := Aside0.mk ((by rw [hg]; exact (below_size (bz HB.out)) : w.heap.size ≤ gb956)); have n3_ := Aside0.mk ((by rw [hg]; exact (below_size (bz HB.out)) : w.heap.size ≤ gb956)); clear HB; have HB := n0_; have BK956 := n1_; have GW956 := n2_; have GE956 := n3_; clear n0_ n1_ n2_ n3_; clear hb hbox hg) | ((with_reducible refine gate_dst (N := 3) rfl ?_); refine box_event ?hg (N := 3) ?hd (cs := #[.int .i64 a1_0, .int .i64 a1_1, .int .i64 a1_2, .int .i64 a1_3]) (t := 32) ?hr ?_; (case hd => rfl); (case hg => rfl); (case hr => first | (go_simp; done) | (go_simp; rfl)); intro gb957 hg w15 hbox hb; have n0_ := Aside0.mk (blk_below (g := gb956) (o := .cells #[.int .i64 a0_0, .slice A0_1 l0_1.length c0_1] 49 (0, 0)) (kz BK956.out) hb); have n1_ := Aside0.mk (below_step (b1 GE956.out HB.out) hb); have n2_ := Aside0.mk (hbox); have n3_ := Aside0.mk ((by rw [hg]; exact (below_size (b1 GE956.out HB.out)) : w.heap.size ≤ gb957)); have n4_ := Aside0.mk ((by rw [hg]; exact (below_size (b1 GE956.out HB.out)) : w.heap.size ≤ gb957)); have n5_ := Aside0.mk ((by rw [hg]; exact Nat.ne_of_lt (blk_lt (g := gb956) (o := .cells #[.int .i64 a0_0, .slice A0_1 l0_1.length c0_1] 49 (0, 0)) (kz BK956.out)) : gb956 ≠ gb957)); have n6_ := Aside0.mk ((by rw [hg]; exact Nat.ne_of_gt (blk_lt (g := gb956) (o := .cells #[.int .i64 a0_0, .slice A0_1 l0_1.length c0_1] 49 (0, 0)) (kz BK956.out)) : gb957 ≠ gb956)); clear BK956; clear HB; have BK956 := n0_; have HB := n1_; have BK957 := n2_; have GW957 := n3_; have GE957 := n4_; have NB956_957 := n5_; have NB957_956 := n6_; clear n0_ n1_ n2_ n3_ n4_ n5_ n6_; clear hb hbox hg; have hnb16 := NB956_957.out; have hnc16 := NB957_956.out; have hcz17_0 := fz BK956.out 0 (.int .i64 a0_0); have hcz17_1 := fz BK956.out 1 (.slice A0_1 l0_1.length c0_1); have hfz17_0 := blk_frozen BK956.out 0; have hfz17_1 := blk_frozen BK956.out 1) | ((with_reducible refine gate_callee (f := 41) rfl ?_); refine goesL_ (some 8) rfl rfl Try.func41 (by kernel_rfl) rfl #[.agg #[.int .i64 a0_0, .slice A0_1 l0_1.length c0_1]] rfl dz ?_; (with_reducible refine (spec_BookOk.calls k a0_0 _ _ l0_1 false _ ?side1 ?side2 A3.out).mono ?_); (case side1 => exact sz HR0_1.out HB.out); (case side2 => exact HC0_1.out); rintro e w18 ⟨rfl, hb⟩; refine ⟨_, rfl, ?_⟩; have n0_ := Aside0.mk (blk_below (g := gb956) (o := .cells #[.int .i64 a0_0, .slice A0_1 l0_1.length c0_1] 49 (0, 0)) (kz BK956.out) hb); have n1_ := Aside0.mk (blk_below (g := gb957) (o := .cells #[.int .i64 a1_0, .int .i64 a1_1, .int .i64 a1_2, .int .i64 a1_3] 32 (0, 0)) (kz BK957.out) hb); have n2_ := Aside0.mk (below_step (b2 GE956.out GE957.out HB.out) hb); clear BK956; clear BK957; clear HB; have BK956 := n0_; have BK957 := n1_; have HB := n2_; clear n0_ n1_ n2_; (try clear hb); (try clear hb2); (try clear hk); (try clear hi)) | ((with_reducible refine gate_dst (N := 10) rfl ?_); refine Kd.R_lit k34 _ 34 ?hg (N := 10) ?hd (xs := ([] : List (S34))) (inner := []) (ok := fun _ => True) (okp := fun _ => True) ?hr ?hp (fun _ hk => hk) trivial (Below.refl _ _) (Nat.le_refl _) (by simp) ?_; (case hd => rfl); (case hg => rfl); (case hr => first | (go_simp; done) | (go_simp; rfl)); (case hp => exact (Reps.none _ _)); intro v964 w19 ho20 hb hg_ hnew_; clear hg_ hnew_; (first | rw [← Ny963.out] at ho20 | (simp only [Int.reduceToNat] at ho20; rw [← Ny963.out] at ho20)); have n0_ := Aside0.mk (Kd.R_lower ho20 (below_size (b2 GE956.out GE957.out HB.out))); have n1_ := Aside0.mk (blk_below (g := gb956) (o := .cells #[.int .i64 a0_0, .slice A0_1 l0_1.length c0_1] 49 (0, 0)) (kz BK956.out) hb); have n2_ := Aside0.mk (blk_below (g := gb957) (o := .cells #[.int .i64 a1_0, .int .i64 a1_1, .int .i64 a1_2, .int .i64 a1_3] 32 (0, 0)) (kz BK957.out) hb); have n3_ := Aside0.mk (below_step (b2 GE956.out GE957.out HB.out) hb); clear BK956; clear BK957; clear HB; have HO965 := n0_; have BK956 := n1_; have BK957 := n2_; have HB := n3_; clear n0_ n1_ n2_ n3_; clear hb ho20))
    go_ret; exact ⟨_, by first | rfl | (simp [errW_none, errW_some] <;> rfl) | (simp [*, errW_none, errW_some] <;> rfl), by (with_reducible repeat (first | apply Kd.R_alloc | apply Kd.R_drewN | apply Kd.R_drew)); exact HO965.out, b2 GE956.out GE957.out HB.out⟩

attribute [local go_sem] max2_int min2_int max_two min_two max_three min_three max_four min_four 
set_option linter.unusedVariables false
set_option linter.unusedSimpArgs false

/-! ### impl_Search: function 54 -/
def impl_Search.f (k : Nat) (a0_0 : Int) (l0_1 : List (S90)) (a1_0 : Int) (a1_1 : Int) (a1_2 : Int) (a1_3 : Int) : Option ((List (S34))) := (impl_search.f k a0_0 l0_1 a1_0 a1_1 a1_2 a1_3).bind fun bt968 => (some bt968.1)
theorem impl_Search.mono : ∀ a0 a1 a2 a3 a4 a5 k, LeO (impl_Search.f k a0 a1 a2 a3 a4 a5) (impl_Search.f (k + 1) a0 a1 a2 a3 a4 a5) := by
  intro a0 a1 a2 a3 a4 a5 k
  unfold impl_Search.f
  repeat' first | (with_reducible first | exact impl_search.mono _ _ _ _ _ _ _ | exact LeO.refl _ | exact LeO.none _ | refine LeO.ite ?_ ?_ | refine LeO.bind ?_ (fun _ => ?_)) | exact impl_search.mono _ _ _ _ _ _ _ | exact LeO.none _ | refine LeO.ite ?_ ?_ | refine LeO.bind ?_ (fun _ => ?_)
set_option maxHeartbeats 8000000 in
set_option maxRecDepth 100000 in
theorem impl_Search.calls (k : Nat) (a0_0 : Int) (A0_1 : Option Addr) (c0_1 : Nat) (l0_1 : List (S90)) (a1_0 : Int) (a1_1 : Int) (a1_2 : Int) (a1_3 : Int) (r : List (S34)) (w : World) (hr0_1 : Kd.C k90 w A0_1 l0_1.length l0_1) (hc0_1 : l0_1.length ≤ c0_1) (h : impl_Search.f k a0_0 l0_1 a1_0 a1_1 a1_2 a1_3 = some r) :
    Calls Try.prog 54 #[.agg #[.int .i64 a0_0, .slice A0_1 l0_1.length c0_1], .agg #[.int .i64 a1_0, .int .i64 a1_1, .int .i64 a1_2, .int .i64 a1_3]] w fun e w' => ∃ v0_ : Value, e = .returned (v0_) ∧ Kd.R k34 34 w' w.heap.size (fun _ => True) v0_ r ∧ Below w.heap.size w w' := by
  have hu49 := Try.underlying49; have hu32 := Try.underlying32; have HR0_1 := Aside0.mk hr0_1; have HC0_1 := Aside0.mk hc0_1; clear hr0_1 hc0_1; have HB := Aside0.mk (Below.refl w.heap.size w); have H : ((impl_search.f k a0_0 l0_1 a1_0 a1_1 a1_2 a1_3).bind fun bt968 => (some bt968.1)) = some r := h; clear h; replace H := Option.bind_eq_some_iff.mp H; obtain ⟨⟨t968, t971⟩, A30, H⟩ := H; replace H : (some t968) = some r := H; have A3 := Aside0.mk A30; clear A30; obtain rfl := Option.some.inj H
  go_enter Try.func54, Try.ntmps54
  go_wp2_with (first | ((with_reducible refine gate_dst (N := 2) rfl ?_); refine box_event ?hg (N := 2) ?hd (cs := #[.int .i64 a0_0, .slice A0_1 l0_1.length c0_1]) (t := 49) ?hr ?_; (case hd => rfl); (case hg => rfl); (case hr => first | (go_simp; done) | (go_simp; rfl)); intro gb966 hg w4 hbox hb; have n0_ := Aside0.mk (below_step (bz HB.out) hb); have n1_ := Aside0.mk (hbox); have n2_ := Aside0.mk ((by rw [hg]; exact (below_size (bz HB.out)) : w.heap.size ≤ gb966)); have n3_ := Aside0.mk ((by rw [hg]; exact (below_size (bz HB.out)) : w.heap.size ≤ gb966)); clear HB; have HB := n0_; have BK966 := n1_; have GW966 := n2_; have GE966 := n3_; clear n0_ n1_ n2_ n3_; clear hb hbox hg) | ((with_reducible refine gate_dst (N := 3) rfl ?_); refine box_event ?hg (N := 3) ?hd (cs := #[.int .i64 a1_0, .int .i64 a1_1, .int .i64 a1_2, .int .i64 a1_3]) (t := 32) ?hr ?_; (case hd => rfl); (case hg => rfl); (case hr => first | (go_simp; done) | (go_simp; rfl)); intro gb967 hg w5 hbox hb; have n0_ := Aside0.mk (blk_below (g := gb966) (o := .cells #[.int .i64 a0_0, .slice A0_1 l0_1.length c0_1] 49 (0, 0)) (kz BK966.out) hb); have n1_ := Aside0.mk (below_step (b1 GE966.out HB.out) hb); have n2_ := Aside0.mk (hbox); have n3_ := Aside0.mk ((by rw [hg]; exact (below_size (b1 GE966.out HB.out)) : w.heap.size ≤ gb967)); have n4_ := Aside0.mk ((by rw [hg]; exact (below_size (b1 GE966.out HB.out)) : w.heap.size ≤ gb967)); have n5_ := Aside0.mk ((by rw [hg]; exact Nat.ne_of_lt (blk_lt (g := gb966) (o := .cells #[.int .i64 a0_0, .slice A0_1 l0_1.length c0_1] 49 (0, 0)) (kz BK966.out)) : gb966 ≠ gb967)); have n6_ := Aside0.mk ((by rw [hg]; exact Nat.ne_of_gt (blk_lt (g := gb966) (o := .cells #[.int .i64 a0_0, .slice A0_1 l0_1.length c0_1] 49 (0, 0)) (kz BK966.out)) : gb967 ≠ gb966)); clear BK966; clear HB; have BK966 := n0_; have HB := n1_; have BK967 := n2_; have GW967 := n3_; have GE967 := n4_; have NB966_967 := n5_; have NB967_966 := n6_; clear n0_ n1_ n2_ n3_ n4_ n5_ n6_; clear hb hbox hg; have hnb6 := NB966_967.out; have hnc6 := NB967_966.out; have hcz7_0 := fz BK966.out 0 (.int .i64 a0_0); have hcz7_1 := fz BK966.out 1 (.slice A0_1 l0_1.length c0_1); have hfz7_0 := blk_frozen BK966.out 0; have hfz7_1 := blk_frozen BK966.out 1; have hcz8_0 := fz BK967.out 0 (.int .i64 a1_0); have hcz8_1 := fz BK967.out 1 (.int .i64 a1_1); have hcz8_2 := fz BK967.out 2 (.int .i64 a1_2); have hcz8_3 := fz BK967.out 3 (.int .i64 a1_3); have hfz8_0 := blk_frozen BK967.out 0; have hfz8_1 := blk_frozen BK967.out 1; have hfz8_2 := blk_frozen BK967.out 2; have hfz8_3 := blk_frozen BK967.out 3) | ((with_reducible refine gate_callee (f := 100) rfl ?_); refine goesL_ (some 10) rfl rfl Try.func100 (by kernel_rfl) rfl #[.agg #[.int .i64 a0_0, .slice A0_1 l0_1.length c0_1], .agg #[.int .i64 a1_0, .int .i64 a1_1, .int .i64 a1_2, .int .i64 a1_3]] rfl dz ?_; (with_reducible refine (impl_search.calls k a0_0 _ _ l0_1 a1_0 a1_1 a1_2 a1_3 t968 t971 _ ?side1 ?side2 A3.out).mono ?_); (case side1 => exact sz HR0_1.out HB.out); (case side2 => exact HC0_1.out); rintro e w9 ⟨v969, rfl, ho0, hb⟩; refine ⟨_, rfl, ?_⟩; have n0_ := Aside0.mk (Kd.R_lower ho0 (below_size (b2 GE966.out GE967.out HB.out))); have n1_ := Aside0.mk (blk_below (g := gb966) (o := .cells #[.int .i64 a0_0, .slice A0_1 l0_1.length c0_1] 49 (0, 0)) (kz BK966.out) hb); have n2_ := Aside0.mk (blk_below (g := gb967) (o := .cells #[.int .i64 a1_0, .int .i64 a1_1, .int .i64 a1_2, .int .i64 a1_3] 32 (0, 0)) (kz BK967.out) hb); have n3_ := Aside0.mk (below_step (b2 GE966.out GE967.out HB.out) hb); clear BK966; clear BK967; clear HB; have HO970 := n0_; have BK966 := n1_; have BK967 := n2_; have HB := n3_; clear n0_ n1_ n2_ n3_; (try clear hb); (try clear hb2); (try clear hk); (try clear hi); (try clear ho0)))
  go_ret; exact ⟨_, by first | rfl | (simp [errW_none, errW_some] <;> rfl) | (simp [*, errW_none, errW_some] <;> rfl), by (with_reducible repeat (first | apply Kd.R_alloc | apply Kd.R_drewN | apply Kd.R_drew)); exact HO970.out, b2 GE966.out GE967.out HB.out⟩

end Go.Proofs.Ytngjaajcdbodeaa.All

/- Plain law of search, the program's and the reference's: both gather the same items and count the same pages. No condition. -/
namespace Go.Proofs.Ytngjaajcdbodeaa.Pure
open Go.RowKit Go.Proofs.Ytngjaajcdbodeaa.All Go.Proofs.YtngjaajcdbodeaaW.PrintWords Go.Proofs.YtngjaajcdbodeaaW.PrintLast Go.Proofs.Ytngjaajcdbodeaa.Sq
set_option linter.unusedVariables false

/-- Two rectangles meet. -/
def mt (a0 a1 a2 a3 m0 m1 m2 m3 : Int) : Bool := bok a0 a1 a2 a3 && (bok m0 m1 m2 m3 && (decide (a0 ≤ m2) && (decide (m0 ≤ a2) && (decide (a1 ≤ m3) && decide (m1 ≤ a3)))))
theorem spec_mt (a0 a1 a2 a3 m0 m1 m2 m3 : Int) : spec_Meets.f a0 a1 a2 a3 m0 m1 m2 m3 = some (mt a0 a1 a2 a3 m0 m1 m2 m3) := by
  unfold spec_Meets.f mt
  simp only [spec_BoxOk_f, Option.bind_some]
  cases bok a0 a1 a2 a3 <;> cases bok m0 m1 m2 m3 <;> by_cases h1 : a0 ≤ m2 <;> by_cases h2 : m0 ≤ a2 <;> by_cases h3 : a1 ≤ m3 <;> simp [h1, h2, h3]
theorem impl_mt (a0 a1 a2 a3 m0 m1 m2 m3 : Int) : impl_Meets.f a0 a1 a2 a3 m0 m1 m2 m3 = some (mt a0 a1 a2 a3 m0 m1 m2 m3) := by
  unfold impl_Meets.f mt
  simp only [impl_BoxOk_f, Option.bind_some]
  cases bok a0 a1 a2 a3 <;> cases bok m0 m1 m2 m3 <;> by_cases h1 : a0 ≤ m2 <;> by_cases h2 : m0 ≤ a2 <;> by_cases h3 : a1 ≤ m3 <;> simp [h1, h2, h3]
/-- What is counted and found, one part after another. -/
def gath (f : En → Nat × List It) : List En → Nat × List It
  | [] => (0, [])
  | e :: t => ((f e).1 + (gath f t).1, (f e).2 ++ (gath f t).2)
theorem gath_le (f : En → Nat × List It) (P : Nat) (h : ∀ e, (f e).1 ≤ P ∧ (f e).2.length ≤ P) : ∀ l : List En, (gath f l).1 ≤ l.length * P ∧ (gath f l).2.length ≤ l.length * P
  | [] => ⟨Nat.zero_le _, Nat.zero_le _⟩
  | e :: t => by
    have h1 := h e; have h2 := gath_le f P h t; rw [List.length_cons, Nat.succ_mul, gath, List.length_append]; rw [Nat.add_comm (t.length * P)]; exact ⟨Nat.add_le_add h1.1 h2.1, Nat.add_le_add h1.2 h2.2⟩
section
variable (l : List Pg) (m0 m1 m2 m3 : Int)
/-- What is counted and found from a page on, n steps down at most. -/
def srT : Nat → Int → Nat × List It
  | 0, _ => (0, [])
  | n + 1, i => (1 + (gath (fun e => if mt e.f1.f0 e.f1.f1 e.f1.f2 e.f1.f3 m0 m1 m2 m3 = true then (if pgLeaf l i = true then (0, [itE e]) else srT n e.f0) else (0, [])) (pgL l i)).1,
      (gath (fun e => if mt e.f1.f0 e.f1.f1 e.f1.f2 e.f1.f3 m0 m1 m2 m3 = true then (if pgLeaf l i = true then (0, [itE e]) else srT n e.f0) else (0, [])) (pgL l i)).2)
def one (n : Nat) (lf : Bool) (e : En) : Nat × List It := if mt e.f1.f0 e.f1.f1 e.f1.f2 e.f1.f3 m0 m1 m2 m3 = true then (if lf = true then (0, [itE e]) else srT l m0 m1 m2 m3 n e.f0) else (0, [])
theorem srT_succ (n : Nat) (i : Int) : srT l m0 m1 m2 m3 (n + 1) i = (1 + (gath (one l m0 m1 m2 m3 n (pgLeaf l i)) (pgL l i)).1, (gath (one l m0 m1 m2 m3 n (pgLeaf l i)) (pgL l i)).2) := rfl
end
theorem one_le (l : List Pg) (m0 m1 m2 m3 : Int) (n P : Nat) (hP : 1 ≤ P) (lf : Bool) (h : ∀ i, (srT l m0 m1 m2 m3 n i).1 ≤ P ∧ (srT l m0 m1 m2 m3 n i).2.length ≤ P) (e : En) : (one l m0 m1 m2 m3 n lf e).1 ≤ P ∧ (one l m0 m1 m2 m3 n lf e).2.length ≤ P := by
  unfold one
  split
  · split
    · exact ⟨Nat.zero_le _, hP⟩
    · exact h _
  · exact ⟨Nat.zero_le _, Nat.zero_le _⟩
theorem cr1 {s z P : Nat} (hP : 1 ≤ P) (h2 : z ≤ 4 * P) (h1 : s ≤ z) : 1 + s ≤ P * 5 := by omega
theorem cr2 {s z P : Nat} (h2 : z ≤ 4 * P) (h1 : s ≤ z) : s ≤ P * 5 := by omega
/-- Entries of pages that are not there count for nothing; those of right pages are four at most. -/
theorem srT_le (l : List Pg) (m0 m1 m2 m3 : Int) (h4 : ∀ i, (pgL l i).length ≤ 4) : ∀ n i, (srT l m0 m1 m2 m3 n i).1 ≤ 5 ^ n ∧ (srT l m0 m1 m2 m3 n i).2.length ≤ 5 ^ n
  | 0, i => ⟨Nat.zero_le _, Nat.zero_le _⟩
  | n + 1, i => by
    have hP : 1 ≤ 5 ^ n := Nat.pow_pos (by omega); have h1 := gath_le (one l m0 m1 m2 m3 n (pgLeaf l i)) (5 ^ n) (one_le l m0 m1 m2 m3 n _ hP _ (srT_le l m0 m1 m2 m3 h4 n)) (pgL l i); have h2 := Nat.mul_le_mul_right (5 ^ n) (h4 i); rw [srT_succ, Nat.pow_succ]; exact ⟨cr1 hP h2 h1.1, cr2 h2 h1.2⟩
theorem five {n : Nat} (h : n ≤ 12) : 5 ^ n ≤ 244140625 := by
  have := Nat.pow_le_pow_right (n := 5) (by omega) h; exact this
/-- Right pages, and pages that are not there, name four at most. -/
theorem Right.all4 {l : List Pg} {a : Int} {r : List Int} (h : Right l a r) (i : Int) : (pgL l i).length ≤ 4 := by
  have key : ∀ p ∈ l, p.f1.f1.length ≤ 4 := by
    intro p hp
    have h1 := List.all_eq_true.1 h.pages _ hp; unfold pageOk at h1
    split at h1
    · unfold nodeOk sizeOk at h1
      rw [Bool.and_eq_true, Bool.and_eq_true] at h1; exact of_decide_eq_true h1.2.1
    · rw [Bool.and_eq_true] at h1
      have := of_decide_eq_true h1.2
      omega
  show (l.getD i.toNat z90).f1.f1.length ≤ 4
  rw [List.getD_eq_getElem?_getD]
  cases hg : l[i.toNat]? with
  | none => exact Nat.zero_le _
  | some p => exact key p (List.mem_of_getElem? hg)
theorem ar1 {o s x P : Nat} (h : o ≤ x * P) (hs : s ≤ P) : o + s ≤ (x + 1) * P := by
  rw [Nat.succ_mul]
  omega
theorem ar2 {c s x P : Nat} (h : c ≤ 1 + x * P) (hs : s ≤ P) : c + s ≤ 1 + (x + 1) * P := by
  rw [Nat.succ_mul]
  omega
theorem ar3 {o s x P : Nat} (h : o ≤ x * P) (hs : s ≤ P) (hx : x ≤ 4) (hP : P ≤ 244140625) : o + s < 3518437208883 := by
  have h1 : x * P ≤ 4 * P := Nat.mul_le_mul_right P hx
  omega
theorem ar4 {c s x P : Nat} (h : c ≤ 1 + x * P) (hs : s ≤ P) (hx : x ≤ 4) (hP : P ≤ 244140625) : wrap64 ((c : Int) + (s : Int)) = ((c + s : Nat) : Int) := by
  have h1 : x * P ≤ 4 * P := Nat.mul_le_mul_right P hx; rw [wrap_small (by omega) (by omega)]
  omega
theorem lenS {α : Type} (o s : List α) (n : Nat) (h : o.length + s.length ≤ n) : (o ++ s).length ≤ n := by rw [List.length_append]; exact h
theorem rdEnS (es : List En) (x : Nat) (h : x < es.length) : rd_T103 es (x : Int) = es[x] := by
  show es.getD x z103 = _
  rw [List.getD_eq_getElem?_getD, List.getElem?_eq_getElem h]
  rfl
abbrev mtE (m0 m1 m2 m3 : Int) (e : En) : Bool := mt e.f1.f0 e.f1.f1 e.f1.f2 e.f1.f3 m0 m1 m2 m3
theorem i1 {x n : Nat} (h : x < n) : (x : Int) < (n : Int) := by omega
theorem i2 {x n : Nat} (h : n ≤ x) : ¬ (x : Int) < (n : Int) := by omega
theorem i3 (x : Nat) : (0 : Int) ≤ (x : Int) := by omega
theorem i4 {x n : Nat} (h : x < n) (h4 : n ≤ 4) : wrap64 ((x : Int) + 1) = ((x + 1 : Nat) : Int) := wrapI (by omega)
theorem spec_key (a : Int) (l : List Pg) (m0 m1 m2 m3 deep : Int) (lf : Bool) (es : List En) (f : En → Nat × List It) (P : Nat) (hP : 1 ≤ P) (h4 : es.length ≤ 4) (hPs : P ≤ 244140625) (hle : ∀ e, (f e).1 ≤ P ∧ (f e).2.length ≤ P) (hwD : wrap64 (deep + 1) = deep + 1)
    (hf1 : ∀ e ∈ es, mtE m0 m1 m2 m3 e = true → lf = true → f e = (0, [itE e])) (hf0 : ∀ e ∈ es, ¬ mtE m0 m1 m2 m3 e = true → f e = (0, []))
    (hrec : ∀ e ∈ es, mtE m0 m1 m2 m3 e = true → ¬ lf = true → Evn (fun k => spec_l8Search.f k a l e.f0 m0 m1 m2 m3 (deep + 1)) ((f e).2, ((f e).1 : Int))) :
    ∀ d x : Nat, x + d = es.length → ∀ (out : List It) (cnt : Nat), out.length ≤ x * P → cnt ≤ 1 + x * P → Evn (fun k => spec_l8Search.l0 k deep out (cnt : Int) (x : Int) a l m0 m1 m2 m3 lf es) (out ++ (gath f (es.drop x)).2, ((cnt + (gath f (es.drop x)).1 : Nat) : Int)) := by
  intro d
  induction d with
  | zero =>
    intro x hx out cnt ho2 hc2
    have hge : es.length ≤ x := Nat.le_of_eq hx.symm; rw [List.drop_eq_nil_of_le hge]; refine Evn.step (fun k => by rw [spec_l8Search.l0, if_neg (i2 hge)]) ?_; rw [gath, List.append_nil]; exact Evn.ret _
  | succ d ihd =>
    intro x hx out cnt ho2 hc2
    have hxl : x < es.length := by clear ihd hle hf1 hf0 hrec; omega
    have hx4 : x ≤ 4 := Nat.le_trans (Nat.le_of_lt hxl) h4
    have hx1 : x + 1 + d = es.length := by clear ihd hle hf1 hf0 hrec; omega
    refine Evn.step (fun k => by rw [spec_l8Search.l0, if_pos (i1 hxl), if_pos (i3 x), rdEnS es x hxl, i4 hxl h4, hwD, spec_mt, Option.bind_some]) ?_; have ih := ihd (x + 1) hx1; have hle1 := hle es[x]; have hf1 := hf1 _ (List.getElem_mem hxl); have hf0 := hf0 _ (List.getElem_mem hxl); have hrec := hrec _ (List.getElem_mem hxl); rw [List.drop_eq_getElem_cons hxl, gath]
    generalize gath f (es.drop (x + 1)) = g at ih
    generalize es[x] = e at hle1 hf1 hf0 hrec
    clear ihd hle; obtain ⟨gc, gl⟩ := g
    by_cases ht : mtE m0 m1 m2 m3 e = true
    · refine Evn.pos ht ?_
      by_cases hf : lf = true
      · rw [hf1 ht hf] at hle1 ⊢
        refine Evn.pos hf (Evn.pos (ar3 (s := 0) ho2 (Nat.zero_le _) hx4 hPs) ?_); have := ih (out ++ [itE e]) cnt (lenS _ _ _ (ar1 ho2 hle1.2)) (ar2 (s := 0) hc2 (Nat.zero_le _)); rw [List.append_assoc] at this
        dsimp only
        rw [Nat.zero_add]; exact this
      · refine Evn.neg hf (Evn.bind (hrec ht hf) ?_)
        generalize f e = s at hle1
        obtain ⟨sc, sl⟩ := s
        dsimp only at hle1 ⊢
        refine Evn.pos (ar3 ho2 hle1.2 hx4 hPs) ?_; rw [ar4 hc2 hle1.1 hx4 hPs]; have := ih (out ++ sl) (cnt + sc) (lenS _ _ _ (ar1 ho2 hle1.2)) (ar2 hc2 hle1.1); rw [List.append_assoc, Nat.add_assoc] at this; exact this
    · refine Evn.neg ht ?_
      rw [hf0 ht]; have := ih out cnt (ar1 (s := 0) ho2 (Nat.zero_le _)) (ar2 (s := 0) hc2 (Nat.zero_le _))
      dsimp only
      rw [List.nil_append, Nat.zero_add]; exact this
theorem d13 {deep : Int} {n : Nat} (hd : deep + (n + 1 : Nat) = 13) (h1 : 1 ≤ deep) : ¬ deep > 12 ∧ wrap64 (deep + 1) = deep + 1 ∧ deep + 1 + (n : Nat) = 13 ∧ 1 ≤ deep + 1 ∧ n ≤ 12 := by
  refine ⟨by omega, wrap_small (by omega) (by omega), by omega, by omega, by omega⟩
theorem inL {i : Int} {n : Nat} (h0 : 0 ≤ i) (h1 : i < n) (hn : n ≤ 48) : decide (0 ≤ i ∧ i ≤ wrap64 ((n : Int) - 1)) = true := by
  rw [wrap_small (by omega) (by omega)]; exact decide_eq_true (by omega)
theorem one_leaf (l : List Pg) (m0 m1 m2 m3 : Int) (n : Nat) (lf : Bool) (e : En) (ht : mtE m0 m1 m2 m3 e = true) (hf : lf = true) : one l m0 m1 m2 m3 n lf e = (0, [itE e]) := by
  unfold one; rw [if_pos ht, if_pos hf]
theorem one_in (l : List Pg) (m0 m1 m2 m3 : Int) (n : Nat) (lf : Bool) (e : En) (ht : mtE m0 m1 m2 m3 e = true) (hf : ¬ lf = true) : one l m0 m1 m2 m3 n lf e = srT l m0 m1 m2 m3 n e.f0 := by
  unfold one; rw [if_pos ht, if_neg hf]
theorem one_out (l : List Pg) (m0 m1 m2 m3 : Int) (n : Nat) (lf : Bool) (e : En) (ht : ¬ mtE m0 m1 m2 m3 e = true) : one l m0 m1 m2 m3 n lf e = (0, []) := by
  unfold one; rw [if_neg ht]
theorem Right.ent {l : List Pg} {a : Int} {r : List Int} (h : Right l a r) (hr : Reached l a r) {i : Int} (hi : i ∈ r) (hf : ¬ pgLeaf l i = true) {e : En} (he : e ∈ pgL l i) : e.f0 ∈ r := by
  refine h.kid hr hi ?_; rw [kids_inner (by simpa using hf)]; exact List.mem_map.2 ⟨_, he, rfl⟩
theorem spec_sr {l : List Pg} {a : Int} {r : List Int} (h : Right l a r) (hr : Reached l a r) (m0 m1 m2 m3 : Int) : ∀ (n : Nat) (i deep : Int), i ∈ r → deep + n = 13 → 1 ≤ deep → Evn (fun k => spec_l8Search.f k a l i m0 m1 m2 m3 deep) ((srT l m0 m1 m2 m3 n i).2, ((srT l m0 m1 m2 m3 n i).1 : Int)) := by
  intro n
  induction n with
  | zero =>
    intro i deep hi hd h1
    have hd' : deep > 12 := by omega
    exact Evn.step (fun k => by rw [spec_l8Search.f, Option.bind_some, if_pos hd']) (Evn.step (fun k => by rw [spec_l8Search.j0, if_pos rfl]; rfl) (Evn.ret _))
  | succ n ih =>
    intro i deep hi hd h1
    obtain ⟨e1, e2, e3, e4, e5⟩ := d13 hd h1; have ho := hr.once.2 i hi; refine Evn.step (fun k => by rw [spec_l8Search.f, Option.bind_some, if_neg e1]) ?_; refine Evn.bind (Evn.const fun _ => spec_l1In_f _ _ _) ?_; rw [inL ho.1 ho.2.1 h.len.2]; refine Evn.pos rfl (Evn.pos ho.1 (Evn.pos ho.2.1 ?_)); rw [ho.2.2]; refine Evn.step (fun k => by rw [spec_l8Search.j0, if_neg (by decide), if_pos ho.1, if_pos ho.2.1]) ?_
    have key := spec_key a l m0 m1 m2 m3 deep (pgLeaf l i) (pgL l i) (one l m0 m1 m2 m3 n (pgLeaf l i)) (5 ^ n) (Nat.pow_pos (by decide)) (h.len4 ho) (five e5) (one_le l m0 m1 m2 m3 n _ (Nat.pow_pos (by decide)) _ (srT_le l m0 m1 m2 m3 h.all4 n)) e2
      (fun e _ ht hf => one_leaf l m0 m1 m2 m3 n _ e ht hf) (fun e _ ht => one_out l m0 m1 m2 m3 n _ e ht)
      (fun e he ht hf => by rw [one_in l m0 m1 m2 m3 n _ e ht hf]; exact ih _ (deep + 1) (h.ent hr hi hf he) e3 e4) _ 0 (Nat.zero_add _) [] 1 (Nat.zero_le _) (Nat.le_add_right _ _)
    rw [List.drop_zero, List.nil_append] at key; rw [srT_succ]; exact key
theorem br1 {c s d P M : Nat} (h : c + (d + 1) * P ≤ M) (hs : s ≤ P) : c + s + d * P ≤ M := by
  rw [Nat.succ_mul] at h
  omega
theorem br2 {c d P : Nat} (h : c + (d + 1) * P ≤ 1099511627776) : c + P ≤ 1099511627776 ∧ c < 3518437208883 := by
  rw [Nat.succ_mul] at h
  generalize d * P = z at h
  omega
theorem br3 {c n P : Nat} (h : c + P * 5 ≤ 1099511627776) (hP : 1 ≤ P) (h4 : n ≤ 4) : c + 1 + n * P ≤ 1099511627776 ∧ c + n * P ≤ 1099511627776 := by
  have h1 : n * P ≤ 4 * P := Nat.mul_le_mul_right P h4
  generalize n * P = z at h1 ⊢
  omega
theorem br4 {c P : Nat} (h : c + P * 5 ≤ 1099511627776) : wrap64 ((c : Int) + 1) = ((c + 1 : Nat) : Int) := wrapI (by omega)
theorem impl_key (l : List Pg) (m0 m1 m2 m3 deep : Int) (lf : Bool) (es : List En) (f : En → Nat × List It) (P : Nat) (hP : 1 ≤ P) (h4 : es.length ≤ 4) (hle : ∀ e, (f e).1 ≤ P ∧ (f e).2.length ≤ P) (hwD : wrap64 (deep + 1) = deep + 1)
    (hf1 : ∀ e ∈ es, mtE m0 m1 m2 m3 e = true → lf = true → f e = (0, [itE e])) (hf0 : ∀ e ∈ es, ¬ mtE m0 m1 m2 m3 e = true → f e = (0, []))
    (hrec : ∀ e ∈ es, mtE m0 m1 m2 m3 e = true → ¬ lf = true → ∀ (cnt : Nat) (out : List It), cnt + P ≤ 1099511627776 → out.length + P ≤ 1099511627776 → Evn (fun k => srM k l m0 m1 m2 m3 e.f0 (deep + 1) (cnt : Int) out) (((cnt + (f e).1 : Nat) : Int), out ++ (f e).2)) :
    ∀ d x : Nat, x + d = es.length → ∀ (out : List It) (cnt : Nat), cnt + d * P ≤ 1099511627776 → out.length + d * P ≤ 1099511627776 → Evn (fun k => srL k l m0 m1 m2 m3 lf es deep (cnt : Int) out (x : Int)) (((cnt + (gath f (es.drop x)).1 : Nat) : Int), out ++ (gath f (es.drop x)).2) := by
  intro d
  induction d with
  | zero =>
    intro x hx out cnt hc2 ho2
    have hge : es.length ≤ x := Nat.le_of_eq hx.symm; rw [List.drop_eq_nil_of_le hge]; refine Evn.step (fun k => by rw [srL, if_neg (i2 hge)]) ?_; rw [gath, List.append_nil]; exact Evn.ret _
  | succ d ihd =>
    intro x hx out cnt hc2 ho2
    have hxl : x < es.length := by clear ihd hle hf1 hf0 hrec hc2 ho2; omega
    have hx1 : x + 1 + d = es.length := by clear ihd hle hf1 hf0 hrec hc2 ho2; omega
    refine Evn.step (fun k => by rw [srL, if_pos (i1 hxl), if_pos (i3 x), rdEnS es x hxl, i4 hxl h4, hwD, impl_mt, Option.bind_some]) ?_; have ih := ihd (x + 1) hx1; have hle1 := hle es[x]; have hf1 := hf1 _ (List.getElem_mem hxl); have hf0 := hf0 _ (List.getElem_mem hxl); have hrec := hrec _ (List.getElem_mem hxl); rw [List.drop_eq_getElem_cons hxl, gath]
    generalize gath f (es.drop (x + 1)) = g at ih
    generalize es[x] = e at hle1 hf1 hf0 hrec
    clear ihd hle; obtain ⟨gc, gl⟩ := g
    by_cases ht : mtE m0 m1 m2 m3 e = true
    · refine Evn.pos ht ?_
      by_cases hf : lf = true
      · rw [hf1 ht hf] at hle1 ⊢
        refine Evn.pos hf (Evn.pos (br2 ho2).2 ?_); have := ih (out ++ [itE e]) cnt (br1 (s := 0) hc2 (Nat.zero_le _)) (by rw [List.length_append]; exact br1 ho2 hle1.2); rw [List.append_assoc] at this
        dsimp only
        rw [Nat.zero_add]; exact this
      · refine Evn.neg hf (Evn.bind (hrec ht hf cnt out (br2 hc2).1 (br2 ho2).1) ?_)
        generalize f e = s at hle1
        obtain ⟨sc, sl⟩ := s
        dsimp only at hle1 ⊢
        have := ih (out ++ sl) (cnt + sc) (br1 hc2 hle1.1) (by rw [List.length_append]; exact br1 ho2 hle1.2); rw [List.append_assoc, Nat.add_assoc] at this; exact this
    · refine Evn.neg ht ?_
      rw [hf0 ht]; have := ih out cnt (br1 (s := 0) hc2 (Nat.zero_le _)) (br1 (s := 0) ho2 (Nat.zero_le _))
      dsimp only
      rw [List.nil_append, Nat.zero_add]; exact this
theorem impl_sr {l : List Pg} {a : Int} {r : List Int} (h : Right l a r) (hr : Reached l a r) (m0 m1 m2 m3 : Int) : ∀ (n : Nat) (i deep : Int), i ∈ r → deep + n = 13 → 1 ≤ deep → ∀ (cnt : Nat) (out : List It), cnt + 5 ^ n ≤ 1099511627776 → out.length + 5 ^ n ≤ 1099511627776 →
      Evn (fun k => srM k l m0 m1 m2 m3 i deep (cnt : Int) out) (((cnt + (srT l m0 m1 m2 m3 n i).1 : Nat) : Int), out ++ (srT l m0 m1 m2 m3 n i).2) := by
  intro n
  induction n with
  | zero =>
    intro i deep hi hd h1 cnt out hc ho2
    have hd' : deep > 12 := by clear hc ho2; omega
    refine Evn.step (fun k => by rw [srM, if_pos hd']) ?_; rw [srT, List.append_nil]; exact Evn.ret _
  | succ n ih =>
    intro i deep hi hd h1 cnt out hc ho2
    rw [Nat.pow_succ] at hc ho2; obtain ⟨e1, e2, e3, e4, e5⟩ := d13 hd h1; have ho := hr.once.2 i hi; have hP : 1 ≤ 5 ^ n := Nat.pow_pos (by decide); refine Evn.step (fun k => by rw [srM, if_neg e1, if_pos ho.1, if_pos ho.2.1, br4 hc]) ?_
    have key := impl_key l m0 m1 m2 m3 deep (pgLeaf l i) (pgL l i) (one l m0 m1 m2 m3 n (pgLeaf l i)) (5 ^ n) hP (h.len4 ho) (one_le l m0 m1 m2 m3 n _ hP _ (srT_le l m0 m1 m2 m3 h.all4 n)) e2
      (fun e _ ht hf => one_leaf l m0 m1 m2 m3 n _ e ht hf) (fun e _ ht => one_out l m0 m1 m2 m3 n _ e ht)
      (fun e he ht hf cnt out hc ho2 => by rw [one_in l m0 m1 m2 m3 n _ e ht hf]; exact ih _ (deep + 1) (h.ent hr hi hf he) e3 e4 cnt out hc ho2) _ 0 (Nat.zero_add _) out (cnt + 1) (br3 hc hP (h.len4 ho)).1 (br3 ho2 hP (h.len4 ho)).2
    rw [List.drop_zero, Nat.add_assoc] at key; rw [srT_succ]; exact key
theorem search_both (a : Int) (l : List Pg) (m0 m1 m2 m3 : Int) (hl : l.length ≤ 1048576) (hp : ∀ p ∈ l, p.f1.f1.length ≤ 1048576) : ∃ (q : List It) (n : Int), q.length ≤ 1099511627776 ∧ Evn (fun k => spec_Search.f k a l m0 m1 m2 m3) q ∧ Evn (fun k => impl_Search.f k a l m0 m1 m2 m3) q ∧ Evn (fun k => spec_Visited.f k a l m0 m1 m2 m3) n ∧ Evn (fun k => impl_Visited.f k a l m0 m1 m2 m3) n := by
  obtain ⟨r, hw, hr⟩ := reached l hl hp a; have h1 := spec_bookOk a l r hl hp hw hr; have h2 := impl_bookOk a l r hl hp hw hr
  by_cases h : Right l a r
  · rw [decide_eq_true h] at h1 h2
    have har := hr.root_mem h.root; have h12 := five (n := 12) (Nat.le_refl _); have hle := srT_le l m0 m1 m2 m3 h.all4 12 a; have hs := spec_sr h hr m0 m1 m2 m3 12 a 1 har (by decide) (by decide); have hi := impl_sr h hr m0 m1 m2 m3 12 a 1 har (by decide) (by decide) 0 [] (by decide) (by decide); rw [Nat.zero_add, List.nil_append] at hi
    have hi2 : Evn (fun k => impl_search.f k a l m0 m1 m2 m3) ((srT l m0 m1 m2 m3 12 a).2, ((srT l m0 m1 m2 m3 12 a).1 : Int)) := by
      unfold impl_search.f; exact Evn.bind h2 (Evn.pos rfl (Evn.bind hi (Evn.ret _)))
    refine ⟨(srT l m0 m1 m2 m3 12 a).2, ((srT l m0 m1 m2 m3 12 a).1 : Int), Nat.le_trans hle.2 (by decide), ?_, ?_, ?_, ?_⟩
    · unfold spec_Search.f
      exact Evn.bind h1 (Evn.pos rfl (Evn.bind hs (Evn.ret _)))
    · unfold impl_Search.f
      exact Evn.bind hi2 (Evn.ret _)
    · unfold spec_Visited.f
      exact Evn.bind h1 (Evn.pos rfl (Evn.bind hs (Evn.ret _)))
    · unfold impl_Visited.f
      exact Evn.bind hi2 (Evn.ret _)
  · rw [decide_eq_false h] at h1 h2
    have hi2 : Evn (fun k => impl_search.f k a l m0 m1 m2 m3) (([] : List It), (0 : Int)) := by
      unfold impl_search.f; exact Evn.bind h2 (Evn.neg (by decide) (Evn.ret _))
    refine ⟨[], 0, by simp, ?_, ?_, ?_, ?_⟩
    · exact Evn.bind h1 (Evn.neg (by decide) (Evn.ret _))
    · unfold impl_Search.f
      exact Evn.bind hi2 (Evn.ret _)
    · exact Evn.bind h1 (Evn.neg (by decide) (Evn.ret _))
    · unfold impl_Visited.f
      exact Evn.bind hi2 (Evn.ret _)

end Go.Proofs.Ytngjaajcdbodeaa.Pure

/- The program's Visited returns what the reference's returns, for all arguments. No condition. -/
namespace Go.Proofs.Ytngjaajcdbodeaa.Pure
open Go.RowKit Go.Proofs.Ytngjaajcdbodeaa.All Go.Proofs.Ytngjaajcdbodeaa.Op Go.Proofs.Ytngjaajcdbodeaa.Sq
set_option linter.unusedVariables false

theorem FnExactVisited (y0 : Int × List LPg) (y1 : LBx) (hg0 : good41 y0) (hg1 : good24 y1) : ∃ k, laws_FnExactVisited.f k y0.1 y0.2 y1.f0 y1.f1 y1.f2 y1.f3 = some true := by
  obtain ⟨a, l⟩ := y0; have hg : l.length ≤ 9223372036854775807 ∧ ∀ p ∈ l, p.f1.f1.length ≤ 9223372036854775807 := ⟨hg0.2.1, fun p hp => (hg0.2.2 p hp).2.2.1⟩
  apply Evn.some_k
  unfold laws_FnExactVisited.f; refine Evn.bind (szBook_f a l 1048576 (by omega) hg.1 hg.2) ?_
  by_cases h : (1048576 : Int) < l.length + heap l
  · rw [if_pos h]
    exact Evn.ret _
  · rw [if_neg h]
    refine Evn.neg (by omega) ?_; have hs : Small l := Small.of l (by omega); have hm := hs.made; obtain ⟨q, r, _, _, _, h1, h2⟩ := search_both a (l.map toPg) y1.f0 y1.f1 y1.f2 y1.f3 hm.1 hm.2; have hX : Evn (fun _ => laws_toBox.f y1.f0 y1.f1 y1.f2 y1.f3) (y1.f0, y1.f1, y1.f2, y1.f3) := Evn.ret _; refine Evn.bind (toBook_f a l hs.len hs.ent) (Evn.bind hX (Evn.bind h1 (Evn.bind (toBook_f a l hs.len hs.ent) (Evn.bind hX (Evn.bind h2 (Evn.pos rfl ?_)))))); exact Evn.bind (toBook_f a l hs.len hs.ent) (Evn.bind (eqBook_same a _ (big_of hm.1) fun p hp => big_of (hm.2 p hp)) (Evn.ret _))

end Go.Proofs.Ytngjaajcdbodeaa.Pure
