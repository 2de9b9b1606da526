/- The texts on which the row FnExactVisited rests, part 2: contracts of the functions that it reaches and plain laws of what they compute. No condition. -/
import Derived.Test.YtngjaajcdbodeaaMgFnExactVisited1
namespace Go.Proofs.Ytngjaajcdbodeaa.All
open Go.RowKit Go.Proofs.YtngjaajcdbodeaaW.PrintWords Go.Proofs.YtngjaajcdbodeaaW.PrintLast Go.Proofs.YtngjaajcdbodeaaW.PrintMore Go.Proofs.Ytngjaajcdbodeaa.Sq
attribute [local go_sem] max2_int min2_int max_two min_two max_three min_three max_four min_four 
set_option linter.unusedVariables false
set_option linter.unusedSimpArgs false

/-! ### laws_eqBook: function 29 -/
def laws_eqBook.f (k : Nat) (a0_0 : Int) (l0_1 : List (S90)) (a1_0 : Int) (l1_1 : List (S90)) : Option (Bool) := if a0_0 = a1_0 then ((laws_eqPageS.f k l0_1 l1_1).bind fun t373 => (if t373 = true then (some true) else (some false))) else (some false)
theorem laws_eqBook.mono : ∀ a0 a1 a2 a3 k, LeO (laws_eqBook.f k a0 a1 a2 a3) (laws_eqBook.f (k + 1) a0 a1 a2 a3) := by
  intro a0 a1 a2 a3 k
  unfold laws_eqBook.f
  repeat' first | (with_reducible first | exact laws_eqPageS.mono _ _ _ | exact LeO.refl _ | exact LeO.none _ | refine LeO.ite ?_ ?_ | refine LeO.bind ?_ (fun _ => ?_)) | exact laws_eqPageS.mono _ _ _ | exact LeO.none _ | refine LeO.ite ?_ ?_ | refine LeO.bind ?_ (fun _ => ?_)
set_option maxHeartbeats 8000000 in
set_option maxRecDepth 100000 in
theorem laws_eqBook.calls (k : Nat) (a0_0 : Int) (A0_1 : Option Addr) (c0_1 : Nat) (l0_1 : List (S90)) (a1_0 : Int) (A1_1 : Option Addr) (c1_1 : Nat) (l1_1 : List (S90)) (r : Bool) (w : World) (hr0_1 : Kd.C k90 w A0_1 l0_1.length l0_1) (hc0_1 : l0_1.length ≤ c0_1) (hr1_1 : Kd.C k90 w A1_1 l1_1.length l1_1) (hc1_1 : l1_1.length ≤ c1_1) (h : laws_eqBook.f k a0_0 l0_1 a1_0 l1_1 = some r) :
    Calls Try.prog 29 #[.agg #[.int .i64 a0_0, .slice A0_1 l0_1.length c0_1], .agg #[.int .i64 a1_0, .slice A1_1 l1_1.length c1_1]] w fun e w' => e = .returned (.bool r) ∧ Below w.heap.size w w' := by
  have hu49 := Try.underlying49; have HR0_1 := Aside0.mk hr0_1; have HC0_1 := Aside0.mk hc0_1; clear hr0_1 hc0_1; have HR1_1 := Aside0.mk hr1_1; have HC1_1 := Aside0.mk hc1_1; clear hr1_1 hc1_1; have HB := Aside0.mk (Below.refl w.heap.size w); have H : (if a0_0 = a1_0 then ((laws_eqPageS.f k l0_1 l1_1).bind fun t373 => (if t373 = true then (some true) else (some false))) else (some false)) = some r := h; clear h
  by_cases c3 : a0_0 = a1_0
  · rw [if_pos c3] at H
    have c3b0 : (a0_0 == a1_0) = true := beq_iff_eq.mpr c3; have c3b1 : (a0_0 != a1_0) = false := bne_eq_false_iff_eq.mpr c3; clear c3; replace H := Option.bind_eq_some_iff.mp H; obtain ⟨t373, A40, H⟩ := H; replace H : (if t373 = true then (some true) else (some false)) = some r := H; have A4 := Aside0.mk A40; clear A40
    by_cases c5 : t373 = true
    · subst c5
      replace H : (some true) = some r := (by rw [if_pos rfl] at H; exact H); obtain rfl := Option.some.inj H
      go_enter Try.func29, Try.ntmps29
      go_wp2_with (first | ((with_reducible refine gate_dst (N := 2) rfl ?_); refine box_event ?hg (N := 2) ?hd (cs := #[.int .i64 a0_0, .slice A0_1 l0_1.length c0_1]) (t := 49) ?hr ?_; (case hd => rfl); (case hg => rfl); (case hr => first | (go_simp; done) | (go_simp; rfl)); intro gb371 hg w6 hbox hb; have n0_ := Aside0.mk (below_step (bz HB.out) hb); have n1_ := Aside0.mk (hbox); have n2_ := Aside0.mk ((by rw [hg]; exact (below_size (bz HB.out)) : w.heap.size ≤ gb371)); have n3_ := Aside0.mk ((by rw [hg]; exact (below_size (bz HB.out)) : w.heap.size ≤ gb371)); clear HB; have HB := n0_; have BK371 := n1_; have GW371 := n2_; have GE371 := n3_; clear n0_ n1_ n2_ n3_; clear hb hbox hg) | ((with_reducible refine gate_dst (N := 3) rfl ?_); refine box_event ?hg (N := 3) ?hd (cs := #[.int .i64 a1_0, .slice A1_1 l1_1.length c1_1]) (t := 49) ?hr ?_; (case hd => rfl); (case hg => rfl); (case hr => first | (go_simp; done) | (go_simp; rfl)); intro gb372 hg w7 hbox hb; have n0_ := Aside0.mk (blk_below (g := gb371) (o := .cells #[.int .i64 a0_0, .slice A0_1 l0_1.length c0_1] 49 (0, 0)) (kz BK371.out) hb); have n1_ := Aside0.mk (below_step (b1 GE371.out HB.out) hb); have n2_ := Aside0.mk (hbox); have n3_ := Aside0.mk ((by rw [hg]; exact (below_size (b1 GE371.out HB.out)) : w.heap.size ≤ gb372)); have n4_ := Aside0.mk ((by rw [hg]; exact (below_size (b1 GE371.out HB.out)) : w.heap.size ≤ gb372)); have n5_ := Aside0.mk ((by rw [hg]; exact Nat.ne_of_lt (blk_lt (g := gb371) (o := .cells #[.int .i64 a0_0, .slice A0_1 l0_1.length c0_1] 49 (0, 0)) (kz BK371.out)) : gb371 ≠ gb372)); have n6_ := Aside0.mk ((by rw [hg]; exact Nat.ne_of_gt (blk_lt (g := gb371) (o := .cells #[.int .i64 a0_0, .slice A0_1 l0_1.length c0_1] 49 (0, 0)) (kz BK371.out)) : gb372 ≠ gb371)); clear BK371; clear HB; have BK371 := n0_; have HB := n1_; have BK372 := n2_; have GW372 := n3_; have GE372 := n4_; have NB371_372 := n5_; have NB372_371 := n6_; clear n0_ n1_ n2_ n3_ n4_ n5_ n6_; clear hb hbox hg; have hnb8 := NB371_372.out; have hnc8 := NB372_371.out; have hcz9_0 := fz BK371.out 0 (.int .i64 a0_0); have hcz9_1 := fz BK371.out 1 (.slice A0_1 l0_1.length c0_1); have hfz9_0 := blk_frozen BK371.out 0; have hfz9_1 := blk_frozen BK371.out 1; have hcz10_0 := fz BK372.out 0 (.int .i64 a1_0); have hcz10_1 := fz BK372.out 1 (.slice A1_1 l1_1.length c1_1); have hfz10_0 := blk_frozen BK372.out 0; have hfz10_1 := blk_frozen BK372.out 1) | ((with_reducible refine gate_callee (f := 79) rfl ?_); refine goesL_ (some 14) rfl rfl Try.func79 (by kernel_rfl) rfl #[.slice A0_1 l0_1.length c0_1, .slice A1_1 l1_1.length c1_1] rfl dz ?_; (with_reducible refine (laws_eqPageS.calls k _ _ l0_1 _ _ l1_1 true _ ?side1 ?side2 ?side3 ?side4 A4.out).mono ?_); (case side1 => exact sz HR0_1.out HB.out); (case side2 => exact HC0_1.out); (case side3 => exact sz HR1_1.out HB.out); (case side4 => exact HC1_1.out); rintro e w11 ⟨rfl, hb⟩; refine ⟨_, rfl, ?_⟩; have n0_ := Aside0.mk (blk_below (g := gb371) (o := .cells #[.int .i64 a0_0, .slice A0_1 l0_1.length c0_1] 49 (0, 0)) (kz BK371.out) hb); have n1_ := Aside0.mk (blk_below (g := gb372) (o := .cells #[.int .i64 a1_0, .slice A1_1 l1_1.length c1_1] 49 (0, 0)) (kz BK372.out) hb); have n2_ := Aside0.mk (below_step (b2 GE371.out GE372.out HB.out) hb); clear BK371; clear BK372; clear HB; have BK371 := n0_; have BK372 := n1_; have HB := n2_; clear n0_ n1_ n2_; (try clear hb); (try clear hb2); (try clear hk); (try clear hi)))
      go_ret; exact ⟨ez, b2 GE371.out GE372.out HB.out⟩
    · replace c5 := Bool.eq_false_iff.mpr c5
      subst c5; replace H : (some false) = some r := (by rw [if_neg (show ¬ (false = true) by decide)] at H; exact H); obtain rfl := Option.some.inj H
      go_enter Try.func29, Try.ntmps29
      go_wp2_with (first | ((with_reducible refine gate_dst (N := 2) rfl ?_); refine box_event ?hg (N := 2) ?hd (cs := #[.int .i64 a0_0, .slice A0_1 l0_1.length c0_1]) (t := 49) ?hr ?_; (case hd => rfl); (case hg => rfl); (case hr => first | (go_simp; done) | (go_simp; rfl)); intro gb371 hg w12 hbox hb; have n0_ := Aside0.mk (below_step (bz HB.out) hb); have n1_ := Aside0.mk (hbox); have n2_ := Aside0.mk ((by rw [hg]; exact (below_size (bz HB.out)) : w.heap.size ≤ gb371)); have n3_ := Aside0.mk ((by rw [hg]; exact (below_size (bz HB.out)) : w.heap.size ≤ gb371)); clear HB; have HB := n0_; have BK371 := n1_; have GW371 := n2_; have GE371 := n3_; clear n0_ n1_ n2_ n3_; clear hb hbox hg) | ((with_reducible refine gate_dst (N := 3) rfl ?_); refine box_event ?hg (N := 3) ?hd (cs := #[.int .i64 a1_0, .slice A1_1 l1_1.length c1_1]) (t := 49) ?hr ?_; (case hd => rfl); (case hg => rfl); (case hr => first | (go_simp; done) | (go_simp; rfl)); intro gb372 hg w13 hbox hb; have n0_ := Aside0.mk (blk_below (g := gb371) (o := .cells #[.int .i64 a0_0, .slice A0_1 l0_1.length c0_1] 49 (0, 0)) (kz BK371.out) hb); have n1_ := Aside0.mk (below_step (b1 GE371.out HB.out) hb); have n2_ := Aside0.mk (hbox); have n3_ := Aside0.mk ((by rw [hg]; exact (below_size (b1 GE371.out HB.out)) : w.heap.size ≤ gb372)); have n4_ := Aside0.mk ((by rw [hg]; exact (below_size (b1 GE371.out HB.out)) : w.heap.size ≤ gb372)); have n5_ := Aside0.mk ((by rw [hg]; exact Nat.ne_of_lt (blk_lt (g := gb371) (o := .cells #[.int .i64 a0_0, .slice A0_1 l0_1.length c0_1] 49 (0, 0)) (kz BK371.out)) : gb371 ≠ gb372)); have n6_ := Aside0.mk ((by rw [hg]; exact Nat.ne_of_gt (blk_lt (g := gb371) (o := .cells #[.int .i64 a0_0, .slice A0_1 l0_1.length c0_1] 49 (0, 0)) (kz BK371.out)) : gb372 ≠ gb371)); clear BK371; clear HB; have BK371 := n0_; have HB := n1_; have BK372 := n2_; have GW372 := n3_; have GE372 := n4_; have NB371_372 := n5_; have NB372_371 := n6_; clear n0_ n1_ n2_ n3_ n4_ n5_ n6_; clear hb hbox hg; have hnb14 := NB371_372.out; have hnc14 := NB372_371.out; have hcz15_0 := fz BK371.out 0 (.int .i64 a0_0); have hcz15_1 := fz BK371.out 1 (.slice A0_1 l0_1.length c0_1); have hfz15_0 := blk_frozen BK371.out 0; have hfz15_1 := blk_frozen BK371.out 1; have hcz16_0 := fz BK372.out 0 (.int .i64 a1_0); have hcz16_1 := fz BK372.out 1 (.slice A1_1 l1_1.length c1_1); have hfz16_0 := blk_frozen BK372.out 0; have hfz16_1 := blk_frozen BK372.out 1) | ((with_reducible refine gate_callee (f := 79) rfl ?_); refine goesL_ (some 14) rfl rfl Try.func79 (by kernel_rfl) rfl #[.slice A0_1 l0_1.length c0_1, .slice A1_1 l1_1.length c1_1] rfl dz ?_; (with_reducible refine (laws_eqPageS.calls k _ _ l0_1 _ _ l1_1 false _ ?side1 ?side2 ?side3 ?side4 A4.out).mono ?_); (case side1 => exact sz HR0_1.out HB.out); (case side2 => exact HC0_1.out); (case side3 => exact sz HR1_1.out HB.out); (case side4 => exact HC1_1.out); rintro e w17 ⟨rfl, hb⟩; refine ⟨_, rfl, ?_⟩; have n0_ := Aside0.mk (blk_below (g := gb371) (o := .cells #[.int .i64 a0_0, .slice A0_1 l0_1.length c0_1] 49 (0, 0)) (kz BK371.out) hb); have n1_ := Aside0.mk (blk_below (g := gb372) (o := .cells #[.int .i64 a1_0, .slice A1_1 l1_1.length c1_1] 49 (0, 0)) (kz BK372.out) hb); have n2_ := Aside0.mk (below_step (b2 GE371.out GE372.out HB.out) hb); clear BK371; clear BK372; clear HB; have BK371 := n0_; have BK372 := n1_; have HB := n2_; clear n0_ n1_ n2_; (try clear hb); (try clear hb2); (try clear hk); (try clear hi)))
      go_ret; exact ⟨ez, b2 GE371.out GE372.out HB.out⟩
  · rw [if_neg c3] at H
    have c3b0 : (a0_0 == a1_0) = false := beq_eq_false_iff_ne.mpr c3; have c3b1 : (a0_0 != a1_0) = true := bne_iff_ne.mpr c3; obtain rfl := Option.some.inj H
    go_enter Try.func29, Try.ntmps29
    go_wp2_with (first | ((with_reducible refine gate_dst (N := 2) rfl ?_); refine box_event ?hg (N := 2) ?hd (cs := #[.int .i64 a0_0, .slice A0_1 l0_1.length c0_1]) (t := 49) ?hr ?_; (case hd => rfl); (case hg => rfl); (case hr => first | (go_simp; done) | (go_simp; rfl)); intro gb371 hg w18 hbox hb; have n0_ := Aside0.mk (below_step (bz HB.out) hb); have n1_ := Aside0.mk (hbox); have n2_ := Aside0.mk ((by rw [hg]; exact (below_size (bz HB.out)) : w.heap.size ≤ gb371)); have n3_ := Aside0.mk ((by rw [hg]; exact (below_size (bz HB.out)) : w.heap.size ≤ gb371)); clear HB; have HB := n0_; have BK371 := n1_; have GW371 := n2_; have GE371 := n3_; clear n0_ n1_ n2_ n3_; clear hb hbox hg) | ((with_reducible refine gate_dst (N := 3) rfl ?_); refine box_event ?hg (N := 3) ?hd (cs := #[.int .i64 a1_0, .slice A1_1 l1_1.length c1_1]) (t := 49) ?hr ?_; (case hd => rfl); (case hg => rfl); (case hr => first | (go_simp; done) | (go_simp; rfl)); intro gb372 hg w19 hbox hb; have n0_ := Aside0.mk (blk_below (g := gb371) (o := .cells #[.int .i64 a0_0, .slice A0_1 l0_1.length c0_1] 49 (0, 0)) (kz BK371.out) hb); have n1_ := Aside0.mk (below_step (b1 GE371.out HB.out) hb); have n2_ := Aside0.mk (hbox); have n3_ := Aside0.mk ((by rw [hg]; exact (below_size (b1 GE371.out HB.out)) : w.heap.size ≤ gb372)); have n4_ := Aside0.mk ((by rw [hg]; exact (below_size (b1 GE371.out HB.out)) : w.heap.size ≤ gb372)); have n5_ := Aside0.mk ((by rw [hg]; exact Nat.ne_of_lt (blk_lt (g := gb371) (o := .cells #[.int .i64 a0_0, .slice A0_1 l0_1.length c0_1] 49 (0, 0)) (kz BK371.out)) : gb371 ≠ gb372)); have n6_ := Aside0.mk ((by rw [hg]; exact Nat.ne_of_gt (blk_lt (g := gb371) (o := .cells #[.int .i64 a0_0, .slice A0_1 l0_1.length c0_1] 49 (0, 0)) (kz BK371.out)) : gb372 ≠ gb371)); clear BK371; clear HB; have BK371 := n0_; have HB := n1_; have BK372 := n2_; have GW372 := n3_; have GE372 := n4_; have NB371_372 := n5_; have NB372_371 := n6_; clear n0_ n1_ n2_ n3_ n4_ n5_ n6_; clear hb hbox hg; have hnb20 := NB371_372.out; have hnc20 := NB372_371.out; have hcz21_0 := fz BK371.out 0 (.int .i64 a0_0); have hcz21_1 := fz BK371.out 1 (.slice A0_1 l0_1.length c0_1); have hfz21_0 := blk_frozen BK371.out 0; have hfz21_1 := blk_frozen BK371.out 1; have hcz22_0 := fz BK372.out 0 (.int .i64 a1_0); have hcz22_1 := fz BK372.out 1 (.slice A1_1 l1_1.length c1_1); have hfz22_0 := blk_frozen BK372.out 0; have hfz22_1 := blk_frozen BK372.out 1))
    go_ret; exact ⟨ez, b2 GE371.out GE372.out HB.out⟩

end Go.Proofs.Ytngjaajcdbodeaa.All

/- Plain laws of the printed functions: rounds, and the types. No condition. -/
namespace Go.Proofs.Ytngjaajcdbodeaa.Pure
open Go.RowKit Go.Proofs.Ytngjaajcdbodeaa.All Go.Proofs.YtngjaajcdbodeaaW.PrintWords Go.Proofs.YtngjaajcdbodeaaW.PrintLast Go.Proofs.Ytngjaajcdbodeaa.Sq
set_option linter.unusedVariables false

/-- With enough rounds g answers r. -/
def Evn {α : Type} (g : Nat → Option α) (r : α) : Prop := ∃ K, ∀ k, K ≤ k → g k = some r
theorem Evn.const {α : Type} {g : Nat → Option α} {r : α} (h : ∀ k, g k = some r) : Evn g r := ⟨0, fun k _ => h k⟩
theorem Evn.ret {α : Type} (r : α) : Evn (fun _ => some r) r := ⟨0, fun _ _ => rfl⟩
theorem Evn.bind {α β : Type} {g : Nat → Option α} {f : Nat → α → Option β} {a : α} {r : β} (h : Evn g a) (k : Evn (fun k => f k a) r) : Evn (fun k => (g k).bind (f k)) r := by
  obtain ⟨K, hK⟩ := h; obtain ⟨L, hL⟩ := k; refine ⟨K + L, fun k hk => ?_⟩
  show (g k).bind (f k) = some r
  rw [hK k (by omega)]; exact hL k (by omega)
theorem Evn.step {α : Type} {g g' : Nat → Option α} {r : α} (h : ∀ k, g (k + 1) = g' k) (k : Evn g' r) : Evn g r := by
  obtain ⟨L, hL⟩ := k; refine ⟨L + 1, fun k hk => ?_⟩; obtain ⟨m, rfl⟩ : ∃ m, k = m + 1 := ⟨k - 1, by omega⟩; rw [h m]; exact hL m (by omega)
theorem Evn.pos {α : Type} {c : Prop} [Decidable c] {g g' : Nat → Option α} {r : α} (hc : c) (h : Evn g r) : Evn (fun k => if c then g k else g' k) r := by
  obtain ⟨L, hL⟩ := h; exact ⟨L, fun k hk => by show (if c then g k else g' k) = some r; rw [if_pos hc]; exact hL k hk⟩
theorem Evn.neg {α : Type} {c : Prop} [Decidable c] {g g' : Nat → Option α} {r : α} (hc : ¬ c) (h : Evn g' r) : Evn (fun k => if c then g k else g' k) r := by
  obtain ⟨L, hL⟩ := h; exact ⟨L, fun k hk => by show (if c then g k else g' k) = some r; rw [if_neg hc]; exact hL k hk⟩
theorem Evn.congr {α : Type} {g g' : Nat → Option α} {r : α} (h : ∀ k, g k = g' k) (k : Evn g' r) : Evn g r := by
  obtain ⟨L, hL⟩ := k; exact ⟨L, fun k hk => by rw [h k]; exact hL k hk⟩
theorem Evn.some_k {α : Type} {g : Nat → Option α} {r : α} (h : Evn g r) : ∃ k, g k = some r := ⟨_, h.choose_spec _ (Nat.le_refl _)⟩
theorem Evn.same {α : Type} {g g' : Nat → Option α} {r : α} (h : Evn g r) (he : ∀ k, g k = g' k) : Evn g' r := Evn.congr (fun k => (he k).symm) h

abbrev LBx := S24
abbrev Bx := S32
abbrev LEn := S122
abbrev En := S103
abbrev LIt := S26
abbrev It := S34


end Go.Proofs.Ytngjaajcdbodeaa.Pure

namespace Go.Proofs.Ytngjaajcdbodeaa.All
open Go.RowKit Go.Proofs.YtngjaajcdbodeaaW.PrintWords Go.Proofs.YtngjaajcdbodeaaW.PrintLast Go.Proofs.YtngjaajcdbodeaaW.PrintMore Go.Proofs.Ytngjaajcdbodeaa.Sq
attribute [local go_sem] max2_int min2_int max_two min_two max_three min_three max_four min_four 
set_option linter.unusedVariables false
set_option linter.unusedSimpArgs false

/-! ### spec_l7Has: function 87 -/
def spec_l7Has.l0 : Nat → List Int → Int → Int → Option (Bool)
  | 0, _, _, _ => none
  | k + 1, x0, x1, x5 => if x5 < (x0.length : Int) then (if 0 ≤ x5 then (if (rd x0 x5) = x1 then (some true) else (spec_l7Has.l0 k x0 x1 (wrap64 (x5 + 1)))) else (none)) else (some false)
def spec_l7Has.f (k : Nat) (l0 : List Int) (a1 : Int) : Option (Bool) := spec_l7Has.l0 k l0 a1 0
theorem spec_l7Has.mono_l : ∀ k, (∀ y0 y1 y2, LeO (spec_l7Has.l0 k y0 y1 y2) (spec_l7Has.l0 (k + 1) y0 y1 y2))
  | 0 => fun _ _ _ r h => by simp [spec_l7Has.l0] at h
  | k + 1 => by
    have ih0 := spec_l7Has.mono_l k
    · intro y0 y1 y2
      unfold spec_l7Has.l0
      repeat' first | (with_reducible first | exact ih0 _ _ _ | exact LeO.refl _ | exact LeO.none _ | refine LeO.ite ?_ ?_ | refine LeO.bind ?_ (fun _ => ?_)) | exact ih0 _ _ _ | exact LeO.none _ | refine LeO.ite ?_ ?_ | refine LeO.bind ?_ (fun _ => ?_)
theorem spec_l7Has.mono : ∀ a0 a1 k, LeO (spec_l7Has.f k a0 a1) (spec_l7Has.f (k + 1) a0 a1) := by
  intro a0 a1 k
  have ih0 := spec_l7Has.mono_l k; unfold spec_l7Has.f
  repeat' first | (with_reducible first | exact ih0 _ _ _ | exact LeO.refl _ | exact LeO.none _ | refine LeO.ite ?_ ?_ | refine LeO.bind ?_ (fun _ => ?_)) | exact ih0 _ _ _ | exact LeO.none _ | refine LeO.ite ?_ ?_ | refine LeO.bind ?_ (fun _ => ?_)
set_option maxHeartbeats 8000000 in
set_option maxRecDepth 100000 in
theorem spec_l7Has.calls (k : Nat) (A0 : Option Addr) (c0 : Nat) (l0 : List Int) (a1 : Int) (r : Bool) (w : World) (hr0 : Kd.C (Kd.int .i64) w A0 l0.length l0) (hc0 : l0.length ≤ c0) (h : spec_l7Has.f k l0 a1 = some r) :
    Calls Try.prog 87 #[.slice A0 l0.length c0, .int .i64 a1] w fun e w' => e = .returned (.bool r) ∧ Drawn0 w w' := by
  have HR0 := Aside0.mk hr0; have HC0 := Aside0.mk hc0; clear hr0 hc0; have H : (spec_l7Has.l0 k l0 a1 0) = some r := h; clear h; have H' := Aside0.mk H; clear H
  go_enter Try.func87, Try.ntmps87
  go_wp2
  go_loopg [5] k (fun kq v5 w' => ∃ (x5_1 : Int), v5 = .int .i64 x5_1 ∧ Aside0 (spec_l7Has.l0 kq l0 a1 x5_1 = some r) ∧ Aside0 (kq ≤ k) ∧ Drawn0 w w')
  case atStart => exact ⟨(0), az, H', ⟨Nat.le_refl _⟩, by repeat (first | exact Drawn0.refl _ | apply Drawn0.step)⟩
  case round =>
    clear H'; (try clear p2); obtain ⟨x5_1, rfl, HA, HK1, ⟨m1, rfl⟩⟩ := hrel
    cases gk with
    | zero => exact absurd HA.out (by simp [spec_l7Has.l0])
    | succ k1 =>
      have H := HA.out; clear HA
      simp only [spec_l7Has.l0] at H
      by_cases c3 : x5_1 < (l0.length : Int)
      · rw [if_pos c3] at H
        have c3b0 : decide (x5_1 < (l0.length : Int)) = true := decide_eq_true c3; clear c3
        by_cases c4 : 0 ≤ x5_1
        · rw [if_pos c4] at H
          have c4b0 : decide (0 ≤ x5_1) = true := decide_eq_true c4; clear c4
          by_cases c5 : (rd l0 x5_1) = a1
          · rw [if_pos c5] at H
            have c5b0 : ((rd l0 x5_1) == a1) = true := beq_iff_eq.mpr c5; have c5b1 : ((rd l0 x5_1) != a1) = false := bne_eq_false_iff_eq.mpr c5; clear c5; obtain rfl := Option.some.inj H; have p567 : 0 ≤ (x5_1 : Int) := of_decide_eq_true uz; have q567 : x5_1 < (l0.length : Int) := of_decide_eq_true uz; obtain ⟨ad567, e567, hx567_0⟩ := Kd.at_int HR0.out x5_1 p567 q567
            cases e567
            replace p567 := eq_true p567; replace q567 := eq_true q567; go_wp2; go_ret; exact ⟨by first | rfl | (simp; done) | (simp [*]; done), by repeat (first | exact Drawn0.refl _ | apply Drawn0.step)⟩
          · rw [if_neg c5] at H
            have c5b0 : ((rd l0 x5_1) == a1) = false := beq_eq_false_iff_ne.mpr c5; have c5b1 : ((rd l0 x5_1) != a1) = true := bne_iff_ne.mpr c5; have H' := Aside0.mk H; clear H; have p567 : 0 ≤ (x5_1 : Int) := of_decide_eq_true uz; have q567 : x5_1 < (l0.length : Int) := of_decide_eq_true uz; obtain ⟨ad567, e567, hx567_0⟩ := Kd.at_int HR0.out x5_1 p567 q567
            cases e567
            replace p567 := eq_true p567; replace q567 := eq_true q567; go_wp2; go_roundg k1
            case measure => have := HK1.out; omega
            case rel => exact ⟨(wrap64 (x5_1 + 1)), az, H', ⟨by have := HK1.out; omega⟩, by repeat (first | exact Drawn0.refl _ | apply Drawn0.step)⟩
        · rw [if_neg c4] at H
          exact absurd H (by simp)
      · rw [if_neg c3] at H
        have c3b0 : decide (x5_1 < (l0.length : Int)) = false := decide_eq_false c3; clear c3; obtain rfl := Option.some.inj H; go_wp2; go_ret; exact ⟨by first | rfl | (simp; done) | (simp [*]; done), by repeat (first | exact Drawn0.refl _ | apply Drawn0.step)⟩

attribute [local go_sem] max2_int min2_int max_two min_two max_three min_three max_four min_four 
set_option linter.unusedVariables false
set_option linter.unusedSimpArgs false

/-! ### spec_l1In: function 72 -/
def spec_l1In.f (a0 : Int) (a1 : Int) (a2 : Int) : Option (Bool) := if a0 ≥ a1 then (some (decide (a0 ≤ a2))) else (some false)
set_option maxHeartbeats 8000000 in
set_option maxRecDepth 100000 in
theorem spec_l1In.calls (a0 : Int) (a1 : Int) (a2 : Int) (r : Bool) (w : World) (h : spec_l1In.f a0 a1 a2 = some r) :
    Calls Try.prog 72 #[.int .i64 a0, .int .i64 a1, .int .i64 a2] w fun e w' => e = .returned (.bool r) ∧ Drawn0 w w' := by
  have H : (if a0 ≥ a1 then (some (decide (a0 ≤ a2))) else (some false)) = some r := h; clear h
  by_cases c4 : a0 ≥ a1
  · rw [if_pos c4] at H
    have c4b0 : decide (a1 ≤ a0) = true := decide_eq_true c4; clear c4; obtain rfl := Option.some.inj H
    go_enter Try.func72, Try.ntmps72
    go_wp2; go_ret; exact ⟨by first | rfl | (simp; done) | (simp [*]; done), by repeat (first | exact Drawn0.refl _ | apply Drawn0.step)⟩
  · rw [if_neg c4] at H
    have c4b0 : decide (a1 ≤ a0) = false := decide_eq_false c4; clear c4; obtain rfl := Option.some.inj H
    go_enter Try.func72, Try.ntmps72
    go_wp2; go_ret; exact ⟨by first | rfl | (simp; done) | (simp [*]; done), by repeat (first | exact Drawn0.refl _ | apply Drawn0.step)⟩

end Go.Proofs.Ytngjaajcdbodeaa.All

/- The pages that are reached from a page: the model of both walks over a book, and the reference's walk comes to it. No condition. -/
namespace Go.Proofs.Ytngjaajcdbodeaa.All
open Go.RowKit Go.Proofs.YtngjaajcdbodeaaW.PrintWords Go.Proofs.YtngjaajcdbodeaaW.PrintLast Go.Proofs.YtngjaajcdbodeaaW.PrintMore Go.Proofs.Ytngjaajcdbodeaa.Sq
set_option linter.unusedVariables false
set_option linter.unusedSimpArgs false

/-- Page i is there and used. -/
def pgOk (ps : List S90) (i : Int) : Prop := 0 ≤ i ∧ i < (ps.length : Int) ∧ (rd_T90 ps i).f0 = true
instance (ps : List S90) (i : Int) : Decidable (pgOk ps i) := inferInstanceAs (Decidable (_ ∧ _ ∧ _))
mutual
/-- What is reached from page i on, behind out; at most k steps deep. -/
def walkM : Nat → List S90 → Int → List Int → Option (List Int)
  | 0, _, _, _ => none
  | k + 1, ps, i, out => if pgOk ps i then (if out.length < 17592186044415 then (if i ∈ out then some out else walkL k ps (rd_T90 ps i).f1.f0 (rd_T90 ps i).f1.f1 (out ++ [i]) 0) else none) else some out
def walkL : Nat → List S90 → Bool → List S103 → List Int → Int → Option (List Int)
  | 0, _, _, _, _, _ => none
  | k + 1, ps, b, es, out, x => if x < (es.length : Int) then (if b = true then some out else if 0 ≤ x then (walkM k ps (rd_T103 es x).f0 out).bind fun o => walkL k ps b es o (wrap64 (x + 1)) else none) else some out
end
theorem walk_mono : ∀ k, (∀ ps i out, LeO (walkM k ps i out) (walkM (k + 1) ps i out)) ∧ (∀ ps b es out x, LeO (walkL k ps b es out x) (walkL (k + 1) ps b es out x))
  | 0 => ⟨fun _ _ _ r h => by simp [walkM] at h, fun _ _ _ _ _ r h => by simp [walkL] at h⟩
  | k + 1 => by
    obtain ⟨h1, h2⟩ := walk_mono k; refine ⟨fun ps i out => ?_, fun ps b es out x => ?_⟩
    · rw [walkM, walkM]
      exact LeO.ite (LeO.ite (LeO.ite (LeO.refl _) (h2 _ _ _ _ _)) (LeO.refl _)) (LeO.refl _)
    · rw [walkL, walkL]
      exact LeO.ite (LeO.ite (LeO.refl _) (LeO.ite (LeO.bind (h1 _ _ _) (fun _ => h2 _ _ _ _ _)) (LeO.refl _))) (LeO.refl _)

/-- The reference asks whether a number is among others. -/
theorem has_f (l : List Int) (n : Int) (hl : l.length ≤ 4611686018427387904) : ∃ k, spec_l7Has.f k l n = some (decide (n ∈ l)) := by
  have key : ∀ d i, i + d = l.length → (∀ j, j < i → l.getD j 0 ≠ n) → ∃ k, spec_l7Has.l0 k l n (i : Int) = some (decide (n ∈ l)) := by
    intro d
    induction d with
    | zero =>
      intro i hi hno
      refine ⟨1, ?_⟩; rw [spec_l7Has.l0, if_neg (by omega)]
      congr 1
      symm
      rw [decide_eq_false_iff_not]
      intro hm
      obtain ⟨j, hj, e⟩ := List.getElem_of_mem hm; refine hno j (by omega) ?_; rw [List.getD_eq_getElem?_getD, List.getElem?_eq_getElem hj]; exact e
    | succ d ih =>
      intro i hi hno
      have hil : i < l.length := by omega
      have hrd : rd l (i : Int) = l.getD i 0 := rfl
      by_cases he : l.getD i 0 = n
      · refine ⟨1, ?_⟩
        rw [spec_l7Has.l0, if_pos (by omega), if_pos (by omega), hrd, if_pos he]
        congr 1
        symm
        rw [decide_eq_true_iff]; rw [List.getD_eq_getElem?_getD, List.getElem?_eq_getElem hil] at he; rw [← he]; exact List.getElem_mem hil
      · obtain ⟨k, hk⟩ := ih (i + 1) (by omega) (fun j hj => by
          rcases Nat.lt_or_ge j i with h | h
          · exact hno j h
          · have : j = i := by omega
            subst this
            exact he)
        refine ⟨k + 1, ?_⟩
        have hw : wrap64 ((i : Int) + 1) = ((i + 1 : Nat) : Int) := by
          unfold wrap64
          omega
        rw [spec_l7Has.l0, if_pos (by omega), if_pos (by omega), hrd, if_neg he, hw]; exact hk
  exact key l.length 0 (by omega) (fun j hj => absurd hj (Nat.not_lt_zero _))
theorem in_range (n : Nat) (hn : n ≤ 9223372036854775807) (i : Int) : spec_l1In.f i 0 ((n : Int) - 1) = some (decide (0 ≤ i ∧ i < (n : Int))) := by
  unfold spec_l1In.f
  by_cases h : i ≥ 0
  · rw [if_pos h]
    congr 1
    rw [decide_eq_decide]
    omega
  · rw [if_neg h]
    congr 1
    symm
    rw [decide_eq_false_iff_not]
    omega

theorem hinfoInt : (Try.prog.info? 3).map (fun i => (i.zero, i.size, i.bytes)) = some (some (.int .i64 0), 1, 8) := by kernel_rfl

theorem ow_of {u v1 : Value} {lo mid : Nat} (hlo : lo ≤ mid) (h : v1.ownBlock = u.ownBlock ∨ ∃ b, v1.ownBlock = some b ∧ mid ≤ b) : ∀ k, some k = v1.ownBlock → some k = u.ownBlock ∨ lo ≤ k := by
  intro k hk
  rcases h with h | ⟨b, hb, hlt⟩
  · exact .inl (hk.trans h)
  · rw [hb] at hk
    injection hk with hk
    rw [hk]; exact .inr (Nat.le_trans hlo hlt)

/-- What the reference's walk leaves: the row, and all that stood is as it was but for the row that was handed over. -/
def WalkPost (w0 w : World) (v : Value) (r : List Int) (e : Ending) (w' : World) : Prop :=
  ∃ v', e = .returned v' ∧ Kd.R (Kd.int .i64) 3 w' w0.heap.size (fun _ => True) v' r ∧ Below w0.heap.size w0 w' ∧ Kept w w' (fun k => some k = v.ownBlock) ∧ (∀ k, some k = v'.ownBlock → some k = v.ownBlock ∨ w.heap.size ≤ k)
def WalkSaid (w0 : World) (A : Option Addr) (c : Nat) (ps : List S90) (k : Nat) : Prop :=
  ∀ (root i : Int) (v : Value) (xs r : List Int) (w : World), Below w0.heap.size w0 w → Kd.R (Kd.int .i64) 3 w w0.heap.size (fun _ => True) v xs → walkM k ps i xs = some r →
    Calls Try.prog 124 #[.agg #[.int .i64 root, .slice A ps.length c], .int .i64 i, v] w (WalkPost w0 w v r)

set_option maxHeartbeats 8000000 in
set_option maxRecDepth 100000 in
/-- Where page i is not there, or not used. -/
theorem walk_out (w0 : World) (A : Option Addr) (c : Nat) (ps : List S90) (hr0 : Kd.C k90 w0 A ps.length ps) (hc0 : ps.length ≤ c)
    (root i : Int) (v : Value) (xs : List Int) (w : World) (hb : Below w0.heap.size w0 w) (hv : Kd.R (Kd.int .i64) 3 w w0.heap.size (fun _ => True) v xs) (hno : ¬ pgOk ps i) :
    Calls Try.prog 124 #[.agg #[.int .i64 root, .slice A ps.length c], .int .i64 i, v] w (WalkPost w0 w v xs) := by
  have HR := Aside0.mk hr0; have HB := Aside0.mk hb; have HO := Aside0.mk hv; have hmax : ps.length ≤ 9223372036854775807 := hr0.2.1; have HIN := Aside0.mk (in_range ps.length hmax i); have HNO := Aside0.mk hno; clear hr0 hc0 hb hv hno; obtain ⟨Av, cv, ev⟩ := Kd.R_slice HO.out; subst ev; have hu1 := Try.underlying90; have hu2 := Try.underlying49
  by_cases hin : 0 ≤ i ∧ i < (ps.length : Int)
  · obtain ⟨h0, h1⟩ := hin
    have hus : (rd_T90 ps i).f0 = false := by
      cases hu : (rd_T90 ps i).f0 with
      | false => rfl
      | true => exact absurd ⟨h0, h1, hu⟩ HNO.out
    rw [decide_eq_true (show 0 ≤ i ∧ i < (ps.length : Int) from ⟨h0, h1⟩)] at HIN; obtain ⟨ad, A2, c2, e2, hx0, hx1, hx2, _, _⟩ := at_T90 (Kd.C_below HR.out HB.out) i h0 h1; subst e2; rw [hus] at hx0; clear hus hx1 hx2
    go_enter Try.func124, Try.ntmps124
    go_wp2_with (first
      | ((with_reducible refine gate_dst (N := 3) rfl ?_); refine box_event ?hg (N := 3) ?hd (cs := #[.int .i64 root, .slice (some ad) ps.length c]) (t := 49) ?hr ?_; (case hd => rfl); (case hg => rfl); (case hr => first | (go_simp; done) | (go_simp; rfl)); intro g3 hg w3 hbox hb3; replace hx0 := (hb3.cell (World.block_lt_of_cell? w _ hx0)).trans hx0; have hk1 : w3.cell? ⟨g3, 1, none⟩ = some (.slice (some ad) ps.length c) := (blk_cell hbox 1).trans rfl; have HW3 := Aside0.mk hb3; clear hb3 hg hbox)
      | (go_at_call 72; refine (spec_l1In.calls _ _ _ _ _ HIN.out).mono ?_; rintro e w' ⟨rfl, ⟨⟨n, rfl⟩⟩⟩))
    go_ret; exact ⟨_, rfl, Kd.R_below HO.out (pw_below_drewN HW3.out _), pw_below_drewN (below_step HB.out HW3.out) _, (Kept.of_below (pw_below_drewN HW3.out _) _), fun k hk => .inl hk⟩
  · rw [decide_eq_false hin] at HIN
    go_enter Try.func124, Try.ntmps124
    go_wp2_with (first
      | ((with_reducible refine gate_dst (N := 3) rfl ?_); refine box_event ?hg (N := 3) ?hd (cs := #[.int .i64 root, .slice A ps.length c]) (t := 49) ?hr ?_; (case hd => rfl); (case hg => rfl); (case hr => first | (go_simp; done) | (go_simp; rfl)); intro g3 hg w3 hbox hb3; have hk1 : w3.cell? ⟨g3, 1, none⟩ = some (.slice A ps.length c) := (blk_cell hbox 1).trans rfl; have HW3 := Aside0.mk hb3; clear hb3 hg hbox)
      | (go_at_call 72; refine (spec_l1In.calls _ _ _ _ _ HIN.out).mono ?_; rintro e w' ⟨rfl, ⟨⟨n, rfl⟩⟩⟩))
    go_ret; exact ⟨_, rfl, Kd.R_below HO.out (pw_below_drewN HW3.out _), pw_below_drewN (below_step HB.out HW3.out) _, (Kept.of_below (pw_below_drewN HW3.out _) _), fun k hk => .inl hk⟩

set_option maxHeartbeats 8000000 in
set_option maxRecDepth 100000 in
/-- Where page i is among those that were reached. -/
theorem walk_met (w0 : World) (A : Option Addr) (c : Nat) (ps : List S90) (hr0 : Kd.C k90 w0 A ps.length ps) (hc0 : ps.length ≤ c)
    (root i : Int) (v : Value) (xs : List Int) (w : World) (hb : Below w0.heap.size w0 w) (hv : Kd.R (Kd.int .i64) 3 w w0.heap.size (fun _ => True) v xs) (hyes : pgOk ps i) (q : Nat) (hin : spec_l7Has.f q xs i = some true) :
    Calls Try.prog 124 #[.agg #[.int .i64 root, .slice A ps.length c], .int .i64 i, v] w (WalkPost w0 w v xs) := by
  have HR := Aside0.mk hr0; have HB := Aside0.mk hb; have HO := Aside0.mk hv; have hmax : ps.length ≤ 9223372036854775807 := hr0.2.1; have HIN := Aside0.mk (in_range ps.length hmax i); have HH := Aside0.mk hin; clear hr0 hc0 hb hv hin; obtain ⟨Av, cv, ev⟩ := Kd.R_slice HO.out; subst ev; obtain ⟨_, hvc, hvC⟩ := Kd.R_reads' HO.out; have HVC := Aside0.mk hvC; have HVL := Aside0.mk hvc; clear hvC hvc; have hu1 := Try.underlying90; have hu2 := Try.underlying49; obtain ⟨h0, h1, hus⟩ := hyes; rw [decide_eq_true (show 0 ≤ i ∧ i < (ps.length : Int) from ⟨h0, h1⟩)] at HIN; obtain ⟨ad, A2, c2, e2, hx0, hx1, hx2, _, _⟩ := at_T90 (Kd.C_below HR.out HB.out) i h0 h1; subst e2; rw [hus] at hx0; clear hus hx1 hx2
  go_enter Try.func124, Try.ntmps124
  go_wp2_with (first
    | ((with_reducible refine gate_dst (N := 3) rfl ?_); refine box_event ?hg (N := 3) ?hd (cs := #[.int .i64 root, .slice (some ad) ps.length c]) (t := 49) ?hr ?_; (case hd => rfl); (case hg => rfl); (case hr => first | (go_simp; done) | (go_simp; rfl)); intro g3 hg w3 hbox hb3; replace hx0 := (hb3.cell (World.block_lt_of_cell? w _ hx0)).trans hx0; have hk1 : w3.cell? ⟨g3, 1, none⟩ = some (.slice (some ad) ps.length c) := (blk_cell hbox 1).trans rfl; have HW3 := Aside0.mk hb3; clear hb3 hg hbox)
    | (go_at_call 72; refine (spec_l1In.calls _ _ _ _ _ HIN.out).mono ?_; rintro e w' ⟨rfl, ⟨⟨n, rfl⟩⟩⟩)
    | (go_at_call 87; refine (spec_l7Has.calls q _ _ xs i true _ (Kd.C_drewN (Kd.C_below HVC.out HW3.out) _) HVL.out HH.out).mono ?_; rintro e w' ⟨rfl, ⟨⟨n2, rfl⟩⟩⟩))
  go_ret; exact ⟨_, rfl, Kd.R_below HO.out (pw_below_drewN HW3.out _), pw_below_drewN (below_step HB.out HW3.out) _, (Kept.of_below (pw_below_drewN HW3.out _) _), fun k hk => .inl hk⟩

set_option maxHeartbeats 16000000 in
set_option maxRecDepth 100000 in
/-- Where page i is new. -/
theorem walk_new (w0 : World) (A : Option Addr) (c : Nat) (ps : List S90) (hr0 : Kd.C k90 w0 A ps.length ps) (hc0 : ps.length ≤ c) (k : Nat) (ih : ∀ k', k' ≤ k → WalkSaid w0 A c ps k')
    (root i : Int) (v : Value) (xs r : List Int) (w : World) (hb : Below w0.heap.size w0 w) (hv : Kd.R (Kd.int .i64) 3 w w0.heap.size (fun _ => True) v xs) (hyes : pgOk ps i) (q : Nat) (hin : spec_l7Has.f q xs i = some false)
    (hlen : xs.length < 17592186044415) (h : walkL k ps (rd_T90 ps i).f1.f0 (rd_T90 ps i).f1.f1 (xs ++ [i]) 0 = some r) :
    Calls Try.prog 124 #[.agg #[.int .i64 root, .slice A ps.length c], .int .i64 i, v] w (WalkPost w0 w v r) := by
  have HR := Aside0.mk hr0; have HCC := Aside0.mk hc0; have HB := Aside0.mk hb; have HO := Aside0.mk hv; have IH := Aside0.mk ih; have HLEN := Aside0.mk hlen; have hmax : ps.length ≤ 9223372036854775807 := hr0.2.1; have HIN := Aside0.mk (in_range ps.length hmax i); have HH := Aside0.mk hin; have H' := Aside0.mk h; clear hr0 hc0 hb hv hin ih hlen h; obtain ⟨Av, cv, ev⟩ := Kd.R_slice HO.out; subst ev; obtain ⟨_, hvc, hvC⟩ := Kd.R_reads' HO.out; have HVC := Aside0.mk hvC; have HVL := Aside0.mk hvc; clear hvC hvc; have hu1 := Try.underlying90; have hu2 := Try.underlying49; have hu3 := Try.underlying54; obtain ⟨h0, h1, hus⟩ := hyes; rw [decide_eq_true (show 0 ≤ i ∧ i < (ps.length : Int) from ⟨h0, h1⟩)] at HIN; obtain ⟨ad, A2, c2, e2, hz0, hz1, hz2, hl2, hC2⟩ := at_T90 HR.out i h0 h1; subst e2; rw [hus] at hz0; clear hus; have HC2 := Aside0.mk hC2; have HL2 := Aside0.mk hl2; have HZ0 := Aside0.mk hz0; have HZ1 := Aside0.mk hz1; have HZ2 := Aside0.mk hz2; have hx0 := (HB.out.cell (World.block_lt_of_cell? w0 _ hz0)).trans hz0; clear hC2 hl2 hz0 hz1 hz2; obtain ⟨bl, hbl⟩ : ∃ b : Bool, b = (rd_T90 ps i).f1.f0 := ⟨_, rfl⟩; obtain ⟨es, hes⟩ : ∃ l : List S103, l = (rd_T90 ps i).f1.f1 := ⟨_, rfl⟩; rw [← hbl] at HZ1 H'; rw [← hes] at HZ2 H' HC2 HL2; clear hbl hes
  go_enter Try.func124, Try.ntmps124
  go_wp2_with (first
    | ((with_reducible refine gate_dst (N := 3) rfl ?_); refine box_event ?hg (N := 3) ?hd (cs := #[.int .i64 root, .slice (some ad) ps.length c]) (t := 49) ?hr ?_; (case hd => rfl); (case hg => rfl); (case hr => first | (go_simp; done) | (go_simp; rfl)); intro g3 hg w3 hbox hb3; replace hx0 := (hb3.cell (World.block_lt_of_cell? w _ hx0)).trans hx0; have hk1 : w3.cell? ⟨g3, 1, none⟩ = some (.slice (some ad) ps.length c) := (blk_cell hbox 1).trans rfl; have HW3 := Aside0.mk hb3; have BK3 := Aside0.mk hbox; have GW3 := Aside0.mk (by rw [hg]; exact Nat.le_refl _ : w.heap.size ≤ g3); clear hb3 hg hbox)
    | (go_at_call 72; refine (spec_l1In.calls _ _ _ _ _ HIN.out).mono ?_; rintro e w' ⟨rfl, ⟨⟨n, rfl⟩⟩⟩)
    | (go_at_call 87; refine (spec_l7Has.calls q _ _ xs i false _ (Kd.C_drewN (Kd.C_below HVC.out HW3.out) _) HVL.out HH.out).mono ?_; rintro e w' ⟨rfl, ⟨⟨n2, rfl⟩⟩⟩)
    | ((with_reducible refine gate_builtin (b := .append) (xs := #[.tmp 31, .tmp 33]) rfl ?_); at_builtin; refine Kd.R_append (Kd.int .i64) (w0 := w0) w0.heap.size rfl (.tmp 31) (.tmp 33) 64 3 (.int .i64 0) 8 rfl Try.underlying64 hinfoInt rfl (by decide) (by omega) (.slice Av xs.length cv) xs i [.int .i64 i] (fun _ => True) (fun _ => False) rfl rfl rfl (fun _ hk => hk.elim) (fun _ _ => trivial) (Kd.R_below HO.out (pw_below_drewN HW3.out _)) (pw_below_drewN (below_step HB.out HW3.out) _) (Nat.le_trans HB.out.size HW3.out.size) (by have := HLEN.out; omega) ?_; intro v5 w5 ho5 hb5 hg5 hat5; have HO5 := Aside0.mk ho5; have HB5 := Aside0.mk hb5; have BK5 := Aside0.mk (blk_grown (blk_drewN BK3.out _) hg5 (fun e => by have := Kd.R_lt HO.out g3 e.symm; have := GW3.out; omega)); have KP5 := Aside0.mk (Kept.of_grown hg5 (Kept.of_below (pw_below_drewN HW3.out _) (fun k => some k = (Value.slice Av xs.length cv).ownBlock)) (fun _ hk => .inl hk.symm)); have OW5 := Aside0.mk (ow_of (Nat.le_trans HW3.out.size (Nat.le_refl _)) hat5); replace hx0 := (hb5.cell (World.block_lt_of_cell? w0 _ HZ0.out)).trans HZ0.out; have hx1 := (hb5.cell (World.block_lt_of_cell? w0 _ HZ1.out)).trans HZ1.out; have hx2 := (hb5.cell (World.block_lt_of_cell? w0 _ HZ2.out)).trans HZ2.out; replace hk1 : w5.cell? ⟨g3, 1, none⟩ = some (.slice (some ad) ps.length c) := (blk_cell BK5.out 1).trans rfl; clear ho5 hb5 hg5 hat5 BK3)
    | ((with_reducible refine gate_dst (N := 7) rfl ?_); refine box_event ?hg (N := 7) ?hd (cs := #[.bool false, .slice none 0 0]) (t := 54) ?hr ?_; (case hd => rfl); (case hg => rfl); (case hr => first | (go_simp; done) | (go_simp; rfl)); intro g7 hg w7 hbox hb7; replace hx0 := (hb7.cell (World.block_lt_of_cell? _ _ hx0)).trans hx0; replace hx1 := (hb7.cell (World.block_lt_of_cell? _ _ hx1)).trans hx1; replace hx2 := (hb7.cell (World.block_lt_of_cell? _ _ hx2)).trans hx2; have hs0 : w7.cell? ⟨g7, 0, none⟩ = some (.bool false) := (blk_cell hbox 0).trans rfl; have hs1 : w7.cell? ⟨g7, 1, none⟩ = some (.slice none 0 0) := (blk_cell hbox 1).trans rfl; have hf0 := blk_frozen hbox 0; have hf1 := blk_frozen hbox 1; have HW7 := Aside0.mk hb7; have BK7 := Aside0.mk hbox; have GW7 := Aside0.mk hg; clear hb7 hg hbox)
    | ((with_reducible refine gate_store (t := 54) (p := 7) rfl ?_); refine store_event (t := 54) (p := 7) (v := ?vo8) (w1 := ((w7.setCell ⟨g7, 0, none⟩ (.bool bl)).setCell ⟨g7, 1, none⟩ (.slice A2 es.length c2))) ?hg ?ho ?hn ?hr ?_; (case ho => rfl); (case hg => rfl); (case hn => rfl); (case hr => first | (go_simp; done) | (go_simp; rfl)); intro w8 hw; have hb8 : Below w5.heap.size w5 w8 := by rw [hw]; exact below_set (below_set HW7.out (Nat.le_of_eq GW7.out.symm)) (Nat.le_of_eq GW7.out.symm)
       have n0_ := Aside0.mk (Kd.R_below HO5.out hb8); have n1_ := Aside0.mk (blk_below BK5.out hb8); have n2_ := Aside0.mk (show w8.heap[g7]? = some (.cells #[.bool bl, .slice A2 es.length c2] 54 (0, 0)) from by rw [hw]; exact blk_put (blk_put BK7.out 0 _ rfl) 1 _ rfl); have n3_ := Aside0.mk (below_step HB5.out hb8); have n4_ := Aside0.mk (Kept.below KP5.out hb8); clear HO5 BK5 BK7 HB5 KP5 hw hb8 HW7 GW7 hx0 hx1 hx2 hs0 hs1 hf0 hf1 hk1; have HO := n0_; have BK3 := n1_; have BK7 := n2_; have HBW := n3_; have KP := n4_
       clear n0_ n1_ n2_ n3_ n4_))
  go_loopg [2, 8] k (fun kq v2 v8 w' => ∃ (o : List Int) (x : Int), v8 = .int .i64 x ∧ Aside0 (walkL kq ps bl es o x = some r) ∧ Aside0 (kq ≤ k) ∧ Aside0 (Kd.R (Kd.int .i64) 3 w' w0.heap.size (fun _ => True) v2 o) ∧ Aside0 (w'.heap[g3]? = some (.cells #[.int .i64 root, .slice (some ad) ps.length c] 49 (0, 0))) ∧ Aside0 (w'.heap[g7]? = some (.cells #[.bool bl, .slice A2 es.length c2] 54 (0, 0))) ∧ Aside0 (Below w0.heap.size w0 w') ∧ Aside0 (Kept w w' (fun k => some k = (Value.slice Av xs.length cv).ownBlock)) ∧ Aside0 (∀ k, some k = v2.ownBlock → some k = (Value.slice Av xs.length cv).ownBlock ∨ w.heap.size ≤ k))
  case atStart => exact ⟨xs ++ [i], 0, rfl, H', ⟨Nat.le_refl _⟩, HO, BK3, BK7, HBW, KP, OW5⟩
  case round =>
    clear H' HO BK3 BK7 HBW KP OW5; obtain ⟨o, x, rfl, HA, HK1, HO, BK3, BK7, HBW, KP, OW⟩ := hrel
    cases gk with
    | zero => exact absurd HA.out (by simp [walkL])
    | succ k1 =>
      have H := HA.out; clear HA; rw [walkL] at H; have hk0 : wr.cell? ⟨g7, 0, none⟩ = some (.bool bl) := (blk_cell BK7.out 0).trans rfl; have hk1 : wr.cell? ⟨g7, 1, none⟩ = some (.slice A2 es.length c2) := (blk_cell BK7.out 1).trans rfl; obtain ⟨Ao, co, eo⟩ := Kd.R_slice HO.out; subst eo
      by_cases c1 : x < (es.length : Int)
      · rw [if_pos c1] at H
        have c1b : decide (x < (es.length : Int)) = true := decide_eq_true c1
        cases bl with
        | true =>
          rw [if_pos rfl] at H; obtain rfl := Option.some.inj H; go_wp2; go_ret; exact ⟨_, rfl, HO.out, HBW.out, KP.out, OW.out⟩
        | false =>
          rw [if_neg (by decide)] at H
          by_cases c2b : 0 ≤ x
          · rw [if_pos c2b] at H
            obtain ⟨o2, h2, H⟩ := Option.bind_eq_some_iff.mp H; have H2 := Aside0.mk h2; have H' := Aside0.mk H; clear H h2
            try go_wp2
            obtain ⟨ad2, e2, hy0, -, -, -, -⟩ := at_T103 HC2.out x c2b c1; subst e2; have HY0 := Aside0.mk hy0; replace hy0 := (HBW.out.cell (World.block_lt_of_cell? w0 _ hy0)).trans hy0; have p290 := eq_true c1; have q290 := eq_true c2b; refine start_ (n := 10) (S := fun w' => w'.cell? ⟨g3, 0, none⟩ = some (.int .i64 root) ∧ w'.cell? ⟨g3, 1, none⟩ = some (.slice (some ad) ps.length c) ∧ w'.cell? ⟨g7, 1, none⟩ = some (.slice (some ad2) es.length c2) ∧ w'.cell? (ad2.add (x.toNat * 5)) = some (.int .i64 (rd_T103 es x).f0)) (ds := []) #[false, false, false, false, false, false, false, false, false, false] (by kernel_rfl) rfl rfl ⟨(blk_cell BK3.out 0).trans rfl, (blk_cell BK3.out 1).trans rfl, (blk_cell BK7.out 1).trans rfl, hy0⟩ (fun hHeld => ?_); have n0_ := Aside0.mk (Kd.R_drew HO.out); have n1_ := Aside0.mk (blk_drew BK3.out); have n2_ := Aside0.mk (blk_drew BK7.out); have n3_ := Aside0.mk (below_drew1 HBW.out); have n4_ := Aside0.mk (KP.out.drew); clear HO BK3 BK7 HBW KP hk0 hk1 hy0
            generalize wr.drew = w15 at n0_ n1_ n2_ n3_ n4_ hHeld ⊢
            refine pure_ (i := 1) (N := some 54) (v := ?_) (a' := ?_) #[false, true, false, false, false, false, false, false, false, false] rfl rfl (by kernel_rfl) (fun _ _ _ h => h) (Or.inl ⟨by rfl, ?_⟩) ?_ ?_; rotate_left
            · intro w'
              go_simp
              with_reducible rfl
            rotate_left
            · exact pz
            refine pure_ (i := 3) (N := some 56) (v := ?_) (a' := ?_) #[false, true, false, true, false, false, false, false, false, false] rfl rfl (by kernel_rfl) (fun _ _ _ h => h) (Or.inl ⟨by rfl, ?_⟩) ?_ ?_; rotate_left
            · intro w'
              go_simp
              with_reducible rfl
            rotate_left
            · exact pz
            refine pure_ (i := 7) (N := some 60) (v := ?_) (a' := ?_) #[false, true, false, true, false, false, false, true, false, false] rfl rfl (by kernel_rfl) (fun _ _ _ h => h) (Or.inl ⟨by rfl, ?_⟩) ?_ ?_; rotate_left
            · intro w'
              go_simp
              with_reducible rfl
            rotate_left
            · exact pz
            refine take_ (i := 0) (N := some 53) (v := ?_) (a' := ?_) #[true, true, false, true, false, false, false, true, false, false] rfl rfl (by kernel_rfl) (fun _ _ _ h => h) (Or.inl ⟨by rfl, ?_⟩) hHeld ?_ ?_; rotate_left
            · rintro w' ⟨s0, s1, s2, s3⟩
              go_simp
              with_reducible rfl
            rotate_left
            · exact pz
            refine take_ (i := 2) (N := some 55) (v := ?_) (a' := ?_) #[true, true, true, true, false, false, false, true, false, false] rfl rfl (by kernel_rfl) (fun _ _ _ h => h) (Or.inl ⟨by rfl, ?_⟩) hHeld ?_ ?_; rotate_left
            · rintro w' ⟨s0, s1, s2, s3⟩
              go_simp
              with_reducible rfl
            rotate_left
            · exact pz
            refine pure_ (i := 4) (N := some 57) (v := ?_) (a' := ?_) #[true, true, true, true, true, false, false, true, false, false] rfl rfl (by kernel_rfl) (fun _ _ _ h => h) (Or.inl ⟨by rfl, ?_⟩) ?_ ?_; rotate_left
            · intro w'
              go_simp
              with_reducible rfl
            rotate_left
            · exact pz
            refine pure_ (i := 5) (N := some 58) (v := ?_) (a' := ?_) #[true, true, true, true, true, true, false, true, false, false] rfl rfl (by kernel_rfl) (fun _ _ _ h => h) (Or.inl ⟨by rfl, ?_⟩) ?_ ?_; rotate_left
            · intro w'
              go_simp
              with_reducible rfl
            rotate_left
            · exact pz
            refine take_ (i := 6) (N := some 59) (v := ?_) (a' := ?_) #[true, true, true, true, true, true, true, true, false, false] rfl rfl (by kernel_rfl) (fun _ _ _ h => h) (Or.inl ⟨by rfl, ?_⟩) hHeld ?_ ?_; rotate_left
            · rintro w' ⟨s0, s1, s2, s3⟩
              go_simp
              with_reducible rfl
            rotate_left
            · exact pz
            refine one_ (i := 8) (N := some 61) #[true, true, true, true, true, true, true, true, true, false] rfl rfl (by kernel_rfl) (by decide) (fun K hK => ?_); refine call_ 124 #[.agg #[.int .i64 root, .slice (some ad) ps.length c], .int .i64 (rd_T103 es x).f0, .slice Ao o.length co] (by rfl) rfl (by first | (go_simp; done) | (go_simp; rfl)) ?_; refine (IH.out k1 (by have := HK1.out; omega) root _ _ o o2 _ n3_.out n0_.out H2.out).mono ?_
            rintro e w16 ⟨v16, rfl, ho, hb, hk, hw⟩
            refine ⟨v16, rfl, ?_⟩; have BK3 := Aside0.mk ((hk.2 _ (blk_lt n1_.out) (fun e => Kd.R_ne n0_.out n1_.out (by decide) e)).trans n1_.out); have BK7 := Aside0.mk ((hk.2 _ (blk_lt n2_.out) (fun e => Kd.R_ne n0_.out n2_.out (by decide) e)).trans n2_.out); have KP := Aside0.mk (Kept.then_ n4_.out hk (fun k e => OW.out k e)); have OW2 := Aside0.mk (show ∀ k, some k = v16.ownBlock → some k = (Value.slice Av xs.length cv).ownBlock ∨ w.heap.size ≤ k from fun k e => (hw k e).elim (fun h => OW.out k h) (fun h => .inr (Nat.le_trans n4_.out.1 h))); have HO := Aside0.mk ho; have HBW := Aside0.mk hb; have hy0 := hHeld.2.2.2; clear n0_ n1_ n2_ n3_ n4_ ho hb hk hw OW; refine hK.out _ _ ⟨(blk_cell BK3.out 0).trans rfl, (blk_cell BK3.out 1).trans rfl, (blk_cell BK7.out 1).trans rfl, (HBW.out.cell (World.block_lt_of_cell? w0 _ HY0.out)).trans HY0.out⟩ (fun hHeld => ?_); refine norm_ (a' := ?_) ?_ ?_; rotate_left
            · exact pz
            refine pure_ (i := 9) (N := some 2) (v := ?_) (a' := ?_) #[true, true, true, true, true, true, true, true, true, true] rfl rfl (by kernel_rfl) (fun _ _ _ h => h) (Or.inl ⟨by rfl, ?_⟩) ?_ ?_; rotate_left
            · intro w'
              go_simp
              with_reducible rfl
            rotate_left
            · exact pz
            refine done_ (by kernel_rfl) ?_; go_wp2; go_roundg k1
            case measure => have := HK1.out; omega
            case rel => exact ⟨o2, wrap64 (x + 1), rfl, H', ⟨by have := HK1.out; omega⟩, HO, BK3, BK7, HBW, KP, OW2⟩
          · rw [if_neg c2b] at H
            exact absurd H (by simp)
      · rw [if_neg c1] at H
        have c1b : decide (x < (es.length : Int)) = false := decide_eq_false c1; obtain rfl := Option.some.inj H; go_wp2; go_ret; exact ⟨_, rfl, HO.out, HBW.out, KP.out, OW.out⟩

theorem spec_walk (w0 : World) (A : Option Addr) (c : Nat) (ps : List S90) (hr0 : Kd.C k90 w0 A ps.length ps) (hc0 : ps.length ≤ c) : ∀ k k', k' ≤ k → WalkSaid w0 A c ps k'
  | 0, k', hk => by
    obtain rfl : k' = 0 := by omega
    intro root i v xs r w _ _ h
    simp [walkM] at h
  | k + 1, k', hk => by
    rcases Nat.lt_or_ge k' (k + 1) with hlt | hge
    · exact spec_walk w0 A c ps hr0 hc0 k k' (by omega)
    obtain rfl : k' = k + 1 := by omega
    intro root i v xs r w hb hv h
    rw [walkM] at h
    by_cases h1 : pgOk ps i
    · rw [if_pos h1] at h
      by_cases h3 : xs.length < 17592186044415
      · rw [if_pos h3] at h
        obtain ⟨q, hq⟩ := has_f xs i (by omega)
        by_cases h2 : i ∈ xs
        · rw [if_pos h2] at h
          obtain rfl := Option.some.inj h; rw [decide_eq_true h2] at hq; exact walk_met w0 A c ps hr0 hc0 root i v xs w hb hv h1 q hq
        · rw [if_neg h2] at h
          rw [decide_eq_false h2] at hq; exact walk_new w0 A c ps hr0 hc0 k (fun k' hk' => spec_walk w0 A c ps hr0 hc0 k k' hk') root i v xs r w hb hv h1 q hq h3 h
      · rw [if_neg h3] at h
        exact absurd h (by simp)
    · rw [if_neg h1] at h
      obtain rfl := Option.some.inj h; exact walk_out w0 A c ps hr0 hc0 root i v xs w hb hv h1

/-- The reference's Reach. -/
def spec_Reach.f (k : Nat) (a0_0 : Int) (l0_1 : List S90) : Option (List Int) := walkM k l0_1 a0_0 []
theorem spec_Reach.mono : ∀ a0 a1 k, LeO (spec_Reach.f k a0 a1) (spec_Reach.f (k + 1) a0 a1) := fun a0 a1 k => (walk_mono k).1 _ _ _
set_option maxHeartbeats 8000000 in
set_option maxRecDepth 100000 in
theorem spec_Reach.calls (k : Nat) (a0_0 : Int) (A0_1 : Option Addr) (c0_1 : Nat) (l0_1 : List (S90)) (r : List Int) (w : World) (hr0_1 : Kd.C k90 w A0_1 l0_1.length l0_1) (hc0_1 : l0_1.length ≤ c0_1) (h : spec_Reach.f k a0_0 l0_1 = some r) :
    Calls Try.prog 85 #[.agg #[.int .i64 a0_0, .slice A0_1 l0_1.length c0_1]] w fun e w' => ∃ v0_ : Value, e = .returned (v0_) ∧ Kd.R (Kd.int .i64) 3 w' w.heap.size (fun _ => True) v0_ r ∧ Below w.heap.size w w' := by
  have HS := Aside0.mk (spec_walk w A0_1 c0_1 l0_1 hr0_1 hc0_1 k k (Nat.le_refl _)); have H' := Aside0.mk h; clear hr0_1 hc0_1 h; have hu2 := Try.underlying49
  go_enter Try.func85, Try.ntmps85
  go_wp2_with (first
    | ((with_reducible refine gate_dst (N := 1) rfl ?_); refine box_event ?hg (N := 1) ?hd (cs := #[.int .i64 a0_0, .slice A0_1 l0_1.length c0_1]) (t := 49) ?hr ?_; (case hd => rfl); (case hg => rfl); (case hr => first | (go_simp; done) | (go_simp; rfl)); intro g1 hg w1 hbox hb1; have hk0 : w1.cell? ⟨g1, 0, none⟩ = some (.int .i64 a0_0) := (blk_cell hbox 0).trans rfl; have hk1 : w1.cell? ⟨g1, 1, none⟩ = some (.slice A0_1 l0_1.length c0_1) := (blk_cell hbox 1).trans rfl; have HW1 := Aside0.mk hb1; clear hb1 hg hbox)
    | ((with_reducible refine gate_dst (N := 6) rfl ?_); refine Kd.R_lit (Kd.int .i64) _ 3 ?hg (N := 6) ?hd (xs := ([] : List Int)) (inner := []) (ok := fun _ => True) (okp := fun _ => True) ?hr ?hp (fun _ hk => hk) trivial (Below.refl _ _) (Nat.le_refl _) (by simp) ?_; (case hd => rfl); (case hg => rfl); (case hr => first | (go_simp; done) | (go_simp; rfl)); (case hp => exact (Reps.none _ _)); intro v6 w6 ho6 hb6 hg6 hn6; have HO6 := Aside0.mk ho6; have HB6 := Aside0.mk hb6; clear ho6 hb6 hg6 hn6)
    | (go_at_call 124; refine (HS.out a0_0 a0_0 _ [] r _ (below_step HW1.out HB6.out) (Kd.R_lower HO6.out HW1.out.size) H'.out).mono ?_; rintro e w7 ⟨v7, rfl, ho, hb, -, -⟩))
  go_ret; exact ⟨_, rfl, ho, hb⟩

end Go.Proofs.Ytngjaajcdbodeaa.All

namespace Go.Proofs.Ytngjaajcdbodeaa.All
open Go.RowKit Go.Proofs.YtngjaajcdbodeaaW.PrintWords Go.Proofs.YtngjaajcdbodeaaW.PrintLast Go.Proofs.YtngjaajcdbodeaaW.PrintMore Go.Proofs.Ytngjaajcdbodeaa.Sq
attribute [local go_sem] max2_int min2_int max_two min_two max_three min_three max_four min_four 
set_option linter.unusedVariables false
set_option linter.unusedSimpArgs false

/-! ### spec_BoxOk: function 111 -/
def spec_BoxOk.f (a0_0 : Int) (a0_1 : Int) (a0_2 : Int) (a0_3 : Int) : Option (Bool) := (spec_l1In.f a0_0 0 255).bind fun t102 => (if t102 = true then ((spec_l1In.f a0_1 0 255).bind fun t103 => (if t103 = true then ((spec_l1In.f a0_2 a0_0 255).bind fun t104 => (if t104 = true then ((spec_l1In.f a0_3 a0_1 255).bind fun t105 => (some t105)) else (some false))) else (some false))) else (some false))
set_option maxHeartbeats 8000000 in
set_option maxRecDepth 100000 in
theorem spec_BoxOk.calls (a0_0 : Int) (a0_1 : Int) (a0_2 : Int) (a0_3 : Int) (r : Bool) (w : World) (h : spec_BoxOk.f a0_0 a0_1 a0_2 a0_3 = some r) :
    Calls Try.prog 111 #[.agg #[.int .i64 a0_0, .int .i64 a0_1, .int .i64 a0_2, .int .i64 a0_3]] w fun e w' => e = .returned (.bool r) ∧ Below w.heap.size w w' := by
  have hu32 := Try.underlying32; have HB := Aside0.mk (Below.refl w.heap.size w); have H : ((spec_l1In.f a0_0 0 255).bind fun t102 => (if t102 = true then ((spec_l1In.f a0_1 0 255).bind fun t103 => (if t103 = true then ((spec_l1In.f a0_2 a0_0 255).bind fun t104 => (if t104 = true then ((spec_l1In.f a0_3 a0_1 255).bind fun t105 => (some t105)) else (some false))) else (some false))) else (some false))) = some r := h; clear h; replace H := Option.bind_eq_some_iff.mp H; obtain ⟨t102, A20, H⟩ := H; replace H : (if t102 = true then ((spec_l1In.f a0_1 0 255).bind fun t103 => (if t103 = true then ((spec_l1In.f a0_2 a0_0 255).bind fun t104 => (if t104 = true then ((spec_l1In.f a0_3 a0_1 255).bind fun t105 => (some t105)) else (some false))) else (some false))) else (some false)) = some r := H; have A2 := Aside0.mk A20; clear A20
  by_cases c3 : t102 = true
  · subst c3
    replace H : ((spec_l1In.f a0_1 0 255).bind fun t103 => (if t103 = true then ((spec_l1In.f a0_2 a0_0 255).bind fun t104 => (if t104 = true then ((spec_l1In.f a0_3 a0_1 255).bind fun t105 => (some t105)) else (some false))) else (some false))) = some r := (by rw [if_pos rfl] at H; exact H); replace H := Option.bind_eq_some_iff.mp H; obtain ⟨t103, A40, H⟩ := H; replace H : (if t103 = true then ((spec_l1In.f a0_2 a0_0 255).bind fun t104 => (if t104 = true then ((spec_l1In.f a0_3 a0_1 255).bind fun t105 => (some t105)) else (some false))) else (some false)) = some r := H; have A4 := Aside0.mk A40; clear A40
    by_cases c5 : t103 = true
    · subst c5
      replace H : ((spec_l1In.f a0_2 a0_0 255).bind fun t104 => (if t104 = true then ((spec_l1In.f a0_3 a0_1 255).bind fun t105 => (some t105)) else (some false))) = some r := (by rw [if_pos rfl] at H; exact H); replace H := Option.bind_eq_some_iff.mp H; obtain ⟨t104, A60, H⟩ := H; replace H : (if t104 = true then ((spec_l1In.f a0_3 a0_1 255).bind fun t105 => (some t105)) else (some false)) = some r := H; have A6 := Aside0.mk A60; clear A60
      by_cases c7 : t104 = true
      · subst c7
        replace H : ((spec_l1In.f a0_3 a0_1 255).bind fun t105 => (some t105)) = some r := (by rw [if_pos rfl] at H; exact H); replace H := Option.bind_eq_some_iff.mp H; obtain ⟨t105, A80, H⟩ := H; replace H : (some t105) = some r := H; have A8 := Aside0.mk A80; clear A80; obtain rfl := Option.some.inj H
        go_enter Try.func111, Try.ntmps111
        go_wp2_with (first | ((with_reducible refine gate_dst (N := 1) rfl ?_); refine box_event ?hg (N := 1) ?hd (cs := #[.int .i64 a0_0, .int .i64 a0_1, .int .i64 a0_2, .int .i64 a0_3]) (t := 32) ?hr ?_; (case hd => rfl); (case hg => rfl); (case hr => first | (go_simp; done) | (go_simp; rfl)); intro gb101 hg w9 hbox hb; have n0_ := Aside0.mk (below_step (bz HB.out) hb); have n1_ := Aside0.mk (hbox); have n2_ := Aside0.mk ((by rw [hg]; exact (below_size (bz HB.out)) : w.heap.size ≤ gb101)); have n3_ := Aside0.mk ((by rw [hg]; exact (below_size (bz HB.out)) : w.heap.size ≤ gb101)); clear HB; have HB := n0_; have BK101 := n1_; have GW101 := n2_; have GE101 := n3_; clear n0_ n1_ n2_ n3_; clear hb hbox hg; have hcz10_0 := fz BK101.out 0 (.int .i64 a0_0); have hcz10_1 := fz BK101.out 1 (.int .i64 a0_1); have hcz10_2 := fz BK101.out 2 (.int .i64 a0_2); have hcz10_3 := fz BK101.out 3 (.int .i64 a0_3); have hfz10_0 := blk_frozen BK101.out 0; have hfz10_1 := blk_frozen BK101.out 1; have hfz10_2 := blk_frozen BK101.out 2; have hfz10_3 := blk_frozen BK101.out 3) | ((with_reducible refine gate_callee (f := 72) rfl ?_); refine goesL_ (some 5) rfl rfl Try.func72 (by kernel_rfl) rfl #[.int .i64 a0_0, .int .i64 0, .int .i64 255] rfl dz ?_; (with_reducible refine (spec_l1In.calls a0_0 0 255 true _ A2.out).mono ?_); rintro e w' ⟨rfl, ⟨nd, rfl⟩⟩; refine ⟨_, rfl, ?_⟩) | (go_at_call 72; (with_reducible refine (spec_l1In.calls a0_1 0 255 true _ A4.out).mono ?_); rintro e w' ⟨rfl, ⟨nd, rfl⟩⟩) | (go_at_call 72; (with_reducible refine (spec_l1In.calls a0_2 a0_0 255 true _ A6.out).mono ?_); rintro e w' ⟨rfl, ⟨nd, rfl⟩⟩) | (go_at_call 72; (with_reducible refine (spec_l1In.calls a0_3 a0_1 255 t105 _ A8.out).mono ?_); rintro e w' ⟨rfl, ⟨nd, rfl⟩⟩))
        go_ret; exact ⟨ez, b1 GE101.out HB.out⟩
      · replace c7 := Bool.eq_false_iff.mpr c7
        subst c7; replace H : (some false) = some r := (by rw [if_neg (show ¬ (false = true) by decide)] at H; exact H); obtain rfl := Option.some.inj H
        go_enter Try.func111, Try.ntmps111
        go_wp2_with (first | ((with_reducible refine gate_dst (N := 1) rfl ?_); refine box_event ?hg (N := 1) ?hd (cs := #[.int .i64 a0_0, .int .i64 a0_1, .int .i64 a0_2, .int .i64 a0_3]) (t := 32) ?hr ?_; (case hd => rfl); (case hg => rfl); (case hr => first | (go_simp; done) | (go_simp; rfl)); intro gb101 hg w11 hbox hb; have n0_ := Aside0.mk (below_step (bz HB.out) hb); have n1_ := Aside0.mk (hbox); have n2_ := Aside0.mk ((by rw [hg]; exact (below_size (bz HB.out)) : w.heap.size ≤ gb101)); have n3_ := Aside0.mk ((by rw [hg]; exact (below_size (bz HB.out)) : w.heap.size ≤ gb101)); clear HB; have HB := n0_; have BK101 := n1_; have GW101 := n2_; have GE101 := n3_; clear n0_ n1_ n2_ n3_; clear hb hbox hg; have hcz12_0 := fz BK101.out 0 (.int .i64 a0_0); have hcz12_1 := fz BK101.out 1 (.int .i64 a0_1); have hcz12_2 := fz BK101.out 2 (.int .i64 a0_2); have hcz12_3 := fz BK101.out 3 (.int .i64 a0_3); have hfz12_0 := blk_frozen BK101.out 0; have hfz12_1 := blk_frozen BK101.out 1; have hfz12_2 := blk_frozen BK101.out 2; have hfz12_3 := blk_frozen BK101.out 3) | ((with_reducible refine gate_callee (f := 72) rfl ?_); refine goesL_ (some 5) rfl rfl Try.func72 (by kernel_rfl) rfl #[.int .i64 a0_0, .int .i64 0, .int .i64 255] rfl dz ?_; (with_reducible refine (spec_l1In.calls a0_0 0 255 true _ A2.out).mono ?_); rintro e w' ⟨rfl, ⟨nd, rfl⟩⟩; refine ⟨_, rfl, ?_⟩) | (go_at_call 72; (with_reducible refine (spec_l1In.calls a0_1 0 255 true _ A4.out).mono ?_); rintro e w' ⟨rfl, ⟨nd, rfl⟩⟩) | (go_at_call 72; (with_reducible refine (spec_l1In.calls a0_2 a0_0 255 false _ A6.out).mono ?_); rintro e w' ⟨rfl, ⟨nd, rfl⟩⟩))
        go_ret; exact ⟨ez, b1 GE101.out HB.out⟩
    · replace c5 := Bool.eq_false_iff.mpr c5
      subst c5; replace H : (some false) = some r := (by rw [if_neg (show ¬ (false = true) by decide)] at H; exact H); obtain rfl := Option.some.inj H
      go_enter Try.func111, Try.ntmps111
      go_wp2_with (first | ((with_reducible refine gate_dst (N := 1) rfl ?_); refine box_event ?hg (N := 1) ?hd (cs := #[.int .i64 a0_0, .int .i64 a0_1, .int .i64 a0_2, .int .i64 a0_3]) (t := 32) ?hr ?_; (case hd => rfl); (case hg => rfl); (case hr => first | (go_simp; done) | (go_simp; rfl)); intro gb101 hg w13 hbox hb; have n0_ := Aside0.mk (below_step (bz HB.out) hb); have n1_ := Aside0.mk (hbox); have n2_ := Aside0.mk ((by rw [hg]; exact (below_size (bz HB.out)) : w.heap.size ≤ gb101)); have n3_ := Aside0.mk ((by rw [hg]; exact (below_size (bz HB.out)) : w.heap.size ≤ gb101)); clear HB; have HB := n0_; have BK101 := n1_; have GW101 := n2_; have GE101 := n3_; clear n0_ n1_ n2_ n3_; clear hb hbox hg; have hcz14_0 := fz BK101.out 0 (.int .i64 a0_0); have hcz14_1 := fz BK101.out 1 (.int .i64 a0_1); have hcz14_2 := fz BK101.out 2 (.int .i64 a0_2); have hcz14_3 := fz BK101.out 3 (.int .i64 a0_3); have hfz14_0 := blk_frozen BK101.out 0; have hfz14_1 := blk_frozen BK101.out 1; have hfz14_2 := blk_frozen BK101.out 2; have hfz14_3 := blk_frozen BK101.out 3) | ((with_reducible refine gate_callee (f := 72) rfl ?_); refine goesL_ (some 5) rfl rfl Try.func72 (by kernel_rfl) rfl #[.int .i64 a0_0, .int .i64 0, .int .i64 255] rfl dz ?_; (with_reducible refine (spec_l1In.calls a0_0 0 255 true _ A2.out).mono ?_); rintro e w' ⟨rfl, ⟨nd, rfl⟩⟩; refine ⟨_, rfl, ?_⟩) | (go_at_call 72; (with_reducible refine (spec_l1In.calls a0_1 0 255 false _ A4.out).mono ?_); rintro e w' ⟨rfl, ⟨nd, rfl⟩⟩))
      go_ret; exact ⟨ez, b1 GE101.out HB.out⟩
  · replace c3 := Bool.eq_false_iff.mpr c3
    subst c3; replace H : (some false) = some r := (by rw [if_neg (show ¬ (false = true) by decide)] at H; exact H); obtain rfl := Option.some.inj H
    go_enter Try.func111, Try.ntmps111
    go_wp2_with (first | ((with_reducible refine gate_dst (N := 1) rfl ?_); refine box_event ?hg (N := 1) ?hd (cs := #[.int .i64 a0_0, .int .i64 a0_1, .int .i64 a0_2, .int .i64 a0_3]) (t := 32) ?hr ?_; (case hd => rfl); (case hg => rfl); (case hr => first | (go_simp; done) | (go_simp; rfl)); intro gb101 hg w15 hbox hb; have n0_ := Aside0.mk (below_step (bz HB.out) hb); have n1_ := Aside0.mk (hbox); have n2_ := Aside0.mk ((by rw [hg]; exact (below_size (bz HB.out)) : w.heap.size ≤ gb101)); have n3_ := Aside0.mk ((by rw [hg]; exact (below_size (bz HB.out)) : w.heap.size ≤ gb101)); clear HB; have HB := n0_; have BK101 := n1_; have GW101 := n2_; have GE101 := n3_; clear n0_ n1_ n2_ n3_; clear hb hbox hg; have hcz16_0 := fz BK101.out 0 (.int .i64 a0_0); have hcz16_1 := fz BK101.out 1 (.int .i64 a0_1); have hcz16_2 := fz BK101.out 2 (.int .i64 a0_2); have hcz16_3 := fz BK101.out 3 (.int .i64 a0_3); have hfz16_0 := blk_frozen BK101.out 0; have hfz16_1 := blk_frozen BK101.out 1; have hfz16_2 := blk_frozen BK101.out 2; have hfz16_3 := blk_frozen BK101.out 3) | ((with_reducible refine gate_callee (f := 72) rfl ?_); refine goesL_ (some 5) rfl rfl Try.func72 (by kernel_rfl) rfl #[.int .i64 a0_0, .int .i64 0, .int .i64 255] rfl dz ?_; (with_reducible refine (spec_l1In.calls a0_0 0 255 false _ A2.out).mono ?_); rintro e w' ⟨rfl, ⟨nd, rfl⟩⟩; refine ⟨_, rfl, ?_⟩))
    go_ret; exact ⟨ez, b1 GE101.out HB.out⟩

attribute [local go_sem] max2_int min2_int max_two min_two max_three min_three max_four min_four 
set_option linter.unusedVariables false
set_option linter.unusedSimpArgs false

/-! ### spec_EntryAt: function 125 -/
def spec_EntryAt.l0 : Nat → List (S103) → Int → Int → Option (Int)
  | 0, _, _, _ => none
  | k + 1, x0, x1, x5 => if x5 < (x0.length : Int) then (if 0 ≤ x5 then (if ((rd_T103 x0 x5).f0) = x1 then (some x5) else (spec_EntryAt.l0 k x0 x1 (wrap64 (x5 + 1)))) else (none)) else (some (-1))
def spec_EntryAt.f (k : Nat) (l0 : List (S103)) (a1 : Int) : Option (Int) := spec_EntryAt.l0 k l0 a1 0
theorem spec_EntryAt.mono_l : ∀ k, (∀ y0 y1 y2, LeO (spec_EntryAt.l0 k y0 y1 y2) (spec_EntryAt.l0 (k + 1) y0 y1 y2))
  | 0 => fun _ _ _ r h => by simp [spec_EntryAt.l0] at h
  | k + 1 => by
    have ih0 := spec_EntryAt.mono_l k
    · intro y0 y1 y2
      unfold spec_EntryAt.l0
      repeat' first | (with_reducible first | exact ih0 _ _ _ | exact LeO.refl _ | exact LeO.none _ | refine LeO.ite ?_ ?_ | refine LeO.bind ?_ (fun _ => ?_)) | exact ih0 _ _ _ | exact LeO.none _ | refine LeO.ite ?_ ?_ | refine LeO.bind ?_ (fun _ => ?_)
theorem spec_EntryAt.mono : ∀ a0 a1 k, LeO (spec_EntryAt.f k a0 a1) (spec_EntryAt.f (k + 1) a0 a1) := by
  intro a0 a1 k
  have ih0 := spec_EntryAt.mono_l k; unfold spec_EntryAt.f
  repeat' first | (with_reducible first | exact ih0 _ _ _ | exact LeO.refl _ | exact LeO.none _ | refine LeO.ite ?_ ?_ | refine LeO.bind ?_ (fun _ => ?_)) | exact ih0 _ _ _ | exact LeO.none _ | refine LeO.ite ?_ ?_ | refine LeO.bind ?_ (fun _ => ?_)
set_option maxHeartbeats 8000000 in
set_option maxRecDepth 100000 in
theorem spec_EntryAt.calls (k : Nat) (A0 : Option Addr) (c0 : Nat) (l0 : List (S103)) (a1 : Int) (r : Int) (w : World) (hr0 : Kd.C k103 w A0 l0.length l0) (hc0 : l0.length ≤ c0) (h : spec_EntryAt.f k l0 a1 = some r) :
    Calls Try.prog 125 #[.slice A0 l0.length c0, .int .i64 a1] w fun e w' => e = .returned (.int .i64 r) ∧ Drawn0 w w' := by
  have HR0 := Aside0.mk hr0; have HC0 := Aside0.mk hc0; clear hr0 hc0; have H : (spec_EntryAt.l0 k l0 a1 0) = some r := h; clear h; have H' := Aside0.mk H; clear H
  go_enter Try.func125, Try.ntmps125
  go_wp2
  go_loopg [5] k (fun kq v5 w' => ∃ (x5_1 : Int), v5 = .int .i64 x5_1 ∧ Aside0 (spec_EntryAt.l0 kq l0 a1 x5_1 = some r) ∧ Aside0 (kq ≤ k) ∧ Drawn0 w w')
  case atStart => exact ⟨(0), az, H', ⟨Nat.le_refl _⟩, by repeat (first | exact Drawn0.refl _ | apply Drawn0.step)⟩
  case round =>
    clear H'; (try clear c1); (try clear p2); obtain ⟨x5_1, rfl, HA, HK1, ⟨m1, rfl⟩⟩ := hrel
    cases gk with
    | zero => exact absurd HA.out (by simp [spec_EntryAt.l0])
    | succ k1 =>
      have H := HA.out; clear HA
      simp only [spec_EntryAt.l0] at H
      by_cases c3 : x5_1 < (l0.length : Int)
      · rw [if_pos c3] at H
        have c3b0 : decide (x5_1 < (l0.length : Int)) = true := decide_eq_true c3; clear c3
        by_cases c4 : 0 ≤ x5_1
        · rw [if_pos c4] at H
          have c4b0 : decide (0 ≤ x5_1) = true := decide_eq_true c4; clear c4
          by_cases c5 : ((rd_T103 l0 x5_1).f0) = a1
          · rw [if_pos c5] at H
            have c5b0 : (((rd_T103 l0 x5_1).f0) == a1) = true := beq_iff_eq.mpr c5; have c5b1 : (((rd_T103 l0 x5_1).f0) != a1) = false := bne_eq_false_iff_eq.mpr c5; clear c5; obtain rfl := Option.some.inj H; have p581 : 0 ≤ (x5_1 : Int) := of_decide_eq_true uz; have q581 : x5_1 < (l0.length : Int) := of_decide_eq_true uz; obtain ⟨ad581, e581, hx581_0, hx581_1, hx581_2, hx581_3, hx581_4⟩ := at_T103 HR0.out x5_1 p581 q581
            cases e581
            replace p581 := eq_true p581; replace q581 := eq_true q581; go_wp2; go_ret; exact ⟨by first | rfl | (simp; done) | (simp [*]; done), by repeat (first | exact Drawn0.refl _ | apply Drawn0.step)⟩
          · rw [if_neg c5] at H
            have c5b0 : (((rd_T103 l0 x5_1).f0) == a1) = false := beq_eq_false_iff_ne.mpr c5; have c5b1 : (((rd_T103 l0 x5_1).f0) != a1) = true := bne_iff_ne.mpr c5; have H' := Aside0.mk H; clear H; have p581 : 0 ≤ (x5_1 : Int) := of_decide_eq_true uz; have q581 : x5_1 < (l0.length : Int) := of_decide_eq_true uz; obtain ⟨ad581, e581, hx581_0, hx581_1, hx581_2, hx581_3, hx581_4⟩ := at_T103 HR0.out x5_1 p581 q581
            cases e581
            replace p581 := eq_true p581; replace q581 := eq_true q581; go_wp2; go_roundg k1
            case measure => have := HK1.out; omega
            case rel => exact ⟨(wrap64 (x5_1 + 1)), az, H', ⟨by have := HK1.out; omega⟩, by repeat (first | exact Drawn0.refl _ | apply Drawn0.step)⟩
        · rw [if_neg c4] at H
          exact absurd H (by simp)
      · rw [if_neg c3] at H
        have c3b0 : decide (x5_1 < (l0.length : Int)) = false := decide_eq_false c3; clear c3; obtain rfl := Option.some.inj H; go_wp2; go_ret; exact ⟨by first | rfl | (simp; done) | (simp [*]; done), by repeat (first | exact Drawn0.refl _ | apply Drawn0.step)⟩

attribute [local go_sem] max2_int min2_int max_two min_two max_three min_three max_four min_four 
set_option linter.unusedVariables false
set_option linter.unusedSimpArgs false

/-! ### spec_NodeOk: function 86 -/
def spec_NodeOk.l0 : Nat → Int → Bool → List (S103) → Option (Bool)
  | 0, _, _, _ => none
  | k + 1, x3, x583000, x583001 => if x3 < (x583001.length : Int) then (if 0 ≤ x3 then ((spec_BoxOk.f ((rd_T103 x583001 x3).f1.f0) ((rd_T103 x583001 x3).f1.f1) ((rd_T103 x583001 x3).f1.f2) ((rd_T103 x583001 x3).f1.f3)).bind fun t585 => (if t585 = true then ((spec_EntryAt.f k x583001 ((rd_T103 x583001 x3).f0)).bind fun t586 => (if t586 = x3 then (if x583000 = true then ((spec_l1In.f ((rd_T103 x583001 x3).f0) 1 999).bind fun t587 => (if t587 = true then (spec_NodeOk.l0 k (wrap64 (x3 + 1)) x583000 x583001) else (some false))) else ((spec_l1In.f ((rd_T103 x583001 x3).f0) 0 47).bind fun t588 => (if t588 = true then (spec_NodeOk.l0 k (wrap64 (x3 + 1)) x583000 x583001) else (some false)))) else (some false))) else (some false))) else (none)) else (if (x583001.length : Int) ≤ 4 then (if x583000 = true then (some true) else (some (decide ((x583001.length : Int) > 0)))) else (some false))
def spec_NodeOk.f (k : Nat) (a0_0 : Bool) (l0_1 : List (S103)) : Option (Bool) := spec_NodeOk.l0 k 0 a0_0 l0_1
theorem spec_NodeOk.mono_l : ∀ k, (∀ y0 y1 y2, LeO (spec_NodeOk.l0 k y0 y1 y2) (spec_NodeOk.l0 (k + 1) y0 y1 y2))
  | 0 => fun _ _ _ r h => by simp [spec_NodeOk.l0] at h
  | k + 1 => by
    have ih0 := spec_NodeOk.mono_l k
    · intro y0 y1 y2
      unfold spec_NodeOk.l0
      repeat' first | (with_reducible first | exact ih0 _ _ _ | exact spec_EntryAt.mono _ _ _ | exact LeO.refl _ | exact LeO.none _ | refine LeO.ite ?_ ?_ | refine LeO.bind ?_ (fun _ => ?_)) | exact ih0 _ _ _ | exact spec_EntryAt.mono _ _ _ | exact LeO.none _ | refine LeO.ite ?_ ?_ | refine LeO.bind ?_ (fun _ => ?_)
theorem spec_NodeOk.mono : ∀ a0 a1 k, LeO (spec_NodeOk.f k a0 a1) (spec_NodeOk.f (k + 1) a0 a1) := by
  intro a0 a1 k
  have ih0 := spec_NodeOk.mono_l k; unfold spec_NodeOk.f
  repeat' first | (with_reducible first | exact ih0 _ _ _ | exact spec_EntryAt.mono _ _ _ | exact LeO.refl _ | exact LeO.none _ | refine LeO.ite ?_ ?_ | refine LeO.bind ?_ (fun _ => ?_)) | exact ih0 _ _ _ | exact spec_EntryAt.mono _ _ _ | exact LeO.none _ | refine LeO.ite ?_ ?_ | refine LeO.bind ?_ (fun _ => ?_)
set_option maxHeartbeats 8000000 in
set_option maxRecDepth 100000 in
theorem spec_NodeOk.calls (k : Nat) (a0_0 : Bool) (A0_1 : Option Addr) (c0_1 : Nat) (l0_1 : List (S103)) (r : Bool) (w : World) (hr0_1 : Kd.C k103 w A0_1 l0_1.length l0_1) (hc0_1 : l0_1.length ≤ c0_1) (h : spec_NodeOk.f k a0_0 l0_1 = some r) :
    Calls Try.prog 86 #[.agg #[.bool a0_0, .slice A0_1 l0_1.length c0_1]] w fun e w' => e = .returned (.bool r) ∧ Below w.heap.size w w' := by
  have hu54 := Try.underlying54; have hu103 := Try.underlying103; have hu32 := Try.underlying32; have HR0_1 := Aside0.mk hr0_1; have HC0_1 := Aside0.mk hc0_1; clear hr0_1 hc0_1; have HB := Aside0.mk (Below.refl w.heap.size w); have H : (spec_NodeOk.l0 k 0 a0_0 l0_1) = some r := h; clear h; have H' := Aside0.mk H; clear H
  go_enter Try.func86, Try.ntmps86
  go_wp2_with (first | ((with_reducible refine gate_dst (N := 1) rfl ?_); (try (refine gate_guard (by rfl) ?_; dsimp only)); refine box_event ?hg (N := 1) ?hd (cs := #[.bool a0_0, .slice A0_1 l0_1.length c0_1]) (t := 54) ?hr ?_; (case hd => rfl); (case hg => rfl); (case hr => first | (go_simp; done) | (go_simp; rfl)); intro gb582 hg w2 hbox hb; have n0_ := Aside0.mk (below_step (bz HB.out) hb); have n1_ := Aside0.mk (hbox); have n2_ := Aside0.mk ((by rw [hg]; exact (below_size (bz HB.out)) : w.heap.size ≤ gb582)); have n3_ := Aside0.mk ((by rw [hg]; exact (below_size (bz HB.out)) : w.heap.size ≤ gb582)); clear HB; have HB := n0_; have BK582 := n1_; have GW582 := n2_; have GE582 := n3_; clear n0_ n1_ n2_ n3_; clear hb hbox hg))
  go_loopg [3] k (fun kq v3 w' => ∃ (x3_1 : Int), v3 = .int .i64 x3_1 ∧ Aside0 (spec_NodeOk.l0 kq x3_1 a0_0 l0_1 = some r) ∧ Aside0 (kq ≤ k) ∧ Aside0 (w'.heap[gb582]? = some (.cells #[.bool a0_0, (.slice A0_1 l0_1.length c0_1)] 54 (0, 0))) ∧ Aside0 (Below w.heap.size w w'))
  case atStart => exact ⟨(0), az, H', ⟨Nat.le_refl _⟩, ⟨kz BK582.out⟩, ⟨b1 GE582.out HB.out⟩⟩
  case round =>
    clear H'; (try clear p2); obtain ⟨x3_1, rfl, HA, HK1, BK582, HB⟩ := hrel
    cases gk with
    | zero => exact absurd HA.out (by simp [spec_NodeOk.l0])
    | succ k1 =>
      have H := HA.out; clear HA
      simp only [spec_NodeOk.l0] at H
      by_cases c3 : x3_1 < (l0_1.length : Int)
      · rw [if_pos c3] at H
        have c3b0 : decide (x3_1 < (l0_1.length : Int)) = true := decide_eq_true c3; clear c3
        by_cases c4 : 0 ≤ x3_1
        · rw [if_pos c4] at H
          have c4b0 : decide (0 ≤ x3_1) = true := decide_eq_true c4; clear c4; replace H := Option.bind_eq_some_iff.mp H; obtain ⟨t585, A50, H⟩ := H; replace H : (if t585 = true then ((spec_EntryAt.f k1 l0_1 ((rd_T103 l0_1 x3_1).f0)).bind fun t586 => (if t586 = x3_1 then (if a0_0 = true then ((spec_l1In.f ((rd_T103 l0_1 x3_1).f0) 1 999).bind fun t587 => (if t587 = true then (spec_NodeOk.l0 k1 (wrap64 (x3_1 + 1)) a0_0 l0_1) else (some false))) else ((spec_l1In.f ((rd_T103 l0_1 x3_1).f0) 0 47).bind fun t588 => (if t588 = true then (spec_NodeOk.l0 k1 (wrap64 (x3_1 + 1)) a0_0 l0_1) else (some false)))) else (some false))) else (some false)) = some r := H; have A5 := Aside0.mk A50; clear A50
          by_cases c6 : t585 = true
          · subst c6
            replace H : ((spec_EntryAt.f k1 l0_1 ((rd_T103 l0_1 x3_1).f0)).bind fun t586 => (if t586 = x3_1 then (if a0_0 = true then ((spec_l1In.f ((rd_T103 l0_1 x3_1).f0) 1 999).bind fun t587 => (if t587 = true then (spec_NodeOk.l0 k1 (wrap64 (x3_1 + 1)) a0_0 l0_1) else (some false))) else ((spec_l1In.f ((rd_T103 l0_1 x3_1).f0) 0 47).bind fun t588 => (if t588 = true then (spec_NodeOk.l0 k1 (wrap64 (x3_1 + 1)) a0_0 l0_1) else (some false)))) else (some false))) = some r := (by rw [if_pos rfl] at H; exact H); replace H := Option.bind_eq_some_iff.mp H; obtain ⟨t586, A70, H⟩ := H; replace H : (if t586 = x3_1 then (if a0_0 = true then ((spec_l1In.f ((rd_T103 l0_1 x3_1).f0) 1 999).bind fun t587 => (if t587 = true then (spec_NodeOk.l0 k1 (wrap64 (x3_1 + 1)) a0_0 l0_1) else (some false))) else ((spec_l1In.f ((rd_T103 l0_1 x3_1).f0) 0 47).bind fun t588 => (if t588 = true then (spec_NodeOk.l0 k1 (wrap64 (x3_1 + 1)) a0_0 l0_1) else (some false)))) else (some false)) = some r := H; have A7 := Aside0.mk A70; clear A70
            by_cases c8 : t586 = x3_1
            · rw [if_pos c8] at H
              have c8b0 : (t586 == x3_1) = true := beq_iff_eq.mpr c8; have c8b1 : (t586 != x3_1) = false := bne_eq_false_iff_eq.mpr c8; clear c8
              by_cases c9 : a0_0 = true
              · subst c9
                replace H : ((spec_l1In.f ((rd_T103 l0_1 x3_1).f0) 1 999).bind fun t587 => (if t587 = true then (spec_NodeOk.l0 k1 (wrap64 (x3_1 + 1)) true l0_1) else (some false))) = some r := (by rw [if_pos rfl] at H; exact H); replace H := Option.bind_eq_some_iff.mp H; obtain ⟨t587, A100, H⟩ := H; replace H : (if t587 = true then (spec_NodeOk.l0 k1 (wrap64 (x3_1 + 1)) true l0_1) else (some false)) = some r := H; have A10 := Aside0.mk A100; clear A100
                by_cases c11 : t587 = true
                · subst c11
                  replace H : (spec_NodeOk.l0 k1 (wrap64 (x3_1 + 1)) true l0_1) = some r := (by rw [if_pos rfl] at H; exact H); have H' := Aside0.mk H; clear H; have hcz12_0 := fz BK582.out 0 (.bool true); have hcz12_1 := fz BK582.out 1 (.slice A0_1 l0_1.length c0_1); have hfz12_0 := blk_frozen BK582.out 0; have hfz12_1 := blk_frozen BK582.out 1; have p583 : 0 ≤ (x3_1 : Int) := of_decide_eq_true uz; have q583 : x3_1 < (l0_1.length : Int) := of_decide_eq_true uz; obtain ⟨ad583, e583, hx583_0, hx583_1, hx583_2, hx583_3, hx583_4⟩ := at_T103 HR0_1.out x3_1 p583 q583
                  cases e583
                  replace hx583_0 := cz HB.out hx583_0; replace hx583_1 := cz HB.out hx583_1; replace hx583_2 := cz HB.out hx583_2; replace hx583_3 := cz HB.out hx583_3; replace hx583_4 := cz HB.out hx583_4; replace p583 := eq_true p583; replace q583 := eq_true q583
                  go_wp2_with (first | ((with_reducible refine gate_dst (N := 4) rfl ?_); (try (refine gate_guard (by rfl) ?_; dsimp only)); refine box_event ?hg (N := 4) ?hd (cs := #[.int .i64 0, .int .i64 0, .int .i64 0, .int .i64 0, .int .i64 0]) (t := 103) ?hr ?_; (case hd => rfl); (case hg => rfl); (case hr => first | (go_simp; done) | (go_simp; rfl)); intro gb584 hg w13 hbox hb; have n0_ := Aside0.mk (blk_below (g := gb582) (o := .cells #[.bool true, .slice (some ad583) l0_1.length c0_1] 54 (0, 0)) (kz BK582.out) hb); have n1_ := Aside0.mk (below_step (b1 GE582.out HB.out) hb); have n2_ := Aside0.mk (hbox); have n3_ := Aside0.mk ((by rw [hg]; exact (below_size (b1 GE582.out HB.out)) : w.heap.size ≤ gb584)); have n4_ := Aside0.mk ((by rw [hg]; exact (below_size (b1 GE582.out HB.out)) : w.heap.size ≤ gb584)); have n5_ := Aside0.mk ((by rw [hg]; exact Nat.ne_of_lt (blk_lt (g := gb582) (o := .cells #[.bool true, .slice (some ad583) l0_1.length c0_1] 54 (0, 0)) (kz BK582.out)) : gb582 ≠ gb584)); have n6_ := Aside0.mk ((by rw [hg]; exact Nat.ne_of_gt (blk_lt (g := gb582) (o := .cells #[.bool true, .slice (some ad583) l0_1.length c0_1] 54 (0, 0)) (kz BK582.out)) : gb584 ≠ gb582)); clear BK582; clear HB; have BK582 := n0_; have HB := n1_; have BK584 := n2_; have GW584 := n3_; have GE584 := n4_; have NB582_584 := n5_; have NB584_582 := n6_; clear n0_ n1_ n2_ n3_ n4_ n5_ n6_; clear hb hbox hg; have hnb14 := NB584_582.out; have hnc14 := NB582_584.out; have hcz15_0 := fz BK584.out 0 (.int .i64 0); have hcz15_1 := fz BK584.out 1 (.int .i64 0); have hcz15_2 := fz BK584.out 2 (.int .i64 0); have hcz15_3 := fz BK584.out 3 (.int .i64 0); have hcz15_4 := fz BK584.out 4 (.int .i64 0); have hfz15_0 := blk_frozen BK584.out 0; have hfz15_1 := blk_frozen BK584.out 1; have hfz15_2 := blk_frozen BK584.out 2; have hfz15_3 := blk_frozen BK584.out 3; have hfz15_4 := blk_frozen BK584.out 4) | ((with_reducible refine gate_callee (f := 111) rfl ?_); refine goesL_ (some 19) rfl rfl Try.func111 (by kernel_rfl) rfl #[.agg #[.int .i64 ((rd_T103 l0_1 x3_1).f1.f0), .int .i64 ((rd_T103 l0_1 x3_1).f1.f1), .int .i64 ((rd_T103 l0_1 x3_1).f1.f2), .int .i64 ((rd_T103 l0_1 x3_1).f1.f3)]] rfl dz ?_; (with_reducible refine (spec_BoxOk.calls ((rd_T103 l0_1 x3_1).f1.f0) ((rd_T103 l0_1 x3_1).f1.f1) ((rd_T103 l0_1 x3_1).f1.f2) ((rd_T103 l0_1 x3_1).f1.f3) true _ A5.out).mono ?_); rintro e w16 ⟨rfl, hb⟩; refine ⟨_, rfl, ?_⟩; have n0_ := Aside0.mk (blk_below (g := gb582) (o := .cells #[.bool true, .slice (some ad583) l0_1.length c0_1] 54 (0, 0)) (by (with_reducible repeat (first | refine blk_drewN ?_ _ | refine blk_drew ?_ | refine blk_alloc ?_ _)); refine blk_far ?_ NB582_584.out _; (with_reducible repeat (first | refine blk_drewN ?_ _ | refine blk_drew ?_ | refine blk_alloc ?_ _)); refine blk_far ?_ NB582_584.out _; (with_reducible repeat (first | refine blk_drewN ?_ _ | refine blk_drew ?_ | refine blk_alloc ?_ _)); refine blk_far ?_ NB582_584.out _; (with_reducible repeat (first | refine blk_drewN ?_ _ | refine blk_drew ?_ | refine blk_alloc ?_ _)); refine blk_far ?_ NB582_584.out _; (with_reducible repeat (first | refine blk_drewN ?_ _ | refine blk_drew ?_ | refine blk_alloc ?_ _)); refine blk_far ?_ NB582_584.out _; (with_reducible repeat (first | refine blk_drewN ?_ _ | refine blk_drew ?_ | refine blk_alloc ?_ _)); exact BK582.out) hb); have n1_ := Aside0.mk (blk_below (g := gb584) (o := .cells #[.int .i64 ((rd_T103 l0_1 x3_1).f0), .int .i64 ((rd_T103 l0_1 x3_1).f1.f0), .int .i64 ((rd_T103 l0_1 x3_1).f1.f1), .int .i64 ((rd_T103 l0_1 x3_1).f1.f2), .int .i64 ((rd_T103 l0_1 x3_1).f1.f3)] 103 (0, 0)) (by (with_reducible repeat (first | refine blk_drewN ?_ _ | refine blk_drew ?_ | refine blk_alloc ?_ _)); refine blk_put (cs := #[.int .i64 ((rd_T103 l0_1 x3_1).f0), .int .i64 ((rd_T103 l0_1 x3_1).f1.f0), .int .i64 ((rd_T103 l0_1 x3_1).f1.f1), .int .i64 ((rd_T103 l0_1 x3_1).f1.f2), .int .i64 0]) ?_ 4 _ rfl; (with_reducible repeat (first | refine blk_drewN ?_ _ | refine blk_drew ?_ | refine blk_alloc ?_ _)); refine blk_put (cs := #[.int .i64 ((rd_T103 l0_1 x3_1).f0), .int .i64 ((rd_T103 l0_1 x3_1).f1.f0), .int .i64 ((rd_T103 l0_1 x3_1).f1.f1), .int .i64 0, .int .i64 0]) ?_ 3 _ rfl; (with_reducible repeat (first | refine blk_drewN ?_ _ | refine blk_drew ?_ | refine blk_alloc ?_ _)); refine blk_put (cs := #[.int .i64 ((rd_T103 l0_1 x3_1).f0), .int .i64 ((rd_T103 l0_1 x3_1).f1.f0), .int .i64 0, .int .i64 0, .int .i64 0]) ?_ 2 _ rfl; (with_reducible repeat (first | refine blk_drewN ?_ _ | refine blk_drew ?_ | refine blk_alloc ?_ _)); refine blk_put (cs := #[.int .i64 ((rd_T103 l0_1 x3_1).f0), .int .i64 0, .int .i64 0, .int .i64 0, .int .i64 0]) ?_ 1 _ rfl; (with_reducible repeat (first | refine blk_drewN ?_ _ | refine blk_drew ?_ | refine blk_alloc ?_ _)); refine blk_put (cs := #[.int .i64 0, .int .i64 0, .int .i64 0, .int .i64 0, .int .i64 0]) ?_ 0 _ rfl; (with_reducible repeat (first | refine blk_drewN ?_ _ | refine blk_drew ?_ | refine blk_alloc ?_ _)); exact BK584.out) hb); have n2_ := Aside0.mk (below_step (b2 GE582.out GE584.out HB.out) hb); clear BK582; clear BK584; clear HB; have BK582 := n0_; have BK584 := n1_; have HB := n2_; clear n0_ n1_ n2_; (try clear hb); (try clear hb2); (try clear hk); (try clear hi); have hcz17_0 := fz BK582.out 0 (.bool true); have hcz17_1 := fz BK582.out 1 (.slice (some ad583) l0_1.length c0_1); have hfz17_0 := blk_frozen BK582.out 0; have hfz17_1 := blk_frozen BK582.out 1; have hcz18_0 : w16.cell? ⟨gb584, 0, none⟩ = some (.int .i64 ((rd_T103 l0_1 x3_1).f0)) := (blk_cell BK584.out 0).trans rfl; have hcz18_1 : w16.cell? ⟨gb584, 1, none⟩ = some (.int .i64 ((rd_T103 l0_1 x3_1).f1.f0)) := (blk_cell BK584.out 1).trans rfl; have hcz18_2 : w16.cell? ⟨gb584, 2, none⟩ = some (.int .i64 ((rd_T103 l0_1 x3_1).f1.f1)) := (blk_cell BK584.out 2).trans rfl; have hcz18_3 : w16.cell? ⟨gb584, 3, none⟩ = some (.int .i64 ((rd_T103 l0_1 x3_1).f1.f2)) := (blk_cell BK584.out 3).trans rfl; have hcz18_4 : w16.cell? ⟨gb584, 4, none⟩ = some (.int .i64 ((rd_T103 l0_1 x3_1).f1.f3)) := (blk_cell BK584.out 4).trans rfl; have hfz18_0 := blk_frozen BK584.out 0; have hfz18_1 := blk_frozen BK584.out 1; have hfz18_2 := blk_frozen BK584.out 2; have hfz18_3 := blk_frozen BK584.out 3; have hfz18_4 := blk_frozen BK584.out 4) | (go_at_call 125; (with_reducible refine (spec_EntryAt.calls k1 _ _ l0_1 ((rd_T103 l0_1 x3_1).f0) t586 _ ?side1 ?side2 A7.out).mono ?_); (case side1 => exact sz HR0_1.out HB.out); (case side2 => exact HC0_1.out); rintro e w' ⟨rfl, ⟨nd, rfl⟩⟩) | (go_at_call 72; (with_reducible refine (spec_l1In.calls ((rd_T103 l0_1 x3_1).f0) 1 999 true _ A10.out).mono ?_); rintro e w' ⟨rfl, ⟨nd, rfl⟩⟩))
                  go_roundg k1
                  case measure => have := HK1.out; omega
                  case rel => exact ⟨(wrap64 (x3_1 + 1)), az, H', ⟨by have := HK1.out; omega⟩, ⟨kz BK582.out⟩, ⟨b2 GE582.out GE584.out HB.out⟩⟩
                · replace c11 := Bool.eq_false_iff.mpr c11
                  subst c11; replace H : (some false) = some r := (by rw [if_neg (show ¬ (false = true) by decide)] at H; exact H); obtain rfl := Option.some.inj H; have hcz19_0 := fz BK582.out 0 (.bool true); have hcz19_1 := fz BK582.out 1 (.slice A0_1 l0_1.length c0_1); have hfz19_0 := blk_frozen BK582.out 0; have hfz19_1 := blk_frozen BK582.out 1; have p583 : 0 ≤ (x3_1 : Int) := of_decide_eq_true uz; have q583 : x3_1 < (l0_1.length : Int) := of_decide_eq_true uz; obtain ⟨ad583, e583, hx583_0, hx583_1, hx583_2, hx583_3, hx583_4⟩ := at_T103 HR0_1.out x3_1 p583 q583
                  cases e583
                  replace hx583_0 := cz HB.out hx583_0; replace hx583_1 := cz HB.out hx583_1; replace hx583_2 := cz HB.out hx583_2; replace hx583_3 := cz HB.out hx583_3; replace hx583_4 := cz HB.out hx583_4; replace p583 := eq_true p583; replace q583 := eq_true q583
                  go_wp2_with (first | ((with_reducible refine gate_dst (N := 4) rfl ?_); (try (refine gate_guard (by rfl) ?_; dsimp only)); refine box_event ?hg (N := 4) ?hd (cs := #[.int .i64 0, .int .i64 0, .int .i64 0, .int .i64 0, .int .i64 0]) (t := 103) ?hr ?_; (case hd => rfl); (case hg => rfl); (case hr => first | (go_simp; done) | (go_simp; rfl)); intro gb584 hg w20 hbox hb; have n0_ := Aside0.mk (blk_below (g := gb582) (o := .cells #[.bool true, .slice (some ad583) l0_1.length c0_1] 54 (0, 0)) (kz BK582.out) hb); have n1_ := Aside0.mk (below_step (b1 GE582.out HB.out) hb); have n2_ := Aside0.mk (hbox); have n3_ := Aside0.mk ((by rw [hg]; exact (below_size (b1 GE582.out HB.out)) : w.heap.size ≤ gb584)); have n4_ := Aside0.mk ((by rw [hg]; exact (below_size (b1 GE582.out HB.out)) : w.heap.size ≤ gb584)); have n5_ := Aside0.mk ((by rw [hg]; exact Nat.ne_of_lt (blk_lt (g := gb582) (o := .cells #[.bool true, .slice (some ad583) l0_1.length c0_1] 54 (0, 0)) (kz BK582.out)) : gb582 ≠ gb584)); have n6_ := Aside0.mk ((by rw [hg]; exact Nat.ne_of_gt (blk_lt (g := gb582) (o := .cells #[.bool true, .slice (some ad583) l0_1.length c0_1] 54 (0, 0)) (kz BK582.out)) : gb584 ≠ gb582)); clear BK582; clear HB; have BK582 := n0_; have HB := n1_; have BK584 := n2_; have GW584 := n3_; have GE584 := n4_; have NB582_584 := n5_; have NB584_582 := n6_; clear n0_ n1_ n2_ n3_ n4_ n5_ n6_; clear hb hbox hg; have hnb21 := NB584_582.out; have hnc21 := NB582_584.out; have hcz22_0 := fz BK584.out 0 (.int .i64 0); have hcz22_1 := fz BK584.out 1 (.int .i64 0); have hcz22_2 := fz BK584.out 2 (.int .i64 0); have hcz22_3 := fz BK584.out 3 (.int .i64 0); have hcz22_4 := fz BK584.out 4 (.int .i64 0); have hfz22_0 := blk_frozen BK584.out 0; have hfz22_1 := blk_frozen BK584.out 1; have hfz22_2 := blk_frozen BK584.out 2; have hfz22_3 := blk_frozen BK584.out 3; have hfz22_4 := blk_frozen BK584.out 4) | ((with_reducible refine gate_callee (f := 111) rfl ?_); refine goesL_ (some 19) rfl rfl Try.func111 (by kernel_rfl) rfl #[.agg #[.int .i64 ((rd_T103 l0_1 x3_1).f1.f0), .int .i64 ((rd_T103 l0_1 x3_1).f1.f1), .int .i64 ((rd_T103 l0_1 x3_1).f1.f2), .int .i64 ((rd_T103 l0_1 x3_1).f1.f3)]] rfl dz ?_; (with_reducible refine (spec_BoxOk.calls ((rd_T103 l0_1 x3_1).f1.f0) ((rd_T103 l0_1 x3_1).f1.f1) ((rd_T103 l0_1 x3_1).f1.f2) ((rd_T103 l0_1 x3_1).f1.f3) true _ A5.out).mono ?_); rintro e w23 ⟨rfl, hb⟩; refine ⟨_, rfl, ?_⟩; have n0_ := Aside0.mk (blk_below (g := gb582) (o := .cells #[.bool true, .slice (some ad583) l0_1.length c0_1] 54 (0, 0)) (by (with_reducible repeat (first | refine blk_drewN ?_ _ | refine blk_drew ?_ | refine blk_alloc ?_ _)); refine blk_far ?_ NB582_584.out _; (with_reducible repeat (first | refine blk_drewN ?_ _ | refine blk_drew ?_ | refine blk_alloc ?_ _)); refine blk_far ?_ NB582_584.out _; (with_reducible repeat (first | refine blk_drewN ?_ _ | refine blk_drew ?_ | refine blk_alloc ?_ _)); refine blk_far ?_ NB582_584.out _; (with_reducible repeat (first | refine blk_drewN ?_ _ | refine blk_drew ?_ | refine blk_alloc ?_ _)); refine blk_far ?_ NB582_584.out _; (with_reducible repeat (first | refine blk_drewN ?_ _ | refine blk_drew ?_ | refine blk_alloc ?_ _)); refine blk_far ?_ NB582_584.out _; (with_reducible repeat (first | refine blk_drewN ?_ _ | refine blk_drew ?_ | refine blk_alloc ?_ _)); exact BK582.out) hb); have n1_ := Aside0.mk (blk_below (g := gb584) (o := .cells #[.int .i64 ((rd_T103 l0_1 x3_1).f0), .int .i64 ((rd_T103 l0_1 x3_1).f1.f0), .int .i64 ((rd_T103 l0_1 x3_1).f1.f1), .int .i64 ((rd_T103 l0_1 x3_1).f1.f2), .int .i64 ((rd_T103 l0_1 x3_1).f1.f3)] 103 (0, 0)) (by (with_reducible repeat (first | refine blk_drewN ?_ _ | refine blk_drew ?_ | refine blk_alloc ?_ _)); refine blk_put (cs := #[.int .i64 ((rd_T103 l0_1 x3_1).f0), .int .i64 ((rd_T103 l0_1 x3_1).f1.f0), .int .i64 ((rd_T103 l0_1 x3_1).f1.f1), .int .i64 ((rd_T103 l0_1 x3_1).f1.f2), .int .i64 0]) ?_ 4 _ rfl; (with_reducible repeat (first | refine blk_drewN ?_ _ | refine blk_drew ?_ | refine blk_alloc ?_ _)); refine blk_put (cs := #[.int .i64 ((rd_T103 l0_1 x3_1).f0), .int .i64 ((rd_T103 l0_1 x3_1).f1.f0), .int .i64 ((rd_T103 l0_1 x3_1).f1.f1), .int .i64 0, .int .i64 0]) ?_ 3 _ rfl; (with_reducible repeat (first | refine blk_drewN ?_ _ | refine blk_drew ?_ | refine blk_alloc ?_ _)); refine blk_put (cs := #[.int .i64 ((rd_T103 l0_1 x3_1).f0), .int .i64 ((rd_T103 l0_1 x3_1).f1.f0), .int .i64 0, .int .i64 0, .int .i64 0]) ?_ 2 _ rfl; (with_reducible repeat (first | refine blk_drewN ?_ _ | refine blk_drew ?_ | refine blk_alloc ?_ _)); refine blk_put (cs := #[.int .i64 ((rd_T103 l0_1 x3_1).f0), .int .i64 0, .int .i64 0, .int .i64 0, .int .i64 0]) ?_ 1 _ rfl; (with_reducible repeat (first | refine blk_drewN ?_ _ | refine blk_drew ?_ | refine blk_alloc ?_ _)); refine blk_put (cs := #[.int .i64 0, .int .i64 0, .int .i64 0, .int .i64 0, .int .i64 0]) ?_ 0 _ rfl; (with_reducible repeat (first | refine blk_drewN ?_ _ | refine blk_drew ?_ | refine blk_alloc ?_ _)); exact BK584.out) hb); have n2_ := Aside0.mk (below_step (b2 GE582.out GE584.out HB.out) hb); clear BK582; clear BK584; clear HB; have BK582 := n0_; have BK584 := n1_; have HB := n2_; clear n0_ n1_ n2_; (try clear hb); (try clear hb2); (try clear hk); (try clear hi); have hcz24_0 := fz BK582.out 0 (.bool true); have hcz24_1 := fz BK582.out 1 (.slice (some ad583) l0_1.length c0_1); have hfz24_0 := blk_frozen BK582.out 0; have hfz24_1 := blk_frozen BK582.out 1; have hcz25_0 : w23.cell? ⟨gb584, 0, none⟩ = some (.int .i64 ((rd_T103 l0_1 x3_1).f0)) := (blk_cell BK584.out 0).trans rfl; have hcz25_1 : w23.cell? ⟨gb584, 1, none⟩ = some (.int .i64 ((rd_T103 l0_1 x3_1).f1.f0)) := (blk_cell BK584.out 1).trans rfl; have hcz25_2 : w23.cell? ⟨gb584, 2, none⟩ = some (.int .i64 ((rd_T103 l0_1 x3_1).f1.f1)) := (blk_cell BK584.out 2).trans rfl; have hcz25_3 : w23.cell? ⟨gb584, 3, none⟩ = some (.int .i64 ((rd_T103 l0_1 x3_1).f1.f2)) := (blk_cell BK584.out 3).trans rfl; have hcz25_4 : w23.cell? ⟨gb584, 4, none⟩ = some (.int .i64 ((rd_T103 l0_1 x3_1).f1.f3)) := (blk_cell BK584.out 4).trans rfl; have hfz25_0 := blk_frozen BK584.out 0; have hfz25_1 := blk_frozen BK584.out 1; have hfz25_2 := blk_frozen BK584.out 2; have hfz25_3 := blk_frozen BK584.out 3; have hfz25_4 := blk_frozen BK584.out 4) | (go_at_call 125; (with_reducible refine (spec_EntryAt.calls k1 _ _ l0_1 ((rd_T103 l0_1 x3_1).f0) t586 _ ?side1 ?side2 A7.out).mono ?_); (case side1 => exact sz HR0_1.out HB.out); (case side2 => exact HC0_1.out); rintro e w' ⟨rfl, ⟨nd, rfl⟩⟩) | (go_at_call 72; (with_reducible refine (spec_l1In.calls ((rd_T103 l0_1 x3_1).f0) 1 999 false _ A10.out).mono ?_); rintro e w' ⟨rfl, ⟨nd, rfl⟩⟩))
                  go_ret; exact ⟨ez, b2 GE582.out GE584.out HB.out⟩
              · replace c9 := Bool.eq_false_iff.mpr c9
                subst c9; replace H : ((spec_l1In.f ((rd_T103 l0_1 x3_1).f0) 0 47).bind fun t588 => (if t588 = true then (spec_NodeOk.l0 k1 (wrap64 (x3_1 + 1)) false l0_1) else (some false))) = some r := (by rw [if_neg (show ¬ (false = true) by decide)] at H; exact H); replace H := Option.bind_eq_some_iff.mp H; obtain ⟨t588, A260, H⟩ := H; replace H : (if t588 = true then (spec_NodeOk.l0 k1 (wrap64 (x3_1 + 1)) false l0_1) else (some false)) = some r := H; have A26 := Aside0.mk A260; clear A260
                by_cases c27 : t588 = true
                · subst c27
                  replace H : (spec_NodeOk.l0 k1 (wrap64 (x3_1 + 1)) false l0_1) = some r := (by rw [if_pos rfl] at H; exact H); have H' := Aside0.mk H; clear H; have hcz28_0 := fz BK582.out 0 (.bool false); have hcz28_1 := fz BK582.out 1 (.slice A0_1 l0_1.length c0_1); have hfz28_0 := blk_frozen BK582.out 0; have hfz28_1 := blk_frozen BK582.out 1; have p583 : 0 ≤ (x3_1 : Int) := of_decide_eq_true uz; have q583 : x3_1 < (l0_1.length : Int) := of_decide_eq_true uz; obtain ⟨ad583, e583, hx583_0, hx583_1, hx583_2, hx583_3, hx583_4⟩ := at_T103 HR0_1.out x3_1 p583 q583
                  cases e583
                  replace hx583_0 := cz HB.out hx583_0; replace hx583_1 := cz HB.out hx583_1; replace hx583_2 := cz HB.out hx583_2; replace hx583_3 := cz HB.out hx583_3; replace hx583_4 := cz HB.out hx583_4; replace p583 := eq_true p583; replace q583 := eq_true q583
                  go_wp2_with (first | ((with_reducible refine gate_dst (N := 4) rfl ?_); (try (refine gate_guard (by rfl) ?_; dsimp only)); refine box_event ?hg (N := 4) ?hd (cs := #[.int .i64 0, .int .i64 0, .int .i64 0, .int .i64 0, .int .i64 0]) (t := 103) ?hr ?_; (case hd => rfl); (case hg => rfl); (case hr => first | (go_simp; done) | (go_simp; rfl)); intro gb584 hg w29 hbox hb; have n0_ := Aside0.mk (blk_below (g := gb582) (o := .cells #[.bool false, .slice (some ad583) l0_1.length c0_1] 54 (0, 0)) (kz BK582.out) hb); have n1_ := Aside0.mk (below_step (b1 GE582.out HB.out) hb); have n2_ := Aside0.mk (hbox); have n3_ := Aside0.mk ((by rw [hg]; exact (below_size (b1 GE582.out HB.out)) : w.heap.size ≤ gb584)); have n4_ := Aside0.mk ((by rw [hg]; exact (below_size (b1 GE582.out HB.out)) : w.heap.size ≤ gb584)); have n5_ := Aside0.mk ((by rw [hg]; exact Nat.ne_of_lt (blk_lt (g := gb582) (o := .cells #[.bool false, .slice (some ad583) l0_1.length c0_1] 54 (0, 0)) (kz BK582.out)) : gb582 ≠ gb584)); have n6_ := Aside0.mk ((by rw [hg]; exact Nat.ne_of_gt (blk_lt (g := gb582) (o := .cells #[.bool false, .slice (some ad583) l0_1.length c0_1] 54 (0, 0)) (kz BK582.out)) : gb584 ≠ gb582)); clear BK582; clear HB; have BK582 := n0_; have HB := n1_; have BK584 := n2_; have GW584 := n3_; have GE584 := n4_; have NB582_584 := n5_; have NB584_582 := n6_; clear n0_ n1_ n2_ n3_ n4_ n5_ n6_; clear hb hbox hg; have hnb30 := NB584_582.out; have hnc30 := NB582_584.out; have hcz31_0 := fz BK584.out 0 (.int .i64 0); have hcz31_1 := fz BK584.out 1 (.int .i64 0); have hcz31_2 := fz BK584.out 2 (.int .i64 0); have hcz31_3 := fz BK584.out 3 (.int .i64 0); have hcz31_4 := fz BK584.out 4 (.int .i64 0); have hfz31_0 := blk_frozen BK584.out 0; have hfz31_1 := blk_frozen BK584.out 1; have hfz31_2 := blk_frozen BK584.out 2; have hfz31_3 := blk_frozen BK584.out 3; have hfz31_4 := blk_frozen BK584.out 4) | ((with_reducible refine gate_callee (f := 111) rfl ?_); refine goesL_ (some 19) rfl rfl Try.func111 (by kernel_rfl) rfl #[.agg #[.int .i64 ((rd_T103 l0_1 x3_1).f1.f0), .int .i64 ((rd_T103 l0_1 x3_1).f1.f1), .int .i64 ((rd_T103 l0_1 x3_1).f1.f2), .int .i64 ((rd_T103 l0_1 x3_1).f1.f3)]] rfl dz ?_; (with_reducible refine (spec_BoxOk.calls ((rd_T103 l0_1 x3_1).f1.f0) ((rd_T103 l0_1 x3_1).f1.f1) ((rd_T103 l0_1 x3_1).f1.f2) ((rd_T103 l0_1 x3_1).f1.f3) true _ A5.out).mono ?_); rintro e w32 ⟨rfl, hb⟩; refine ⟨_, rfl, ?_⟩; have n0_ := Aside0.mk (blk_below (g := gb582) (o := .cells #[.bool false, .slice (some ad583) l0_1.length c0_1] 54 (0, 0)) (by (with_reducible repeat (first | refine blk_drewN ?_ _ | refine blk_drew ?_ | refine blk_alloc ?_ _)); refine blk_far ?_ NB582_584.out _; (with_reducible repeat (first | refine blk_drewN ?_ _ | refine blk_drew ?_ | refine blk_alloc ?_ _)); refine blk_far ?_ NB582_584.out _; (with_reducible repeat (first | refine blk_drewN ?_ _ | refine blk_drew ?_ | refine blk_alloc ?_ _)); refine blk_far ?_ NB582_584.out _; (with_reducible repeat (first | refine blk_drewN ?_ _ | refine blk_drew ?_ | refine blk_alloc ?_ _)); refine blk_far ?_ NB582_584.out _; (with_reducible repeat (first | refine blk_drewN ?_ _ | refine blk_drew ?_ | refine blk_alloc ?_ _)); refine blk_far ?_ NB582_584.out _; (with_reducible repeat (first | refine blk_drewN ?_ _ | refine blk_drew ?_ | refine blk_alloc ?_ _)); exact BK582.out) hb); have n1_ := Aside0.mk (blk_below (g := gb584) (o := .cells #[.int .i64 ((rd_T103 l0_1 x3_1).f0), .int .i64 ((rd_T103 l0_1 x3_1).f1.f0), .int .i64 ((rd_T103 l0_1 x3_1).f1.f1), .int .i64 ((rd_T103 l0_1 x3_1).f1.f2), .int .i64 ((rd_T103 l0_1 x3_1).f1.f3)] 103 (0, 0)) (by (with_reducible repeat (first | refine blk_drewN ?_ _ | refine blk_drew ?_ | refine blk_alloc ?_ _)); refine blk_put (cs := #[.int .i64 ((rd_T103 l0_1 x3_1).f0), .int .i64 ((rd_T103 l0_1 x3_1).f1.f0), .int .i64 ((rd_T103 l0_1 x3_1).f1.f1), .int .i64 ((rd_T103 l0_1 x3_1).f1.f2), .int .i64 0]) ?_ 4 _ rfl; (with_reducible repeat (first | refine blk_drewN ?_ _ | refine blk_drew ?_ | refine blk_alloc ?_ _)); refine blk_put (cs := #[.int .i64 ((rd_T103 l0_1 x3_1).f0), .int .i64 ((rd_T103 l0_1 x3_1).f1.f0), .int .i64 ((rd_T103 l0_1 x3_1).f1.f1), .int .i64 0, .int .i64 0]) ?_ 3 _ rfl; (with_reducible repeat (first | refine blk_drewN ?_ _ | refine blk_drew ?_ | refine blk_alloc ?_ _)); refine blk_put (cs := #[.int .i64 ((rd_T103 l0_1 x3_1).f0), .int .i64 ((rd_T103 l0_1 x3_1).f1.f0), .int .i64 0, .int .i64 0, .int .i64 0]) ?_ 2 _ rfl; (with_reducible repeat (first | refine blk_drewN ?_ _ | refine blk_drew ?_ | refine blk_alloc ?_ _)); refine blk_put (cs := #[.int .i64 ((rd_T103 l0_1 x3_1).f0), .int .i64 0, .int .i64 0, .int .i64 0, .int .i64 0]) ?_ 1 _ rfl; (with_reducible repeat (first | refine blk_drewN ?_ _ | refine blk_drew ?_ | refine blk_alloc ?_ _)); refine blk_put (cs := #[.int .i64 0, .int .i64 0, .int .i64 0, .int .i64 0, .int .i64 0]) ?_ 0 _ rfl; (with_reducible repeat (first | refine blk_drewN ?_ _ | refine blk_drew ?_ | refine blk_alloc ?_ _)); exact BK584.out) hb); have n2_ := Aside0.mk (below_step (b2 GE582.out GE584.out HB.out) hb); clear BK582; clear BK584; clear HB; have BK582 := n0_; have BK584 := n1_; have HB := n2_; clear n0_ n1_ n2_; (try clear hb); (try clear hb2); (try clear hk); (try clear hi); have hcz33_0 := fz BK582.out 0 (.bool false); have hcz33_1 := fz BK582.out 1 (.slice (some ad583) l0_1.length c0_1); have hfz33_0 := blk_frozen BK582.out 0; have hfz33_1 := blk_frozen BK582.out 1; have hcz34_0 : w32.cell? ⟨gb584, 0, none⟩ = some (.int .i64 ((rd_T103 l0_1 x3_1).f0)) := (blk_cell BK584.out 0).trans rfl; have hcz34_1 : w32.cell? ⟨gb584, 1, none⟩ = some (.int .i64 ((rd_T103 l0_1 x3_1).f1.f0)) := (blk_cell BK584.out 1).trans rfl; have hcz34_2 : w32.cell? ⟨gb584, 2, none⟩ = some (.int .i64 ((rd_T103 l0_1 x3_1).f1.f1)) := (blk_cell BK584.out 2).trans rfl; have hcz34_3 : w32.cell? ⟨gb584, 3, none⟩ = some (.int .i64 ((rd_T103 l0_1 x3_1).f1.f2)) := (blk_cell BK584.out 3).trans rfl; have hcz34_4 : w32.cell? ⟨gb584, 4, none⟩ = some (.int .i64 ((rd_T103 l0_1 x3_1).f1.f3)) := (blk_cell BK584.out 4).trans rfl; have hfz34_0 := blk_frozen BK584.out 0; have hfz34_1 := blk_frozen BK584.out 1; have hfz34_2 := blk_frozen BK584.out 2; have hfz34_3 := blk_frozen BK584.out 3; have hfz34_4 := blk_frozen BK584.out 4) | (go_at_call 125; (with_reducible refine (spec_EntryAt.calls k1 _ _ l0_1 ((rd_T103 l0_1 x3_1).f0) t586 _ ?side1 ?side2 A7.out).mono ?_); (case side1 => exact sz HR0_1.out HB.out); (case side2 => exact HC0_1.out); rintro e w' ⟨rfl, ⟨nd, rfl⟩⟩) | (go_at_call 72; (with_reducible refine (spec_l1In.calls ((rd_T103 l0_1 x3_1).f0) 0 47 true _ A26.out).mono ?_); rintro e w' ⟨rfl, ⟨nd, rfl⟩⟩))
                  go_roundg k1
                  case measure => have := HK1.out; omega
                  case rel => exact ⟨(wrap64 (x3_1 + 1)), az, H', ⟨by have := HK1.out; omega⟩, ⟨kz BK582.out⟩, ⟨b2 GE582.out GE584.out HB.out⟩⟩
                · replace c27 := Bool.eq_false_iff.mpr c27
                  subst c27; replace H : (some false) = some r := (by rw [if_neg (show ¬ (false = true) by decide)] at H; exact H); obtain rfl := Option.some.inj H; have hcz35_0 := fz BK582.out 0 (.bool false); have hcz35_1 := fz BK582.out 1 (.slice A0_1 l0_1.length c0_1); have hfz35_0 := blk_frozen BK582.out 0; have hfz35_1 := blk_frozen BK582.out 1; have p583 : 0 ≤ (x3_1 : Int) := of_decide_eq_true uz; have q583 : x3_1 < (l0_1.length : Int) := of_decide_eq_true uz; obtain ⟨ad583, e583, hx583_0, hx583_1, hx583_2, hx583_3, hx583_4⟩ := at_T103 HR0_1.out x3_1 p583 q583
                  cases e583
                  replace hx583_0 := cz HB.out hx583_0; replace hx583_1 := cz HB.out hx583_1; replace hx583_2 := cz HB.out hx583_2; replace hx583_3 := cz HB.out hx583_3; replace hx583_4 := cz HB.out hx583_4; replace p583 := eq_true p583; replace q583 := eq_true q583
                  go_wp2_with (first | ((with_reducible refine gate_dst (N := 4) rfl ?_); (try (refine gate_guard (by rfl) ?_; dsimp only)); refine box_event ?hg (N := 4) ?hd (cs := #[.int .i64 0, .int .i64 0, .int .i64 0, .int .i64 0, .int .i64 0]) (t := 103) ?hr ?_; (case hd => rfl); (case hg => rfl); (case hr => first | (go_simp; done) | (go_simp; rfl)); intro gb584 hg w36 hbox hb; have n0_ := Aside0.mk (blk_below (g := gb582) (o := .cells #[.bool false, .slice (some ad583) l0_1.length c0_1] 54 (0, 0)) (kz BK582.out) hb); have n1_ := Aside0.mk (below_step (b1 GE582.out HB.out) hb); have n2_ := Aside0.mk (hbox); have n3_ := Aside0.mk ((by rw [hg]; exact (below_size (b1 GE582.out HB.out)) : w.heap.size ≤ gb584)); have n4_ := Aside0.mk ((by rw [hg]; exact (below_size (b1 GE582.out HB.out)) : w.heap.size ≤ gb584)); have n5_ := Aside0.mk ((by rw [hg]; exact Nat.ne_of_lt (blk_lt (g := gb582) (o := .cells #[.bool false, .slice (some ad583) l0_1.length c0_1] 54 (0, 0)) (kz BK582.out)) : gb582 ≠ gb584)); have n6_ := Aside0.mk ((by rw [hg]; exact Nat.ne_of_gt (blk_lt (g := gb582) (o := .cells #[.bool false, .slice (some ad583) l0_1.length c0_1] 54 (0, 0)) (kz BK582.out)) : gb584 ≠ gb582)); clear BK582; clear HB; have BK582 := n0_; have HB := n1_; have BK584 := n2_; have GW584 := n3_; have GE584 := n4_; have NB582_584 := n5_; have NB584_582 := n6_; clear n0_ n1_ n2_ n3_ n4_ n5_ n6_; clear hb hbox hg; have hnb37 := NB584_582.out; have hnc37 := NB582_584.out; have hcz38_0 := fz BK584.out 0 (.int .i64 0); have hcz38_1 := fz BK584.out 1 (.int .i64 0); have hcz38_2 := fz BK584.out 2 (.int .i64 0); have hcz38_3 := fz BK584.out 3 (.int .i64 0); have hcz38_4 := fz BK584.out 4 (.int .i64 0); have hfz38_0 := blk_frozen BK584.out 0; have hfz38_1 := blk_frozen BK584.out 1; have hfz38_2 := blk_frozen BK584.out 2; have hfz38_3 := blk_frozen BK584.out 3; have hfz38_4 := blk_frozen BK584.out 4) | ((with_reducible refine gate_callee (f := 111) rfl ?_); refine goesL_ (some 19) rfl rfl Try.func111 (by kernel_rfl) rfl #[.agg #[.int .i64 ((rd_T103 l0_1 x3_1).f1.f0), .int .i64 ((rd_T103 l0_1 x3_1).f1.f1), .int .i64 ((rd_T103 l0_1 x3_1).f1.f2), .int .i64 ((rd_T103 l0_1 x3_1).f1.f3)]] rfl dz ?_; (with_reducible refine (spec_BoxOk.calls ((rd_T103 l0_1 x3_1).f1.f0) ((rd_T103 l0_1 x3_1).f1.f1) ((rd_T103 l0_1 x3_1).f1.f2) ((rd_T103 l0_1 x3_1).f1.f3) true _ A5.out).mono ?_); rintro e w39 ⟨rfl, hb⟩; refine ⟨_, rfl, ?_⟩; have n0_ := Aside0.mk (blk_below (g := gb582) (o := .cells #[.bool false, .slice (some ad583) l0_1.length c0_1] 54 (0, 0)) (by (with_reducible repeat (first | refine blk_drewN ?_ _ | refine blk_drew ?_ | refine blk_alloc ?_ _)); refine blk_far ?_ NB582_584.out _; (with_reducible repeat (first | refine blk_drewN ?_ _ | refine blk_drew ?_ | refine blk_alloc ?_ _)); refine blk_far ?_ NB582_584.out _; (with_reducible repeat (first | refine blk_drewN ?_ _ | refine blk_drew ?_ | refine blk_alloc ?_ _)); refine blk_far ?_ NB582_584.out _; (with_reducible repeat (first | refine blk_drewN ?_ _ | refine blk_drew ?_ | refine blk_alloc ?_ _)); refine blk_far ?_ NB582_584.out _; (with_reducible repeat (first | refine blk_drewN ?_ _ | refine blk_drew ?_ | refine blk_alloc ?_ _)); refine blk_far ?_ NB582_584.out _; (with_reducible repeat (first | refine blk_drewN ?_ _ | refine blk_drew ?_ | refine blk_alloc ?_ _)); exact BK582.out) hb); have n1_ := Aside0.mk (blk_below (g := gb584) (o := .cells #[.int .i64 ((rd_T103 l0_1 x3_1).f0), .int .i64 ((rd_T103 l0_1 x3_1).f1.f0), .int .i64 ((rd_T103 l0_1 x3_1).f1.f1), .int .i64 ((rd_T103 l0_1 x3_1).f1.f2), .int .i64 ((rd_T103 l0_1 x3_1).f1.f3)] 103 (0, 0)) (by (with_reducible repeat (first | refine blk_drewN ?_ _ | refine blk_drew ?_ | refine blk_alloc ?_ _)); refine blk_put (cs := #[.int .i64 ((rd_T103 l0_1 x3_1).f0), .int .i64 ((rd_T103 l0_1 x3_1).f1.f0), .int .i64 ((rd_T103 l0_1 x3_1).f1.f1), .int .i64 ((rd_T103 l0_1 x3_1).f1.f2), .int .i64 0]) ?_ 4 _ rfl; (with_reducible repeat (first | refine blk_drewN ?_ _ | refine blk_drew ?_ | refine blk_alloc ?_ _)); refine blk_put (cs := #[.int .i64 ((rd_T103 l0_1 x3_1).f0), .int .i64 ((rd_T103 l0_1 x3_1).f1.f0), .int .i64 ((rd_T103 l0_1 x3_1).f1.f1), .int .i64 0, .int .i64 0]) ?_ 3 _ rfl; (with_reducible repeat (first | refine blk_drewN ?_ _ | refine blk_drew ?_ | refine blk_alloc ?_ _)); refine blk_put (cs := #[.int .i64 ((rd_T103 l0_1 x3_1).f0), .int .i64 ((rd_T103 l0_1 x3_1).f1.f0), .int .i64 0, .int .i64 0, .int .i64 0]) ?_ 2 _ rfl; (with_reducible repeat (first | refine blk_drewN ?_ _ | refine blk_drew ?_ | refine blk_alloc ?_ _)); refine blk_put (cs := #[.int .i64 ((rd_T103 l0_1 x3_1).f0), .int .i64 0, .int .i64 0, .int .i64 0, .int .i64 0]) ?_ 1 _ rfl; (with_reducible repeat (first | refine blk_drewN ?_ _ | refine blk_drew ?_ | refine blk_alloc ?_ _)); refine blk_put (cs := #[.int .i64 0, .int .i64 0, .int .i64 0, .int .i64 0, .int .i64 0]) ?_ 0 _ rfl; (with_reducible repeat (first | refine blk_drewN ?_ _ | refine blk_drew ?_ | refine blk_alloc ?_ _)); exact BK584.out) hb); have n2_ := Aside0.mk (below_step (b2 GE582.out GE584.out HB.out) hb); clear BK582; clear BK584; clear HB; have BK582 := n0_; have BK584 := n1_; have HB := n2_; clear n0_ n1_ n2_; (try clear hb); (try clear hb2); (try clear hk); (try clear hi); have hcz40_0 := fz BK582.out 0 (.bool false); have hcz40_1 := fz BK582.out 1 (.slice (some ad583) l0_1.length c0_1); have hfz40_0 := blk_frozen BK582.out 0; have hfz40_1 := blk_frozen BK582.out 1; have hcz41_0 : w39.cell? ⟨gb584, 0, none⟩ = some (.int .i64 ((rd_T103 l0_1 x3_1).f0)) := (blk_cell BK584.out 0).trans rfl; have hcz41_1 : w39.cell? ⟨gb584, 1, none⟩ = some (.int .i64 ((rd_T103 l0_1 x3_1).f1.f0)) := (blk_cell BK584.out 1).trans rfl; have hcz41_2 : w39.cell? ⟨gb584, 2, none⟩ = some (.int .i64 ((rd_T103 l0_1 x3_1).f1.f1)) := (blk_cell BK584.out 2).trans rfl; have hcz41_3 : w39.cell? ⟨gb584, 3, none⟩ = some (.int .i64 ((rd_T103 l0_1 x3_1).f1.f2)) := (blk_cell BK584.out 3).trans rfl; have hcz41_4 : w39.cell? ⟨gb584, 4, none⟩ = some (.int .i64 ((rd_T103 l0_1 x3_1).f1.f3)) := (blk_cell BK584.out 4).trans rfl; have hfz41_0 := blk_frozen BK584.out 0; have hfz41_1 := blk_frozen BK584.out 1; have hfz41_2 := blk_frozen BK584.out 2; have hfz41_3 := blk_frozen BK584.out 3; have hfz41_4 := blk_frozen BK584.out 4) | (go_at_call 125; (with_reducible refine (spec_EntryAt.calls k1 _ _ l0_1 ((rd_T103 l0_1 x3_1).f0) t586 _ ?side1 ?side2 A7.out).mono ?_); (case side1 => exact sz HR0_1.out HB.out); (case side2 => exact HC0_1.out); rintro e w' ⟨rfl, ⟨nd, rfl⟩⟩) | (go_at_call 72; (with_reducible refine (spec_l1In.calls ((rd_T103 l0_1 x3_1).f0) 0 47 false _ A26.out).mono ?_); rintro e w' ⟨rfl, ⟨nd, rfl⟩⟩))
                  go_ret; exact ⟨ez, b2 GE582.out GE584.out HB.out⟩
            · rw [if_neg c8] at H
              have c8b0 : (t586 == x3_1) = false := beq_eq_false_iff_ne.mpr c8; have c8b1 : (t586 != x3_1) = true := bne_iff_ne.mpr c8; obtain rfl := Option.some.inj H; have hcz42_0 := fz BK582.out 0 (.bool a0_0); have hcz42_1 := fz BK582.out 1 (.slice A0_1 l0_1.length c0_1); have hfz42_0 := blk_frozen BK582.out 0; have hfz42_1 := blk_frozen BK582.out 1; have p583 : 0 ≤ (x3_1 : Int) := of_decide_eq_true uz; have q583 : x3_1 < (l0_1.length : Int) := of_decide_eq_true uz; obtain ⟨ad583, e583, hx583_0, hx583_1, hx583_2, hx583_3, hx583_4⟩ := at_T103 HR0_1.out x3_1 p583 q583
              cases e583
              replace hx583_0 := cz HB.out hx583_0; replace hx583_1 := cz HB.out hx583_1; replace hx583_2 := cz HB.out hx583_2; replace hx583_3 := cz HB.out hx583_3; replace hx583_4 := cz HB.out hx583_4; replace p583 := eq_true p583; replace q583 := eq_true q583
              go_wp2_with (first | ((with_reducible refine gate_dst (N := 4) rfl ?_); (try (refine gate_guard (by rfl) ?_; dsimp only)); refine box_event ?hg (N := 4) ?hd (cs := #[.int .i64 0, .int .i64 0, .int .i64 0, .int .i64 0, .int .i64 0]) (t := 103) ?hr ?_; (case hd => rfl); (case hg => rfl); (case hr => first | (go_simp; done) | (go_simp; rfl)); intro gb584 hg w43 hbox hb; have n0_ := Aside0.mk (blk_below (g := gb582) (o := .cells #[.bool a0_0, .slice (some ad583) l0_1.length c0_1] 54 (0, 0)) (kz BK582.out) hb); have n1_ := Aside0.mk (below_step (b1 GE582.out HB.out) hb); have n2_ := Aside0.mk (hbox); have n3_ := Aside0.mk ((by rw [hg]; exact (below_size (b1 GE582.out HB.out)) : w.heap.size ≤ gb584)); have n4_ := Aside0.mk ((by rw [hg]; exact (below_size (b1 GE582.out HB.out)) : w.heap.size ≤ gb584)); have n5_ := Aside0.mk ((by rw [hg]; exact Nat.ne_of_lt (blk_lt (g := gb582) (o := .cells #[.bool a0_0, .slice (some ad583) l0_1.length c0_1] 54 (0, 0)) (kz BK582.out)) : gb582 ≠ gb584)); have n6_ := Aside0.mk ((by rw [hg]; exact Nat.ne_of_gt (blk_lt (g := gb582) (o := .cells #[.bool a0_0, .slice (some ad583) l0_1.length c0_1] 54 (0, 0)) (kz BK582.out)) : gb584 ≠ gb582)); clear BK582; clear HB; have BK582 := n0_; have HB := n1_; have BK584 := n2_; have GW584 := n3_; have GE584 := n4_; have NB582_584 := n5_; have NB584_582 := n6_; clear n0_ n1_ n2_ n3_ n4_ n5_ n6_; clear hb hbox hg; have hnb44 := NB584_582.out; have hnc44 := NB582_584.out; have hcz45_0 := fz BK584.out 0 (.int .i64 0); have hcz45_1 := fz BK584.out 1 (.int .i64 0); have hcz45_2 := fz BK584.out 2 (.int .i64 0); have hcz45_3 := fz BK584.out 3 (.int .i64 0); have hcz45_4 := fz BK584.out 4 (.int .i64 0); have hfz45_0 := blk_frozen BK584.out 0; have hfz45_1 := blk_frozen BK584.out 1; have hfz45_2 := blk_frozen BK584.out 2; have hfz45_3 := blk_frozen BK584.out 3; have hfz45_4 := blk_frozen BK584.out 4) | ((with_reducible refine gate_callee (f := 111) rfl ?_); refine goesL_ (some 19) rfl rfl Try.func111 (by kernel_rfl) rfl #[.agg #[.int .i64 ((rd_T103 l0_1 x3_1).f1.f0), .int .i64 ((rd_T103 l0_1 x3_1).f1.f1), .int .i64 ((rd_T103 l0_1 x3_1).f1.f2), .int .i64 ((rd_T103 l0_1 x3_1).f1.f3)]] rfl dz ?_; (with_reducible refine (spec_BoxOk.calls ((rd_T103 l0_1 x3_1).f1.f0) ((rd_T103 l0_1 x3_1).f1.f1) ((rd_T103 l0_1 x3_1).f1.f2) ((rd_T103 l0_1 x3_1).f1.f3) true _ A5.out).mono ?_); rintro e w46 ⟨rfl, hb⟩; refine ⟨_, rfl, ?_⟩; have n0_ := Aside0.mk (blk_below (g := gb582) (o := .cells #[.bool a0_0, .slice (some ad583) l0_1.length c0_1] 54 (0, 0)) (by (with_reducible repeat (first | refine blk_drewN ?_ _ | refine blk_drew ?_ | refine blk_alloc ?_ _)); refine blk_far ?_ NB582_584.out _; (with_reducible repeat (first | refine blk_drewN ?_ _ | refine blk_drew ?_ | refine blk_alloc ?_ _)); refine blk_far ?_ NB582_584.out _; (with_reducible repeat (first | refine blk_drewN ?_ _ | refine blk_drew ?_ | refine blk_alloc ?_ _)); refine blk_far ?_ NB582_584.out _; (with_reducible repeat (first | refine blk_drewN ?_ _ | refine blk_drew ?_ | refine blk_alloc ?_ _)); refine blk_far ?_ NB582_584.out _; (with_reducible repeat (first | refine blk_drewN ?_ _ | refine blk_drew ?_ | refine blk_alloc ?_ _)); refine blk_far ?_ NB582_584.out _; (with_reducible repeat (first | refine blk_drewN ?_ _ | refine blk_drew ?_ | refine blk_alloc ?_ _)); exact BK582.out) hb); have n1_ := Aside0.mk (blk_below (g := gb584) (o := .cells #[.int .i64 ((rd_T103 l0_1 x3_1).f0), .int .i64 ((rd_T103 l0_1 x3_1).f1.f0), .int .i64 ((rd_T103 l0_1 x3_1).f1.f1), .int .i64 ((rd_T103 l0_1 x3_1).f1.f2), .int .i64 ((rd_T103 l0_1 x3_1).f1.f3)] 103 (0, 0)) (by (with_reducible repeat (first | refine blk_drewN ?_ _ | refine blk_drew ?_ | refine blk_alloc ?_ _)); refine blk_put (cs := #[.int .i64 ((rd_T103 l0_1 x3_1).f0), .int .i64 ((rd_T103 l0_1 x3_1).f1.f0), .int .i64 ((rd_T103 l0_1 x3_1).f1.f1), .int .i64 ((rd_T103 l0_1 x3_1).f1.f2), .int .i64 0]) ?_ 4 _ rfl; (with_reducible repeat (first | refine blk_drewN ?_ _ | refine blk_drew ?_ | refine blk_alloc ?_ _)); refine blk_put (cs := #[.int .i64 ((rd_T103 l0_1 x3_1).f0), .int .i64 ((rd_T103 l0_1 x3_1).f1.f0), .int .i64 ((rd_T103 l0_1 x3_1).f1.f1), .int .i64 0, .int .i64 0]) ?_ 3 _ rfl; (with_reducible repeat (first | refine blk_drewN ?_ _ | refine blk_drew ?_ | refine blk_alloc ?_ _)); refine blk_put (cs := #[.int .i64 ((rd_T103 l0_1 x3_1).f0), .int .i64 ((rd_T103 l0_1 x3_1).f1.f0), .int .i64 0, .int .i64 0, .int .i64 0]) ?_ 2 _ rfl; (with_reducible repeat (first | refine blk_drewN ?_ _ | refine blk_drew ?_ | refine blk_alloc ?_ _)); refine blk_put (cs := #[.int .i64 ((rd_T103 l0_1 x3_1).f0), .int .i64 0, .int .i64 0, .int .i64 0, .int .i64 0]) ?_ 1 _ rfl; (with_reducible repeat (first | refine blk_drewN ?_ _ | refine blk_drew ?_ | refine blk_alloc ?_ _)); refine blk_put (cs := #[.int .i64 0, .int .i64 0, .int .i64 0, .int .i64 0, .int .i64 0]) ?_ 0 _ rfl; (with_reducible repeat (first | refine blk_drewN ?_ _ | refine blk_drew ?_ | refine blk_alloc ?_ _)); exact BK584.out) hb); have n2_ := Aside0.mk (below_step (b2 GE582.out GE584.out HB.out) hb); clear BK582; clear BK584; clear HB; have BK582 := n0_; have BK584 := n1_; have HB := n2_; clear n0_ n1_ n2_; (try clear hb); (try clear hb2); (try clear hk); (try clear hi); have hcz47_0 := fz BK582.out 0 (.bool a0_0); have hcz47_1 := fz BK582.out 1 (.slice (some ad583) l0_1.length c0_1); have hfz47_0 := blk_frozen BK582.out 0; have hfz47_1 := blk_frozen BK582.out 1; have hcz48_0 : w46.cell? ⟨gb584, 0, none⟩ = some (.int .i64 ((rd_T103 l0_1 x3_1).f0)) := (blk_cell BK584.out 0).trans rfl; have hcz48_1 : w46.cell? ⟨gb584, 1, none⟩ = some (.int .i64 ((rd_T103 l0_1 x3_1).f1.f0)) := (blk_cell BK584.out 1).trans rfl; have hcz48_2 : w46.cell? ⟨gb584, 2, none⟩ = some (.int .i64 ((rd_T103 l0_1 x3_1).f1.f1)) := (blk_cell BK584.out 2).trans rfl; have hcz48_3 : w46.cell? ⟨gb584, 3, none⟩ = some (.int .i64 ((rd_T103 l0_1 x3_1).f1.f2)) := (blk_cell BK584.out 3).trans rfl; have hcz48_4 : w46.cell? ⟨gb584, 4, none⟩ = some (.int .i64 ((rd_T103 l0_1 x3_1).f1.f3)) := (blk_cell BK584.out 4).trans rfl; have hfz48_0 := blk_frozen BK584.out 0; have hfz48_1 := blk_frozen BK584.out 1; have hfz48_2 := blk_frozen BK584.out 2; have hfz48_3 := blk_frozen BK584.out 3; have hfz48_4 := blk_frozen BK584.out 4) | (go_at_call 125; (with_reducible refine (spec_EntryAt.calls k1 _ _ l0_1 ((rd_T103 l0_1 x3_1).f0) t586 _ ?side1 ?side2 A7.out).mono ?_); (case side1 => exact sz HR0_1.out HB.out); (case side2 => exact HC0_1.out); rintro e w' ⟨rfl, ⟨nd, rfl⟩⟩))
              go_ret; exact ⟨ez, b2 GE582.out GE584.out HB.out⟩
          · replace c6 := Bool.eq_false_iff.mpr c6
            subst c6; replace H : (some false) = some r := (by rw [if_neg (show ¬ (false = true) by decide)] at H; exact H); obtain rfl := Option.some.inj H; have hcz49_0 := fz BK582.out 0 (.bool a0_0); have hcz49_1 := fz BK582.out 1 (.slice A0_1 l0_1.length c0_1); have hfz49_0 := blk_frozen BK582.out 0; have hfz49_1 := blk_frozen BK582.out 1; have p583 : 0 ≤ (x3_1 : Int) := of_decide_eq_true uz; have q583 : x3_1 < (l0_1.length : Int) := of_decide_eq_true uz; obtain ⟨ad583, e583, hx583_0, hx583_1, hx583_2, hx583_3, hx583_4⟩ := at_T103 HR0_1.out x3_1 p583 q583
            cases e583
            replace hx583_0 := cz HB.out hx583_0; replace hx583_1 := cz HB.out hx583_1; replace hx583_2 := cz HB.out hx583_2; replace hx583_3 := cz HB.out hx583_3; replace hx583_4 := cz HB.out hx583_4; replace p583 := eq_true p583; replace q583 := eq_true q583
            go_wp2_with (first | ((with_reducible refine gate_dst (N := 4) rfl ?_); (try (refine gate_guard (by rfl) ?_; dsimp only)); refine box_event ?hg (N := 4) ?hd (cs := #[.int .i64 0, .int .i64 0, .int .i64 0, .int .i64 0, .int .i64 0]) (t := 103) ?hr ?_; (case hd => rfl); (case hg => rfl); (case hr => first | (go_simp; done) | (go_simp; rfl)); intro gb584 hg w50 hbox hb; have n0_ := Aside0.mk (blk_below (g := gb582) (o := .cells #[.bool a0_0, .slice (some ad583) l0_1.length c0_1] 54 (0, 0)) (kz BK582.out) hb); have n1_ := Aside0.mk (below_step (b1 GE582.out HB.out) hb); have n2_ := Aside0.mk (hbox); have n3_ := Aside0.mk ((by rw [hg]; exact (below_size (b1 GE582.out HB.out)) : w.heap.size ≤ gb584)); have n4_ := Aside0.mk ((by rw [hg]; exact (below_size (b1 GE582.out HB.out)) : w.heap.size ≤ gb584)); have n5_ := Aside0.mk ((by rw [hg]; exact Nat.ne_of_lt (blk_lt (g := gb582) (o := .cells #[.bool a0_0, .slice (some ad583) l0_1.length c0_1] 54 (0, 0)) (kz BK582.out)) : gb582 ≠ gb584)); have n6_ := Aside0.mk ((by rw [hg]; exact Nat.ne_of_gt (blk_lt (g := gb582) (o := .cells #[.bool a0_0, .slice (some ad583) l0_1.length c0_1] 54 (0, 0)) (kz BK582.out)) : gb584 ≠ gb582)); clear BK582; clear HB; have BK582 := n0_; have HB := n1_; have BK584 := n2_; have GW584 := n3_; have GE584 := n4_; have NB582_584 := n5_; have NB584_582 := n6_; clear n0_ n1_ n2_ n3_ n4_ n5_ n6_; clear hb hbox hg; have hnb51 := NB584_582.out; have hnc51 := NB582_584.out; have hcz52_0 := fz BK584.out 0 (.int .i64 0); have hcz52_1 := fz BK584.out 1 (.int .i64 0); have hcz52_2 := fz BK584.out 2 (.int .i64 0); have hcz52_3 := fz BK584.out 3 (.int .i64 0); have hcz52_4 := fz BK584.out 4 (.int .i64 0); have hfz52_0 := blk_frozen BK584.out 0; have hfz52_1 := blk_frozen BK584.out 1; have hfz52_2 := blk_frozen BK584.out 2; have hfz52_3 := blk_frozen BK584.out 3; have hfz52_4 := blk_frozen BK584.out 4) | ((with_reducible refine gate_callee (f := 111) rfl ?_); refine goesL_ (some 19) rfl rfl Try.func111 (by kernel_rfl) rfl #[.agg #[.int .i64 ((rd_T103 l0_1 x3_1).f1.f0), .int .i64 ((rd_T103 l0_1 x3_1).f1.f1), .int .i64 ((rd_T103 l0_1 x3_1).f1.f2), .int .i64 ((rd_T103 l0_1 x3_1).f1.f3)]] rfl dz ?_; (with_reducible refine (spec_BoxOk.calls ((rd_T103 l0_1 x3_1).f1.f0) ((rd_T103 l0_1 x3_1).f1.f1) ((rd_T103 l0_1 x3_1).f1.f2) ((rd_T103 l0_1 x3_1).f1.f3) false _ A5.out).mono ?_); rintro e w53 ⟨rfl, hb⟩; refine ⟨_, rfl, ?_⟩; have n0_ := Aside0.mk (blk_below (g := gb582) (o := .cells #[.bool a0_0, .slice (some ad583) l0_1.length c0_1] 54 (0, 0)) (by (with_reducible repeat (first | refine blk_drewN ?_ _ | refine blk_drew ?_ | refine blk_alloc ?_ _)); refine blk_far ?_ NB582_584.out _; (with_reducible repeat (first | refine blk_drewN ?_ _ | refine blk_drew ?_ | refine blk_alloc ?_ _)); refine blk_far ?_ NB582_584.out _; (with_reducible repeat (first | refine blk_drewN ?_ _ | refine blk_drew ?_ | refine blk_alloc ?_ _)); refine blk_far ?_ NB582_584.out _; (with_reducible repeat (first | refine blk_drewN ?_ _ | refine blk_drew ?_ | refine blk_alloc ?_ _)); refine blk_far ?_ NB582_584.out _; (with_reducible repeat (first | refine blk_drewN ?_ _ | refine blk_drew ?_ | refine blk_alloc ?_ _)); refine blk_far ?_ NB582_584.out _; (with_reducible repeat (first | refine blk_drewN ?_ _ | refine blk_drew ?_ | refine blk_alloc ?_ _)); exact BK582.out) hb); have n1_ := Aside0.mk (blk_below (g := gb584) (o := .cells #[.int .i64 ((rd_T103 l0_1 x3_1).f0), .int .i64 ((rd_T103 l0_1 x3_1).f1.f0), .int .i64 ((rd_T103 l0_1 x3_1).f1.f1), .int .i64 ((rd_T103 l0_1 x3_1).f1.f2), .int .i64 ((rd_T103 l0_1 x3_1).f1.f3)] 103 (0, 0)) (by (with_reducible repeat (first | refine blk_drewN ?_ _ | refine blk_drew ?_ | refine blk_alloc ?_ _)); refine blk_put (cs := #[.int .i64 ((rd_T103 l0_1 x3_1).f0), .int .i64 ((rd_T103 l0_1 x3_1).f1.f0), .int .i64 ((rd_T103 l0_1 x3_1).f1.f1), .int .i64 ((rd_T103 l0_1 x3_1).f1.f2), .int .i64 0]) ?_ 4 _ rfl; (with_reducible repeat (first | refine blk_drewN ?_ _ | refine blk_drew ?_ | refine blk_alloc ?_ _)); refine blk_put (cs := #[.int .i64 ((rd_T103 l0_1 x3_1).f0), .int .i64 ((rd_T103 l0_1 x3_1).f1.f0), .int .i64 ((rd_T103 l0_1 x3_1).f1.f1), .int .i64 0, .int .i64 0]) ?_ 3 _ rfl; (with_reducible repeat (first | refine blk_drewN ?_ _ | refine blk_drew ?_ | refine blk_alloc ?_ _)); refine blk_put (cs := #[.int .i64 ((rd_T103 l0_1 x3_1).f0), .int .i64 ((rd_T103 l0_1 x3_1).f1.f0), .int .i64 0, .int .i64 0, .int .i64 0]) ?_ 2 _ rfl; (with_reducible repeat (first | refine blk_drewN ?_ _ | refine blk_drew ?_ | refine blk_alloc ?_ _)); refine blk_put (cs := #[.int .i64 ((rd_T103 l0_1 x3_1).f0), .int .i64 0, .int .i64 0, .int .i64 0, .int .i64 0]) ?_ 1 _ rfl; (with_reducible repeat (first | refine blk_drewN ?_ _ | refine blk_drew ?_ | refine blk_alloc ?_ _)); refine blk_put (cs := #[.int .i64 0, .int .i64 0, .int .i64 0, .int .i64 0, .int .i64 0]) ?_ 0 _ rfl; (with_reducible repeat (first | refine blk_drewN ?_ _ | refine blk_drew ?_ | refine blk_alloc ?_ _)); exact BK584.out) hb); have n2_ := Aside0.mk (below_step (b2 GE582.out GE584.out HB.out) hb); clear BK582; clear BK584; clear HB; have BK582 := n0_; have BK584 := n1_; have HB := n2_; clear n0_ n1_ n2_; (try clear hb); (try clear hb2); (try clear hk); (try clear hi)))
            go_ret; exact ⟨ez, b2 GE582.out GE584.out HB.out⟩
        · rw [if_neg c4] at H
          exact absurd H (by simp)
      · rw [if_neg c3] at H
        have c3b0 : decide (x3_1 < (l0_1.length : Int)) = false := decide_eq_false c3; clear c3
        by_cases c54 : (l0_1.length : Int) ≤ 4
        · rw [if_pos c54] at H
          have c54b0 : decide ((l0_1.length : Int) ≤ 4) = true := decide_eq_true c54; have c54b1 : decide (l0_1.length ≤ 4) = true := decide_eq_true (by omega); clear c54
          by_cases c55 : a0_0 = true
          · subst c55
            replace H : (some true) = some r := (by rw [if_pos rfl] at H; exact H); obtain rfl := Option.some.inj H; have hcz56_0 := fz BK582.out 0 (.bool true); have hcz56_1 := fz BK582.out 1 (.slice A0_1 l0_1.length c0_1); have hfz56_0 := blk_frozen BK582.out 0; have hfz56_1 := blk_frozen BK582.out 1; go_wp2; go_ret; exact ⟨ez, b1 GE582.out HB.out⟩
          · replace c55 := Bool.eq_false_iff.mpr c55
            subst c55; replace H : (some (decide ((l0_1.length : Int) > 0))) = some r := (by rw [if_neg (show ¬ (false = true) by decide)] at H; exact H); obtain rfl := Option.some.inj H; have hcz57_0 := fz BK582.out 0 (.bool false); have hcz57_1 := fz BK582.out 1 (.slice A0_1 l0_1.length c0_1); have hfz57_0 := blk_frozen BK582.out 0; have hfz57_1 := blk_frozen BK582.out 1; go_wp2; go_ret; exact ⟨ez, b1 GE582.out HB.out⟩
        · rw [if_neg c54] at H
          have c54b0 : decide ((l0_1.length : Int) ≤ 4) = false := decide_eq_false c54; have c54b1 : decide (l0_1.length ≤ 4) = false := decide_eq_false (by omega); clear c54; obtain rfl := Option.some.inj H; have hcz58_0 := fz BK582.out 0 (.bool a0_0); have hcz58_1 := fz BK582.out 1 (.slice A0_1 l0_1.length c0_1); have hfz58_0 := blk_frozen BK582.out 0; have hfz58_1 := blk_frozen BK582.out 1; go_wp2; go_ret; exact ⟨ez, b1 GE582.out HB.out⟩

attribute [local go_sem] max2_int min2_int max_two min_two max_three min_three max_four min_four 
set_option linter.unusedVariables false
set_option linter.unusedSimpArgs false

/-! ### spec_BookOk: function 41 -/
mutual
def spec_BookOk.j0 : Nat → List Int → Bool → Int → List (S90) → Option (Bool)
  | 0, _, _, _, _ => none
  | k + 1, x3, x20, x590000, x590001 => if x20 = true then (some false) else (spec_BookOk.l0 k x3 0 x590000 x590001)
def spec_BookOk.l0 : Nat → List Int → Int → Int → List (S90) → Option (Bool)
  | 0, _, _, _, _ => none
  | k + 1, x3, x4, x590000, x590001 => if x4 < (x590001.length : Int) then (if 0 ≤ x4 then (if (rd_T90 x590001 x4).f0 = true then ((spec_NodeOk.f k ((rd_T90 x590001 x4).f1.f0) ((rd_T90 x590001 x4).f1.f1)).bind fun t596 => (if t596 = true then (if ((rd_T90 x590001 x4).f0 = true) then (spec_BookOk.l0 k x3 (wrap64 (x4 + 1)) x590000 x590001) else (if (rd_T90 x590001 x4).f1.f0 = true then (some false) else (if (((rd_T90 x590001 x4).f1.f1).length : Int) > 0 then (some false) else (spec_BookOk.l0 k x3 (wrap64 (x4 + 1)) x590000 x590001)))) else (some false))) else (if ((rd_T90 x590001 x4).f0 = true) then (spec_BookOk.l0 k x3 (wrap64 (x4 + 1)) x590000 x590001) else (if (rd_T90 x590001 x4).f1.f0 = true then (some false) else (if (((rd_T90 x590001 x4).f1.f1).length : Int) > 0 then (some false) else (spec_BookOk.l0 k x3 (wrap64 (x4 + 1)) x590000 x590001))))) else (none)) else (spec_BookOk.l1 k x3 0 0 x590000 x590001)
def spec_BookOk.l1 : Nat → List Int → Int → Int → Int → List (S90) → Option (Bool)
  | 0, _, _, _, _, _ => none
  | k + 1, x3, x5, x6, x590000, x590001 => if x6 < (x3.length : Int) then (if 0 ≤ x6 then (if 0 ≤ (rd x3 x6) then (if (rd x3 x6) < (x590001.length : Int) then (spec_BookOk.l2 k x3 x5 x6 0 x590000 x590001 ((rd_T90 x590001 (rd x3 x6)).f1.f0) ((rd_T90 x590001 (rd x3 x6)).f1.f1)) else (none)) else (none)) else (none)) else (some (x5 == (wrap64 ((x3.length : Int) - 1))))
def spec_BookOk.l2 : Nat → List Int → Int → Int → Int → Int → List (S90) → Bool → List (S103) → Option (Bool)
  | 0, _, _, _, _, _, _, _, _ => none
  | k + 1, x3, x5, x6, x8, x590000, x590001, x606000, x606001 => if x8 < (x606001.length : Int) then (spec_BookOk.j4 k x3 x5 x6 x8 (!x606000) x590000 x590001 x606000 x606001) else (spec_BookOk.j4 k x3 x5 x6 x8 false x590000 x590001 x606000 x606001)
def spec_BookOk.j4 : Nat → List Int → Int → Int → Int → Bool → Int → List (S90) → Bool → List (S103) → Option (Bool)
  | 0, _, _, _, _, _, _, _, _, _ => none
  | k + 1, x3, x5, x6, x8, x97, x590000, x590001, x606000, x606001 => if x97 = true then (if 0 ≤ x8 then (if x8 < (x606001.length : Int) then ((spec_l7Has.f k x3 ((rd_T103 x606001 x8).f0)).bind fun t607 => (if t607 = true then (if ((rd_T103 x606001 x8).f0) = x590000 then (some false) else (spec_BookOk.l2 k x3 (wrap64 (x5 + 1)) x6 (wrap64 (x8 + 1)) x590000 x590001 x606000 x606001)) else (some false))) else (none)) else (none)) else (spec_BookOk.l1 k x3 x5 (wrap64 (x6 + 1)) x590000 x590001)
end
def spec_BookOk.f (k : Nat) (a0_0 : Int) (l0_1 : List (S90)) : Option (Bool) := (spec_Reach.f k a0_0 l0_1).bind fun t590 => ((spec_l1In.f (l0_1.length : Int) 1 48).bind fun t593 => (if t593 = true then (spec_BookOk.j0 k t590 ((t590.length : Int) == 0) a0_0 l0_1) else (spec_BookOk.j0 k t590 true a0_0 l0_1)))
theorem spec_BookOk.mono_l : ∀ k, (∀ y0 y1 y2 y3, LeO (spec_BookOk.j0 k y0 y1 y2 y3) (spec_BookOk.j0 (k + 1) y0 y1 y2 y3)) ∧ (∀ y0 y1 y2 y3, LeO (spec_BookOk.l0 k y0 y1 y2 y3) (spec_BookOk.l0 (k + 1) y0 y1 y2 y3)) ∧ (∀ y0 y1 y2 y3 y4, LeO (spec_BookOk.l1 k y0 y1 y2 y3 y4) (spec_BookOk.l1 (k + 1) y0 y1 y2 y3 y4)) ∧ (∀ y0 y1 y2 y3 y4 y5 y6 y7, LeO (spec_BookOk.l2 k y0 y1 y2 y3 y4 y5 y6 y7) (spec_BookOk.l2 (k + 1) y0 y1 y2 y3 y4 y5 y6 y7)) ∧ (∀ y0 y1 y2 y3 y4 y5 y6 y7 y8, LeO (spec_BookOk.j4 k y0 y1 y2 y3 y4 y5 y6 y7 y8) (spec_BookOk.j4 (k + 1) y0 y1 y2 y3 y4 y5 y6 y7 y8))
  | 0 => ⟨fun _ _ _ _ r h => by simp [spec_BookOk.j0] at h, fun _ _ _ _ r h => by simp [spec_BookOk.l0] at h, fun _ _ _ _ _ r h => by simp [spec_BookOk.l1] at h, fun _ _ _ _ _ _ _ _ r h => by simp [spec_BookOk.l2] at h, fun _ _ _ _ _ _ _ _ _ r h => by simp [spec_BookOk.j4] at h⟩
  | k + 1 => by
    obtain ⟨ih0, ih1, ih2, ih3, ih4⟩ := spec_BookOk.mono_l k; refine ⟨?_, ?_, ?_, ?_, ?_⟩
    · intro y0 y1 y2 y3
      unfold spec_BookOk.j0
      repeat' first | (with_reducible first | exact ih0 _ _ _ _ | exact ih1 _ _ _ _ | exact ih2 _ _ _ _ _ | exact ih3 _ _ _ _ _ _ _ _ | exact ih4 _ _ _ _ _ _ _ _ _ | exact spec_NodeOk.mono _ _ _ | exact spec_Reach.mono _ _ _ | exact spec_l7Has.mono _ _ _ | exact LeO.refl _ | exact LeO.none _ | refine LeO.ite ?_ ?_ | refine LeO.bind ?_ (fun _ => ?_)) | exact ih0 _ _ _ _ | exact ih1 _ _ _ _ | exact ih2 _ _ _ _ _ | exact ih3 _ _ _ _ _ _ _ _ | exact ih4 _ _ _ _ _ _ _ _ _ | exact spec_NodeOk.mono _ _ _ | exact spec_Reach.mono _ _ _ | exact spec_l7Has.mono _ _ _ | exact LeO.none _ | refine LeO.ite ?_ ?_ | refine LeO.bind ?_ (fun _ => ?_)
    · intro y0 y1 y2 y3
      unfold spec_BookOk.l0
      repeat' first | (with_reducible first | exact ih0 _ _ _ _ | exact ih1 _ _ _ _ | exact ih2 _ _ _ _ _ | exact ih3 _ _ _ _ _ _ _ _ | exact ih4 _ _ _ _ _ _ _ _ _ | exact spec_NodeOk.mono _ _ _ | exact spec_Reach.mono _ _ _ | exact spec_l7Has.mono _ _ _ | exact LeO.refl _ | exact LeO.none _ | refine LeO.ite ?_ ?_ | refine LeO.bind ?_ (fun _ => ?_)) | exact ih0 _ _ _ _ | exact ih1 _ _ _ _ | exact ih2 _ _ _ _ _ | exact ih3 _ _ _ _ _ _ _ _ | exact ih4 _ _ _ _ _ _ _ _ _ | exact spec_NodeOk.mono _ _ _ | exact spec_Reach.mono _ _ _ | exact spec_l7Has.mono _ _ _ | exact LeO.none _ | refine LeO.ite ?_ ?_ | refine LeO.bind ?_ (fun _ => ?_)
    · intro y0 y1 y2 y3 y4
      unfold spec_BookOk.l1
      repeat' first | (with_reducible first | exact ih0 _ _ _ _ | exact ih1 _ _ _ _ | exact ih2 _ _ _ _ _ | exact ih3 _ _ _ _ _ _ _ _ | exact ih4 _ _ _ _ _ _ _ _ _ | exact spec_NodeOk.mono _ _ _ | exact spec_Reach.mono _ _ _ | exact spec_l7Has.mono _ _ _ | exact LeO.refl _ | exact LeO.none _ | refine LeO.ite ?_ ?_ | refine LeO.bind ?_ (fun _ => ?_)) | exact ih0 _ _ _ _ | exact ih1 _ _ _ _ | exact ih2 _ _ _ _ _ | exact ih3 _ _ _ _ _ _ _ _ | exact ih4 _ _ _ _ _ _ _ _ _ | exact spec_NodeOk.mono _ _ _ | exact spec_Reach.mono _ _ _ | exact spec_l7Has.mono _ _ _ | exact LeO.none _ | refine LeO.ite ?_ ?_ | refine LeO.bind ?_ (fun _ => ?_)
    · intro y0 y1 y2 y3 y4 y5 y6 y7
      unfold spec_BookOk.l2
      repeat' first | (with_reducible first | exact ih0 _ _ _ _ | exact ih1 _ _ _ _ | exact ih2 _ _ _ _ _ | exact ih3 _ _ _ _ _ _ _ _ | exact ih4 _ _ _ _ _ _ _ _ _ | exact spec_NodeOk.mono _ _ _ | exact spec_Reach.mono _ _ _ | exact spec_l7Has.mono _ _ _ | exact LeO.refl _ | exact LeO.none _ | refine LeO.ite ?_ ?_ | refine LeO.bind ?_ (fun _ => ?_)) | exact ih0 _ _ _ _ | exact ih1 _ _ _ _ | exact ih2 _ _ _ _ _ | exact ih3 _ _ _ _ _ _ _ _ | exact ih4 _ _ _ _ _ _ _ _ _ | exact spec_NodeOk.mono _ _ _ | exact spec_Reach.mono _ _ _ | exact spec_l7Has.mono _ _ _ | exact LeO.none _ | refine LeO.ite ?_ ?_ | refine LeO.bind ?_ (fun _ => ?_)
    · intro y0 y1 y2 y3 y4 y5 y6 y7 y8
      unfold spec_BookOk.j4
      repeat' first | (with_reducible first | exact ih0 _ _ _ _ | exact ih1 _ _ _ _ | exact ih2 _ _ _ _ _ | exact ih3 _ _ _ _ _ _ _ _ | exact ih4 _ _ _ _ _ _ _ _ _ | exact spec_NodeOk.mono _ _ _ | exact spec_Reach.mono _ _ _ | exact spec_l7Has.mono _ _ _ | exact LeO.refl _ | exact LeO.none _ | refine LeO.ite ?_ ?_ | refine LeO.bind ?_ (fun _ => ?_)) | exact ih0 _ _ _ _ | exact ih1 _ _ _ _ | exact ih2 _ _ _ _ _ | exact ih3 _ _ _ _ _ _ _ _ | exact ih4 _ _ _ _ _ _ _ _ _ | exact spec_NodeOk.mono _ _ _ | exact spec_Reach.mono _ _ _ | exact spec_l7Has.mono _ _ _ | exact LeO.none _ | refine LeO.ite ?_ ?_ | refine LeO.bind ?_ (fun _ => ?_)
theorem spec_BookOk.mono : ∀ a0 a1 k, LeO (spec_BookOk.f k a0 a1) (spec_BookOk.f (k + 1) a0 a1) := by
  intro a0 a1 k
  obtain ⟨ih0, ih1, ih2, ih3, ih4⟩ := spec_BookOk.mono_l k; unfold spec_BookOk.f
  repeat' first | (with_reducible first | exact ih0 _ _ _ _ | exact ih1 _ _ _ _ | exact ih2 _ _ _ _ _ | exact ih3 _ _ _ _ _ _ _ _ | exact ih4 _ _ _ _ _ _ _ _ _ | exact spec_NodeOk.mono _ _ _ | exact spec_Reach.mono _ _ _ | exact spec_l7Has.mono _ _ _ | exact LeO.refl _ | exact LeO.none _ | refine LeO.ite ?_ ?_ | refine LeO.bind ?_ (fun _ => ?_)) | exact ih0 _ _ _ _ | exact ih1 _ _ _ _ | exact ih2 _ _ _ _ _ | exact ih3 _ _ _ _ _ _ _ _ | exact ih4 _ _ _ _ _ _ _ _ _ | exact spec_NodeOk.mono _ _ _ | exact spec_Reach.mono _ _ _ | exact spec_l7Has.mono _ _ _ | exact LeO.none _ | refine LeO.ite ?_ ?_ | refine LeO.bind ?_ (fun _ => ?_)
def spec_BookOk.T13 : Bool × List (List Nat × List Nat) := (true, [([], []), ([0], [0]), ([], []), ([], []), ([2, 3], [2, 3]), ([4], [4]), ([1, 5], [1, 5]), ([6], [6]), ([7], [7]), ([], []), ([9, 8, 0, 1, 2, 3, 4, 5, 6, 7, 8, 9], [8, 9])])
def spec_BookOk.B13 : List Nat := [0, 1, 0, 0, 12, 28, 63, 127, 255, 0, 1023]
theorem spec_BookOk.tab13 : rtab .any (opsOf Try.f41 13) = spec_BookOk.T13 := by kernel_rfl
theorem spec_BookOk.bits13 : waitsOk spec_BookOk.T13.2 spec_BookOk.B13 = true := by kernel_rfl
def spec_BookOk.T17 : Bool × List (List Nat × List Nat) := (true, [([], []), ([], []), ([1], [1]), ([], []), ([2, 3], [2, 3]), ([4], [4]), ([5], [5]), ([0, 6], [0, 6]), ([7], [7]), ([8, 7], [8]), ([9], [9]), ([10, 9], [9, 10]), ([9], [9]), ([11, 12, 9], [9, 11, 12]), ([13, 9], [9, 13]), ([14, 9], [9, 14]), ([9], [9]), ([16, 9], [9, 16]), ([15, 17, 9], [9, 15, 17]), ([9, 18], [9, 18])])
def spec_BookOk.B17 : List Nat := [0, 0, 2, 0, 14, 30, 62, 127, 255, 511, 1023, 2047, 1023, 8191, 16383, 32767, 1023, 66559, 262143, 524287]
theorem spec_BookOk.tab17 : rtab .any (opsOf Try.f41 17) = spec_BookOk.T17 := by kernel_rfl
theorem spec_BookOk.bits17 : waitsOk spec_BookOk.T17.2 spec_BookOk.B17 = true := by kernel_rfl
set_option maxHeartbeats 8000000 in
set_option maxRecDepth 100000 in
theorem spec_BookOk.calls (k : Nat) (a0_0 : Int) (A0_1 : Option Addr) (c0_1 : Nat) (l0_1 : List (S90)) (r : Bool) (w : World) (hr0_1 : Kd.C k90 w A0_1 l0_1.length l0_1) (hc0_1 : l0_1.length ≤ c0_1) (h : spec_BookOk.f k a0_0 l0_1 = some r) :
    Calls Try.prog 41 #[.agg #[.int .i64 a0_0, .slice A0_1 l0_1.length c0_1]] w fun e w' => e = .returned (.bool r) ∧ Below w.heap.size w w' := by
  have hu49 := Try.underlying49; have hu54 := Try.underlying54; have HR0_1 := Aside0.mk hr0_1; have HC0_1 := Aside0.mk hc0_1; clear hr0_1 hc0_1; have HB := Aside0.mk (Below.refl w.heap.size w); have H : ((spec_Reach.f k a0_0 l0_1).bind fun t590 => ((spec_l1In.f (l0_1.length : Int) 1 48).bind fun t593 => (if t593 = true then (spec_BookOk.j0 k t590 ((t590.length : Int) == 0) a0_0 l0_1) else (spec_BookOk.j0 k t590 true a0_0 l0_1)))) = some r := h; clear h; replace H := Option.bind_eq_some_iff.mp H; obtain ⟨t590, A20, H⟩ := H; replace H : ((spec_l1In.f (l0_1.length : Int) 1 48).bind fun t593 => (if t593 = true then (spec_BookOk.j0 k t590 ((t590.length : Int) == 0) a0_0 l0_1) else (spec_BookOk.j0 k t590 true a0_0 l0_1))) = some r := H; have A2 := Aside0.mk A20; clear A20; have HC3 := Aside0.mk H; clear H
  go_enter Try.func41, Try.ntmps41
  go_upto_region 2 with (first | ((with_reducible refine gate_dst (N := 1) rfl ?_); (try (refine gate_guard (by rfl) ?_; dsimp only)); refine box_event ?hg (N := 1) ?hd (cs := #[.int .i64 a0_0, .slice A0_1 l0_1.length c0_1]) (t := 49) ?hr ?_; (case hd => rfl); (case hg => rfl); (case hr => first | (go_simp; done) | (go_simp; rfl)); intro gb589 hg w4 hbox hb; have n0_ := Aside0.mk (below_step (bz HB.out) hb); have n1_ := Aside0.mk (hbox); have n2_ := Aside0.mk ((by rw [hg]; exact (below_size (bz HB.out)) : w.heap.size ≤ gb589)); have n3_ := Aside0.mk ((by rw [hg]; exact (below_size (bz HB.out)) : w.heap.size ≤ gb589)); clear HB; have HB := n0_; have BK589 := n1_; have GW589 := n2_; have GE589 := n3_; clear n0_ n1_ n2_ n3_; clear hb hbox hg; have hcz5_0 := fz BK589.out 0 (.int .i64 a0_0); have hcz5_1 := fz BK589.out 1 (.slice A0_1 l0_1.length c0_1); have hfz5_0 := blk_frozen BK589.out 0; have hfz5_1 := blk_frozen BK589.out 1) | ((with_reducible refine gate_callee (f := 85) rfl ?_); refine goesL_ (some 10) rfl rfl Try.func85 (by kernel_rfl) rfl #[.agg #[.int .i64 a0_0, .slice A0_1 l0_1.length c0_1]] rfl dz ?_; (with_reducible refine (spec_Reach.calls k a0_0 _ _ l0_1 t590 _ ?side1 ?side2 A2.out).mono ?_); (case side1 => exact sz HR0_1.out HB.out); (case side2 => exact HC0_1.out); rintro e w6 ⟨v591, rfl, ho0, hb⟩; refine ⟨_, rfl, ?_⟩; have n0_ := Aside0.mk (Kd.R_lower ho0 (below_size (b1 GE589.out HB.out))); have n1_ := Aside0.mk (blk_below (g := gb589) (o := .cells #[.int .i64 a0_0, .slice A0_1 l0_1.length c0_1] 49 (0, 0)) (kz BK589.out) hb); have n2_ := Aside0.mk (below_step (b1 GE589.out HB.out) hb); clear BK589; clear HB; have HO592 := n0_; have BK589 := n1_; have HB := n2_; clear n0_ n1_ n2_; (try clear hb); (try clear hb2); (try clear hk); (try clear hi); (try clear ho0)))
  (try simp only [Act.put, List.setIfInBounds_toArray, List.set_cons_zero, List.set_cons_succ])
  go_cut [20] (fun v20 wc => ∃ (kq : Nat) (x20_2 : Bool), v20 = .bool x20_2 ∧ Aside0 (spec_BookOk.j0 kq t590 x20_2 a0_0 l0_1 = some r) ∧ Aside0 (kq ≤ k) ∧ Aside0 (Kd.R (Kd.int .i64) 3 wc w.heap.size (fun _ => True) v591 t590) ∧ Aside0 (wc.heap[gb589]? = some (.cells #[.int .i64 a0_0, (.slice A0_1 l0_1.length c0_1)] 49 (0, 0))) ∧ Aside0 (Below w.heap.size w wc))
  case first =>
    have H := HC3.out; clear HC3; replace H := Option.bind_eq_some_iff.mp H; obtain ⟨t593, A70, H⟩ := H; replace H : (if t593 = true then (spec_BookOk.j0 k t590 ((t590.length : Int) == 0) a0_0 l0_1) else (spec_BookOk.j0 k t590 true a0_0 l0_1)) = some r := H; have A7 := Aside0.mk A70; clear A70
    by_cases c8 : t593 = true
    · subst c8
      replace H : (spec_BookOk.j0 k t590 ((t590.length : Int) == 0) a0_0 l0_1) = some r := (by rw [if_pos rfl] at H; exact H); have H' := Aside0.mk H; clear H; have hcz9_0 := fz BK589.out 0 (.int .i64 a0_0); have hcz9_1 := fz BK589.out 1 (.slice A0_1 l0_1.length c0_1); have hfz9_0 := blk_frozen BK589.out 0; have hfz9_1 := blk_frozen BK589.out 1
      go_wp2_with (first | ((with_reducible refine gate_callee (f := 72) rfl ?_); refine goesL_ (some 14) rfl rfl Try.func72 (by kernel_rfl) rfl #[.int .i64 (l0_1.length : Int), .int .i64 1, .int .i64 48] rfl dz ?_; (with_reducible refine (spec_l1In.calls (l0_1.length : Int) 1 48 true _ A7.out).mono ?_); rintro e w' ⟨rfl, ⟨nd, rfl⟩⟩; refine ⟨_, rfl, ?_⟩; obtain ⟨Ao10, co10, eo10⟩ := Kd.R_slice HO592.out; subst eo10))
      go_meet
      case rel => exact ⟨_, (((t590.length : Int) == 0)), az, H', ⟨lz⟩, ⟨rz HO592.out⟩, ⟨kz BK589.out⟩, ⟨b1 GE589.out HB.out⟩⟩
    · replace c8 := Bool.eq_false_iff.mpr c8
      subst c8; replace H : (spec_BookOk.j0 k t590 true a0_0 l0_1) = some r := (by rw [if_neg (show ¬ (false = true) by decide)] at H; exact H); have H' := Aside0.mk H; clear H; have hcz11_0 := fz BK589.out 0 (.int .i64 a0_0); have hcz11_1 := fz BK589.out 1 (.slice A0_1 l0_1.length c0_1); have hfz11_0 := blk_frozen BK589.out 0; have hfz11_1 := blk_frozen BK589.out 1
      go_wp2_with (first | ((with_reducible refine gate_callee (f := 72) rfl ?_); refine goesL_ (some 14) rfl rfl Try.func72 (by kernel_rfl) rfl #[.int .i64 (l0_1.length : Int), .int .i64 1, .int .i64 48] rfl dz ?_; (with_reducible refine (spec_l1In.calls (l0_1.length : Int) 1 48 false _ A7.out).mono ?_); rintro e w' ⟨rfl, ⟨nd, rfl⟩⟩; refine ⟨_, rfl, ?_⟩))
      go_meet
      case rel => exact ⟨_, (true), az, H', ⟨lz⟩, ⟨rz HO592.out⟩, ⟨kz BK589.out⟩, ⟨b1 GE589.out HB.out⟩⟩
  case rest =>
    clear HC3; (try clear p2); (try clear c4); (try clear c7); (try clear c8); (try clear hcz11_0); (try clear hcz11_1); (try clear hcz5_0); (try clear hcz5_1); (try clear hcz9_0); (try clear hcz9_1); (try clear hfz11_0); (try clear hfz11_1); (try clear hfz5_0); (try clear hfz5_1); (try clear hfz9_0); (try clear hfz9_1); obtain ⟨kq, x20_2, rfl, HA, HJ2, HO_3, BK589, HB⟩ := hcut
    cases kq with
    | zero => exact absurd HA.out (by simp [spec_BookOk.j0])
    | succ kj2 =>
      have H := HA.out; clear HA
      simp only [spec_BookOk.j0] at H
      by_cases c12 : x20_2 = true
      · subst c12
        replace H : (some false) = some r := (by rw [if_pos rfl] at H; exact H); obtain rfl := Option.some.inj H; go_wp2; go_ret; exact ⟨ez, b1 GE589.out HB.out⟩
      · replace c12 := Bool.eq_false_iff.mpr c12
        subst c12; replace H : (spec_BookOk.l0 kj2 t590 0 a0_0 l0_1) = some r := (by rw [if_neg (show ¬ (false = true) by decide)] at H; exact H); have H' := Aside0.mk H; clear H; go_wp2
        go_loopg [4] kj2 (fun kq v4 w' => ∃ (x4_2 : Int), v4 = .int .i64 x4_2 ∧ Aside0 (spec_BookOk.l0 kq t590 x4_2 a0_0 l0_1 = some r) ∧ Aside0 (kq ≤ kj2) ∧ Aside0 (Kd.R (Kd.int .i64) 3 w' w.heap.size (fun _ => True) v591 t590) ∧ Aside0 (w'.heap[gb589]? = some (.cells #[.int .i64 a0_0, (.slice A0_1 l0_1.length c0_1)] 49 (0, 0))) ∧ Aside0 (Below w.heap.size w w'))
        case atStart => exact ⟨(0), az, H', ⟨Nat.le_refl _⟩, ⟨rz HO_3.out⟩, ⟨kz BK589.out⟩, ⟨b1 GE589.out HB.out⟩⟩
        case round =>
          clear H'; (try clear c1); (try clear p2); (try clear c4); (try clear c7); (try clear c8); (try clear c12); (try clear hcz11_0); (try clear hcz11_1); (try clear hcz5_0); (try clear hcz5_1); (try clear hcz9_0); (try clear hcz9_1); (try clear hfz11_0); (try clear hfz11_1); (try clear hfz5_0); (try clear hfz5_1); (try clear hfz9_0); (try clear hfz9_1); (try clear p2); obtain ⟨x4_2, rfl, HA, HK2, HO_3, BK589, HB⟩ := hrel
          cases gk with
          | zero => exact absurd HA.out (by simp [spec_BookOk.l0])
          | succ k2 =>
            have H := HA.out; clear HA
            simp only [spec_BookOk.l0] at H
            by_cases c13 : x4_2 < (l0_1.length : Int)
            · rw [if_pos c13] at H
              have c13b0 : decide (x4_2 < (l0_1.length : Int)) = true := decide_eq_true c13; clear c13
              by_cases c14 : 0 ≤ x4_2
              · rw [if_pos c14] at H
                have c14b0 : decide (0 ≤ x4_2) = true := decide_eq_true c14; clear c14; obtain ⟨bq15, hbq15⟩ : ∃ b_ : Bool, b_ = ((rd_T90 l0_1 x4_2).f0) := ⟨_, rfl⟩
                replace H : (if bq15 = true then ((spec_NodeOk.f k2 ((rd_T90 l0_1 x4_2).f1.f0) ((rd_T90 l0_1 x4_2).f1.f1)).bind fun t596 => (if t596 = true then (if (bq15 = true) then (spec_BookOk.l0 k2 t590 (wrap64 (x4_2 + 1)) a0_0 l0_1) else (if (rd_T90 l0_1 x4_2).f1.f0 = true then (some false) else (if (((rd_T90 l0_1 x4_2).f1.f1).length : Int) > 0 then (some false) else (spec_BookOk.l0 k2 t590 (wrap64 (x4_2 + 1)) a0_0 l0_1)))) else (some false))) else (if (bq15 = true) then (spec_BookOk.l0 k2 t590 (wrap64 (x4_2 + 1)) a0_0 l0_1) else (if (rd_T90 l0_1 x4_2).f1.f0 = true then (some false) else (if (((rd_T90 l0_1 x4_2).f1.f1).length : Int) > 0 then (some false) else (spec_BookOk.l0 k2 t590 (wrap64 (x4_2 + 1)) a0_0 l0_1))))) = some r := by rw [← hbq15] at H; exact H
                have Nbq15 := Aside0.mk hbq15; clear hbq15
                by_cases c16 : bq15 = true
                · subst c16
                  replace H : ((spec_NodeOk.f k2 ((rd_T90 l0_1 x4_2).f1.f0) ((rd_T90 l0_1 x4_2).f1.f1)).bind fun t596 => (if t596 = true then (if (true = true) then (spec_BookOk.l0 k2 t590 (wrap64 (x4_2 + 1)) a0_0 l0_1) else (if (rd_T90 l0_1 x4_2).f1.f0 = true then (some false) else (if (((rd_T90 l0_1 x4_2).f1.f1).length : Int) > 0 then (some false) else (spec_BookOk.l0 k2 t590 (wrap64 (x4_2 + 1)) a0_0 l0_1)))) else (some false))) = some r := (by rw [if_pos rfl] at H; exact H); replace H := Option.bind_eq_some_iff.mp H; obtain ⟨t596, A170, H⟩ := H; replace H : (if t596 = true then (if (true = true) then (spec_BookOk.l0 k2 t590 (wrap64 (x4_2 + 1)) a0_0 l0_1) else (if (rd_T90 l0_1 x4_2).f1.f0 = true then (some false) else (if (((rd_T90 l0_1 x4_2).f1.f1).length : Int) > 0 then (some false) else (spec_BookOk.l0 k2 t590 (wrap64 (x4_2 + 1)) a0_0 l0_1)))) else (some false)) = some r := H; have A17 := Aside0.mk A170; clear A170
                  by_cases c18 : t596 = true
                  · subst c18
                    replace H : (if (true = true) then (spec_BookOk.l0 k2 t590 (wrap64 (x4_2 + 1)) a0_0 l0_1) else (if (rd_T90 l0_1 x4_2).f1.f0 = true then (some false) else (if (((rd_T90 l0_1 x4_2).f1.f1).length : Int) > 0 then (some false) else (spec_BookOk.l0 k2 t590 (wrap64 (x4_2 + 1)) a0_0 l0_1)))) = some r := (by rw [if_pos rfl] at H; exact H)
                    by_cases c19 : (true = true)
                    · clear c19
                      replace H : (spec_BookOk.l0 k2 t590 (wrap64 (x4_2 + 1)) a0_0 l0_1) = some r := (by rw [if_pos rfl] at H; exact H); have H' := Aside0.mk H; clear H; have hcz20_0 := fz BK589.out 0 (.int .i64 a0_0); have hcz20_1 := fz BK589.out 1 (.slice A0_1 l0_1.length c0_1); have hfz20_0 := blk_frozen BK589.out 0; have hfz20_1 := blk_frozen BK589.out 1; have p594 : 0 ≤ (x4_2 : Int) := of_decide_eq_true uz; have q594 : x4_2 < (l0_1.length : Int) := of_decide_eq_true uz; obtain ⟨ad594, A594_2, c594_2, e594, hx594_0, hx594_1, hx594_2, hl594_2, hi594_2⟩ := at_T90 HR0_1.out x4_2 p594 q594
                      (try rw [← Nbq15.out] at hx594_0)
                      (try rw [← Nbq15.out] at hx594_1)
                      cases e594
                      replace hx594_0 := cz HB.out hx594_0; replace hx594_1 := cz HB.out hx594_1; replace hx594_2 := cz HB.out hx594_2; have HR594_2 := Aside0.mk hi594_2; have HC594_2 := Aside0.mk hl594_2; clear hi594_2 hl594_2; replace p594 := eq_true p594; replace q594 := eq_true q594; have p595 : 0 ≤ (x4_2 : Int) := of_decide_eq_true uz; have q595 : x4_2 < (l0_1.length : Int) := of_decide_eq_true uz; obtain ⟨ad595, A595_2, c595_2, e595, hx595_0, hx595_1, hx595_2, hl595_2, hi595_2⟩ := at_T90 HR0_1.out x4_2 p595 q595
                      (try rw [← Nbq15.out] at hx595_0)
                      (try rw [← Nbq15.out] at hx595_1)
                      obtain rfl : ad594 = ad595 := (by injection e595); replace hx595_0 := cz HB.out hx595_0; replace hx595_1 := cz HB.out hx595_1; replace hx595_2 := cz HB.out hx595_2; have HR595_2 := Aside0.mk hi595_2; have HC595_2 := Aside0.mk hl595_2; clear hi595_2 hl595_2; replace p595 := eq_true p595; replace q595 := eq_true q595; have ea_ := Option.some.inj (hx594_2.symm.trans hx595_2)
                      injection ea_ with ea_ en_ ec_
                      subst ea_; subst ec_; clear en_
                      go_wp2_with (first | (go_at_call 86; (with_reducible refine (spec_NodeOk.calls k2 ((rd_T90 l0_1 x4_2).f1.f0) _ _ ((rd_T90 l0_1 x4_2).f1.f1) true _ ?side1 ?side2 A17.out).mono ?_); (case side1 => exact sz HR595_2.out HB.out); (case side2 => exact HC595_2.out); rintro e w21 ⟨rfl, hb⟩; have n0_ := Aside0.mk (Kd.R_below (rz HO_3.out) hb); have n1_ := Aside0.mk (blk_below (g := gb589) (o := .cells #[.int .i64 a0_0, .slice (some ad594) l0_1.length c0_1] 49 (0, 0)) (kz BK589.out) hb); have n2_ := Aside0.mk (below_step (b1 GE589.out HB.out) hb); clear HO_3; clear BK589; clear HB; have HO_3 := n0_; have BK589 := n1_; have HB := n2_; clear n0_ n1_ n2_; (try clear hb); (try clear hb2); (try clear hk); (try clear hi); have hcz22_0 := fz BK589.out 0 (.int .i64 a0_0); have hcz22_1 := fz BK589.out 1 (.slice (some ad594) l0_1.length c0_1); have hfz22_0 := blk_frozen BK589.out 0; have hfz22_1 := blk_frozen BK589.out 1; have p597 : 0 ≤ (x4_2 : Int) := of_decide_eq_true uz; have q597 : x4_2 < (l0_1.length : Int) := of_decide_eq_true uz; obtain ⟨ad597, A597_2, c597_2, e597, hx597_0, hx597_1, hx597_2, hl597_2, hi597_2⟩ := at_T90 HR0_1.out x4_2 p597 q597; (try rw [← Nbq15.out] at hx597_0); (try rw [← Nbq15.out] at hx597_1); obtain rfl : ad594 = ad597 := (by injection e597); replace hx597_0 := cz HB.out hx597_0; replace hx597_1 := cz HB.out hx597_1; replace hx597_2 := cz HB.out hx597_2; have HR597_2 := Aside0.mk hi597_2; have HC597_2 := Aside0.mk hl597_2; clear hi597_2 hl597_2; replace p597 := eq_true p597; replace q597 := eq_true q597))
                      go_roundg k2
                      case measure => have := HJ2.out; have := HK2.out; omega
                      case rel => exact ⟨(wrap64 (x4_2 + 1)), az, H', ⟨by have := HJ2.out; have := HK2.out; omega⟩, ⟨rz HO_3.out⟩, ⟨kz BK589.out⟩, ⟨b1 GE589.out HB.out⟩⟩
                    · exact absurd rfl c19
                  · replace c18 := Bool.eq_false_iff.mpr c18
                    subst c18; replace H : (some false) = some r := (by rw [if_neg (show ¬ (false = true) by decide)] at H; exact H); obtain rfl := Option.some.inj H; have hcz34_0 := fz BK589.out 0 (.int .i64 a0_0); have hcz34_1 := fz BK589.out 1 (.slice A0_1 l0_1.length c0_1); have hfz34_0 := blk_frozen BK589.out 0; have hfz34_1 := blk_frozen BK589.out 1; have p594 : 0 ≤ (x4_2 : Int) := of_decide_eq_true uz; have q594 : x4_2 < (l0_1.length : Int) := of_decide_eq_true uz; obtain ⟨ad594, A594_2, c594_2, e594, hx594_0, hx594_1, hx594_2, hl594_2, hi594_2⟩ := at_T90 HR0_1.out x4_2 p594 q594
                    (try rw [← Nbq15.out] at hx594_0)
                    (try rw [← Nbq15.out] at hx594_1)
                    cases e594
                    replace hx594_0 := cz HB.out hx594_0; replace hx594_1 := cz HB.out hx594_1; replace hx594_2 := cz HB.out hx594_2; have HR594_2 := Aside0.mk hi594_2; have HC594_2 := Aside0.mk hl594_2; clear hi594_2 hl594_2; replace p594 := eq_true p594; replace q594 := eq_true q594; have p595 : 0 ≤ (x4_2 : Int) := of_decide_eq_true uz; have q595 : x4_2 < (l0_1.length : Int) := of_decide_eq_true uz; obtain ⟨ad595, A595_2, c595_2, e595, hx595_0, hx595_1, hx595_2, hl595_2, hi595_2⟩ := at_T90 HR0_1.out x4_2 p595 q595
                    (try rw [← Nbq15.out] at hx595_0)
                    (try rw [← Nbq15.out] at hx595_1)
                    obtain rfl : ad594 = ad595 := (by injection e595); replace hx595_0 := cz HB.out hx595_0; replace hx595_1 := cz HB.out hx595_1; replace hx595_2 := cz HB.out hx595_2; have HR595_2 := Aside0.mk hi595_2; have HC595_2 := Aside0.mk hl595_2; clear hi595_2 hl595_2; replace p595 := eq_true p595; replace q595 := eq_true q595; have ea_ := Option.some.inj (hx594_2.symm.trans hx595_2)
                    injection ea_ with ea_ en_ ec_
                    subst ea_; subst ec_; clear en_
                    go_wp2_with (first | (go_at_call 86; (with_reducible refine (spec_NodeOk.calls k2 ((rd_T90 l0_1 x4_2).f1.f0) _ _ ((rd_T90 l0_1 x4_2).f1.f1) false _ ?side1 ?side2 A17.out).mono ?_); (case side1 => exact sz HR595_2.out HB.out); (case side2 => exact HC595_2.out); rintro e w35 ⟨rfl, hb⟩; have n0_ := Aside0.mk (Kd.R_below (rz HO_3.out) hb); have n1_ := Aside0.mk (blk_below (g := gb589) (o := .cells #[.int .i64 a0_0, .slice (some ad594) l0_1.length c0_1] 49 (0, 0)) (kz BK589.out) hb); have n2_ := Aside0.mk (below_step (b1 GE589.out HB.out) hb); clear HO_3; clear BK589; clear HB; have HO_3 := n0_; have BK589 := n1_; have HB := n2_; clear n0_ n1_ n2_; (try clear hb); (try clear hb2); (try clear hk); (try clear hi)))
                    go_ret; exact ⟨ez, b1 GE589.out HB.out⟩
                · replace c16 := Bool.eq_false_iff.mpr c16
                  subst c16; replace H : (if (false = true) then (spec_BookOk.l0 k2 t590 (wrap64 (x4_2 + 1)) a0_0 l0_1) else (if (rd_T90 l0_1 x4_2).f1.f0 = true then (some false) else (if (((rd_T90 l0_1 x4_2).f1.f1).length : Int) > 0 then (some false) else (spec_BookOk.l0 k2 t590 (wrap64 (x4_2 + 1)) a0_0 l0_1)))) = some r := (by rw [if_neg (show ¬ (false = true) by decide)] at H; exact H)
                  by_cases c36 : (false = true)
                  · exact absurd c36 (by decide)
                  · clear c36
                    replace H : (if (rd_T90 l0_1 x4_2).f1.f0 = true then (some false) else (if (((rd_T90 l0_1 x4_2).f1.f1).length : Int) > 0 then (some false) else (spec_BookOk.l0 k2 t590 (wrap64 (x4_2 + 1)) a0_0 l0_1))) = some r := (by rw [if_neg (show ¬ (false = true) by decide)] at H; exact H); obtain ⟨bq38, hbq38⟩ : ∃ b_ : Bool, b_ = ((rd_T90 l0_1 x4_2).f1.f0) := ⟨_, rfl⟩
                    replace H : (if bq38 = true then (some false) else (if (((rd_T90 l0_1 x4_2).f1.f1).length : Int) > 0 then (some false) else (spec_BookOk.l0 k2 t590 (wrap64 (x4_2 + 1)) a0_0 l0_1))) = some r := by rw [← hbq38] at H; exact H
                    have Nbq38 := Aside0.mk hbq38; clear hbq38
                    by_cases c39 : bq38 = true
                    · subst c39
                      replace H : (some false) = some r := (by rw [if_pos rfl] at H; exact H); obtain rfl := Option.some.inj H; have hcz40_0 := fz BK589.out 0 (.int .i64 a0_0); have hcz40_1 := fz BK589.out 1 (.slice A0_1 l0_1.length c0_1); have hfz40_0 := blk_frozen BK589.out 0; have hfz40_1 := blk_frozen BK589.out 1; have p594 : 0 ≤ (x4_2 : Int) := of_decide_eq_true uz; have q594 : x4_2 < (l0_1.length : Int) := of_decide_eq_true uz; obtain ⟨ad594, A594_2, c594_2, e594, hx594_0, hx594_1, hx594_2, hl594_2, hi594_2⟩ := at_T90 HR0_1.out x4_2 p594 q594
                      (try rw [← Nbq15.out] at hx594_0)
                      (try rw [← Nbq38.out] at hx594_0)
                      (try rw [← Nbq15.out] at hx594_1)
                      (try rw [← Nbq38.out] at hx594_1)
                      cases e594
                      replace hx594_0 := cz HB.out hx594_0; replace hx594_1 := cz HB.out hx594_1; replace hx594_2 := cz HB.out hx594_2; have HR594_2 := Aside0.mk hi594_2; have HC594_2 := Aside0.mk hl594_2; clear hi594_2 hl594_2; replace p594 := eq_true p594; replace q594 := eq_true q594; have p600 : 0 ≤ (x4_2 : Int) := of_decide_eq_true uz; have q600 : x4_2 < (l0_1.length : Int) := of_decide_eq_true uz; obtain ⟨ad600, A600_2, c600_2, e600, hx600_0, hx600_1, hx600_2, hl600_2, hi600_2⟩ := at_T90 HR0_1.out x4_2 p600 q600
                      (try rw [← Nbq15.out] at hx600_0)
                      (try rw [← Nbq38.out] at hx600_0)
                      (try rw [← Nbq15.out] at hx600_1)
                      (try rw [← Nbq38.out] at hx600_1)
                      obtain rfl : ad594 = ad600 := (by injection e600); replace hx600_0 := cz HB.out hx600_0; replace hx600_1 := cz HB.out hx600_1; replace hx600_2 := cz HB.out hx600_2; have HR600_2 := Aside0.mk hi600_2; have HC600_2 := Aside0.mk hl600_2; clear hi600_2 hl600_2; replace p600 := eq_true p600; replace q600 := eq_true q600; have ea_ := Option.some.inj (hx594_2.symm.trans hx600_2)
                      injection ea_ with ea_ en_ ec_
                      subst ea_; subst ec_; clear en_; have p601 : 0 ≤ (x4_2 : Int) := of_decide_eq_true uz; have q601 : x4_2 < (l0_1.length : Int) := of_decide_eq_true uz; obtain ⟨ad601, A601_2, c601_2, e601, hx601_0, hx601_1, hx601_2, hl601_2, hi601_2⟩ := at_T90 HR0_1.out x4_2 p601 q601
                      (try rw [← Nbq15.out] at hx601_0)
                      (try rw [← Nbq38.out] at hx601_0)
                      (try rw [← Nbq15.out] at hx601_1)
                      (try rw [← Nbq38.out] at hx601_1)
                      obtain rfl : ad594 = ad601 := (by injection e601); replace hx601_0 := cz HB.out hx601_0; replace hx601_1 := cz HB.out hx601_1; replace hx601_2 := cz HB.out hx601_2; have HR601_2 := Aside0.mk hi601_2; have HC601_2 := Aside0.mk hl601_2; clear hi601_2 hl601_2; replace p601 := eq_true p601; replace q601 := eq_true q601; have ea_ := Option.some.inj (hx594_2.symm.trans hx601_2)
                      injection ea_ with ea_ en_ ec_
                      subst ea_; subst ec_; clear en_; go_wp2; go_ret; exact ⟨ez, b1 GE589.out HB.out⟩
                    · replace c39 := Bool.eq_false_iff.mpr c39
                      subst c39; replace H : (if (((rd_T90 l0_1 x4_2).f1.f1).length : Int) > 0 then (some false) else (spec_BookOk.l0 k2 t590 (wrap64 (x4_2 + 1)) a0_0 l0_1)) = some r := (by rw [if_neg (show ¬ (false = true) by decide)] at H; exact H)
                      by_cases c41 : (((rd_T90 l0_1 x4_2).f1.f1).length : Int) > 0
                      · rw [if_pos c41] at H
                        have c41b0 : decide (0 < (((rd_T90 l0_1 x4_2).f1.f1).length : Int)) = true := decide_eq_true c41; have c41b1 : decide (0 < ((rd_T90 l0_1 x4_2).f1.f1).length) = true := decide_eq_true (by omega); clear c41; obtain rfl := Option.some.inj H; have hcz42_0 := fz BK589.out 0 (.int .i64 a0_0); have hcz42_1 := fz BK589.out 1 (.slice A0_1 l0_1.length c0_1); have hfz42_0 := blk_frozen BK589.out 0; have hfz42_1 := blk_frozen BK589.out 1; have p594 : 0 ≤ (x4_2 : Int) := of_decide_eq_true uz; have q594 : x4_2 < (l0_1.length : Int) := of_decide_eq_true uz; obtain ⟨ad594, A594_2, c594_2, e594, hx594_0, hx594_1, hx594_2, hl594_2, hi594_2⟩ := at_T90 HR0_1.out x4_2 p594 q594
                        (try rw [← Nbq15.out] at hx594_0)
                        (try rw [← Nbq38.out] at hx594_0)
                        (try rw [← Nbq15.out] at hx594_1)
                        (try rw [← Nbq38.out] at hx594_1)
                        cases e594
                        replace hx594_0 := cz HB.out hx594_0; replace hx594_1 := cz HB.out hx594_1; replace hx594_2 := cz HB.out hx594_2; have HR594_2 := Aside0.mk hi594_2; have HC594_2 := Aside0.mk hl594_2; clear hi594_2 hl594_2; replace p594 := eq_true p594; replace q594 := eq_true q594; have p600 : 0 ≤ (x4_2 : Int) := of_decide_eq_true uz; have q600 : x4_2 < (l0_1.length : Int) := of_decide_eq_true uz; obtain ⟨ad600, A600_2, c600_2, e600, hx600_0, hx600_1, hx600_2, hl600_2, hi600_2⟩ := at_T90 HR0_1.out x4_2 p600 q600
                        (try rw [← Nbq15.out] at hx600_0)
                        (try rw [← Nbq38.out] at hx600_0)
                        (try rw [← Nbq15.out] at hx600_1)
                        (try rw [← Nbq38.out] at hx600_1)
                        obtain rfl : ad594 = ad600 := (by injection e600); replace hx600_0 := cz HB.out hx600_0; replace hx600_1 := cz HB.out hx600_1; replace hx600_2 := cz HB.out hx600_2; have HR600_2 := Aside0.mk hi600_2; have HC600_2 := Aside0.mk hl600_2; clear hi600_2 hl600_2; replace p600 := eq_true p600; replace q600 := eq_true q600; have ea_ := Option.some.inj (hx594_2.symm.trans hx600_2)
                        injection ea_ with ea_ en_ ec_
                        subst ea_; subst ec_; clear en_; have p601 : 0 ≤ (x4_2 : Int) := of_decide_eq_true uz; have q601 : x4_2 < (l0_1.length : Int) := of_decide_eq_true uz; obtain ⟨ad601, A601_2, c601_2, e601, hx601_0, hx601_1, hx601_2, hl601_2, hi601_2⟩ := at_T90 HR0_1.out x4_2 p601 q601
                        (try rw [← Nbq15.out] at hx601_0)
                        (try rw [← Nbq38.out] at hx601_0)
                        (try rw [← Nbq15.out] at hx601_1)
                        (try rw [← Nbq38.out] at hx601_1)
                        obtain rfl : ad594 = ad601 := (by injection e601); replace hx601_0 := cz HB.out hx601_0; replace hx601_1 := cz HB.out hx601_1; replace hx601_2 := cz HB.out hx601_2; have HR601_2 := Aside0.mk hi601_2; have HC601_2 := Aside0.mk hl601_2; clear hi601_2 hl601_2; replace p601 := eq_true p601; replace q601 := eq_true q601; have ea_ := Option.some.inj (hx594_2.symm.trans hx601_2)
                        injection ea_ with ea_ en_ ec_
                        subst ea_; subst ec_; clear en_; have p602 : 0 ≤ (x4_2 : Int) := of_decide_eq_true uz; have q602 : x4_2 < (l0_1.length : Int) := of_decide_eq_true uz; obtain ⟨ad602, A602_2, c602_2, e602, hx602_0, hx602_1, hx602_2, hl602_2, hi602_2⟩ := at_T90 HR0_1.out x4_2 p602 q602
                        (try rw [← Nbq15.out] at hx602_0)
                        (try rw [← Nbq38.out] at hx602_0)
                        (try rw [← Nbq15.out] at hx602_1)
                        (try rw [← Nbq38.out] at hx602_1)
                        obtain rfl : ad594 = ad602 := (by injection e602); replace hx602_0 := cz HB.out hx602_0; replace hx602_1 := cz HB.out hx602_1; replace hx602_2 := cz HB.out hx602_2; have HR602_2 := Aside0.mk hi602_2; have HC602_2 := Aside0.mk hl602_2; clear hi602_2 hl602_2; replace p602 := eq_true p602; replace q602 := eq_true q602; have ea_ := Option.some.inj (hx594_2.symm.trans hx602_2)
                        injection ea_ with ea_ en_ ec_
                        subst ea_; subst ec_; clear en_; go_wp2; go_ret; exact ⟨ez, b1 GE589.out HB.out⟩
                      · rw [if_neg c41] at H
                        have c41b0 : decide (0 < (((rd_T90 l0_1 x4_2).f1.f1).length : Int)) = false := decide_eq_false c41; have c41b1 : decide (0 < ((rd_T90 l0_1 x4_2).f1.f1).length) = false := decide_eq_false (by omega); clear c41; have H' := Aside0.mk H; clear H; have hcz43_0 := fz BK589.out 0 (.int .i64 a0_0); have hcz43_1 := fz BK589.out 1 (.slice A0_1 l0_1.length c0_1); have hfz43_0 := blk_frozen BK589.out 0; have hfz43_1 := blk_frozen BK589.out 1; have p594 : 0 ≤ (x4_2 : Int) := of_decide_eq_true uz; have q594 : x4_2 < (l0_1.length : Int) := of_decide_eq_true uz; obtain ⟨ad594, A594_2, c594_2, e594, hx594_0, hx594_1, hx594_2, hl594_2, hi594_2⟩ := at_T90 HR0_1.out x4_2 p594 q594
                        (try rw [← Nbq15.out] at hx594_0)
                        (try rw [← Nbq38.out] at hx594_0)
                        (try rw [← Nbq15.out] at hx594_1)
                        (try rw [← Nbq38.out] at hx594_1)
                        cases e594
                        replace hx594_0 := cz HB.out hx594_0; replace hx594_1 := cz HB.out hx594_1; replace hx594_2 := cz HB.out hx594_2; have HR594_2 := Aside0.mk hi594_2; have HC594_2 := Aside0.mk hl594_2; clear hi594_2 hl594_2; replace p594 := eq_true p594; replace q594 := eq_true q594; have p600 : 0 ≤ (x4_2 : Int) := of_decide_eq_true uz; have q600 : x4_2 < (l0_1.length : Int) := of_decide_eq_true uz; obtain ⟨ad600, A600_2, c600_2, e600, hx600_0, hx600_1, hx600_2, hl600_2, hi600_2⟩ := at_T90 HR0_1.out x4_2 p600 q600
                        (try rw [← Nbq15.out] at hx600_0)
                        (try rw [← Nbq38.out] at hx600_0)
                        (try rw [← Nbq15.out] at hx600_1)
                        (try rw [← Nbq38.out] at hx600_1)
                        obtain rfl : ad594 = ad600 := (by injection e600); replace hx600_0 := cz HB.out hx600_0; replace hx600_1 := cz HB.out hx600_1; replace hx600_2 := cz HB.out hx600_2; have HR600_2 := Aside0.mk hi600_2; have HC600_2 := Aside0.mk hl600_2; clear hi600_2 hl600_2; replace p600 := eq_true p600; replace q600 := eq_true q600; have ea_ := Option.some.inj (hx594_2.symm.trans hx600_2)
                        injection ea_ with ea_ en_ ec_
                        subst ea_; subst ec_; clear en_; have p601 : 0 ≤ (x4_2 : Int) := of_decide_eq_true uz; have q601 : x4_2 < (l0_1.length : Int) := of_decide_eq_true uz; obtain ⟨ad601, A601_2, c601_2, e601, hx601_0, hx601_1, hx601_2, hl601_2, hi601_2⟩ := at_T90 HR0_1.out x4_2 p601 q601
                        (try rw [← Nbq15.out] at hx601_0)
                        (try rw [← Nbq38.out] at hx601_0)
                        (try rw [← Nbq15.out] at hx601_1)
                        (try rw [← Nbq38.out] at hx601_1)
                        obtain rfl : ad594 = ad601 := (by injection e601); replace hx601_0 := cz HB.out hx601_0; replace hx601_1 := cz HB.out hx601_1; replace hx601_2 := cz HB.out hx601_2; have HR601_2 := Aside0.mk hi601_2; have HC601_2 := Aside0.mk hl601_2; clear hi601_2 hl601_2; replace p601 := eq_true p601; replace q601 := eq_true q601; have ea_ := Option.some.inj (hx594_2.symm.trans hx601_2)
                        injection ea_ with ea_ en_ ec_
                        subst ea_; subst ec_; clear en_; have p602 : 0 ≤ (x4_2 : Int) := of_decide_eq_true uz; have q602 : x4_2 < (l0_1.length : Int) := of_decide_eq_true uz; obtain ⟨ad602, A602_2, c602_2, e602, hx602_0, hx602_1, hx602_2, hl602_2, hi602_2⟩ := at_T90 HR0_1.out x4_2 p602 q602
                        (try rw [← Nbq15.out] at hx602_0)
                        (try rw [← Nbq38.out] at hx602_0)
                        (try rw [← Nbq15.out] at hx602_1)
                        (try rw [← Nbq38.out] at hx602_1)
                        obtain rfl : ad594 = ad602 := (by injection e602); replace hx602_0 := cz HB.out hx602_0; replace hx602_1 := cz HB.out hx602_1; replace hx602_2 := cz HB.out hx602_2; have HR602_2 := Aside0.mk hi602_2; have HC602_2 := Aside0.mk hl602_2; clear hi602_2 hl602_2; replace p602 := eq_true p602; replace q602 := eq_true q602; have ea_ := Option.some.inj (hx594_2.symm.trans hx602_2)
                        injection ea_ with ea_ en_ ec_
                        subst ea_; subst ec_; clear en_; go_wp2; go_roundg k2
                        case measure => have := HJ2.out; have := HK2.out; omega
                        case rel => exact ⟨(wrap64 (x4_2 + 1)), az, H', ⟨by have := HJ2.out; have := HK2.out; omega⟩, ⟨rz HO_3.out⟩, ⟨kz BK589.out⟩, ⟨b1 GE589.out HB.out⟩⟩
              · rw [if_neg c14] at H
                exact absurd H (by simp)
            · rw [if_neg c13] at H
              have c13b0 : decide (x4_2 < (l0_1.length : Int)) = false := decide_eq_false c13; clear c13; have H' := Aside0.mk H; clear H; have hcz44_0 := fz BK589.out 0 (.int .i64 a0_0); have hcz44_1 := fz BK589.out 1 (.slice A0_1 l0_1.length c0_1); have hfz44_0 := blk_frozen BK589.out 0; have hfz44_1 := blk_frozen BK589.out 1; go_wp2
              go_loopg [5, 6] k2 (fun kq v5 v6 w' => ∃ (x5_3 : Int) (x6_3 : Int), v5 = .int .i64 x5_3 ∧ v6 = .int .i64 x6_3 ∧ Aside0 (spec_BookOk.l1 kq t590 x5_3 x6_3 a0_0 l0_1 = some r) ∧ Aside0 (kq ≤ k2) ∧ Aside0 (Kd.R (Kd.int .i64) 3 w' w.heap.size (fun _ => True) v591 t590) ∧ Aside0 (w'.heap[gb589]? = some (.cells #[.int .i64 a0_0, (.slice A0_1 l0_1.length c0_1)] 49 (0, 0))) ∧ Aside0 (Below w.heap.size w w'))
              case atStart => exact ⟨(0), (0), az, az, H', ⟨Nat.le_refl _⟩, ⟨rz HO_3.out⟩, ⟨kz BK589.out⟩, ⟨b1 GE589.out HB.out⟩⟩
              case round =>
                clear H'; (try clear c1); (try clear q1); (try clear c2); (try clear p2); (try clear c3); (try clear q3); (try clear c4); (try clear c5); (try clear p5); (try clear q5); (try clear hx5); (try clear c6); (try clear p6); (try clear q6); (try clear hx6); (try clear c13); (try clear c13b0); (try clear c14); (try clear q15); (try clear c16); (try clear c18); (try clear c19); (try clear c23); (try clear c23b0); (try clear c27); (try clear c27b0); (try clear c27b1); (try clear c36); (try clear q38); (try clear c39); (try clear c41); (try clear c41b0); (try clear c41b1); (try clear hcz20_0); (try clear hcz20_1); (try clear hcz22_0); (try clear hcz22_1); (try clear hcz24_0); (try clear hcz24_1); (try clear hcz26_0); (try clear hcz26_1); (try clear hcz28_0); (try clear hcz28_1); (try clear hcz30_0); (try clear hcz30_1); (try clear hcz31_0); (try clear hcz31_1); (try clear hcz33_0); (try clear hcz33_1); (try clear hcz34_0); (try clear hcz34_1); (try clear hcz37_0); (try clear hcz37_1); (try clear hcz40_0); (try clear hcz40_1); (try clear hcz42_0); (try clear hcz42_1); (try clear hcz43_0); (try clear hcz43_1); (try clear hcz44_0); (try clear hcz44_1); (try clear hfz20_0); (try clear hfz20_1); (try clear hfz22_0); (try clear hfz22_1); (try clear hfz24_0); (try clear hfz24_1); (try clear hfz26_0); (try clear hfz26_1); (try clear hfz28_0); (try clear hfz28_1); (try clear hfz30_0); (try clear hfz30_1); (try clear hfz31_0); (try clear hfz31_1); (try clear hfz33_0); (try clear hfz33_1); (try clear hfz34_0); (try clear hfz34_1); (try clear hfz37_0); (try clear hfz37_1); (try clear hfz40_0); (try clear hfz40_1); (try clear hfz42_0); (try clear hfz42_1); (try clear hfz43_0); (try clear hfz43_1); (try clear hfz44_0); (try clear hfz44_1); (try clear hx594_0); (try clear hx594_1); (try clear hx594_2); (try clear hx595_0); (try clear hx595_1); (try clear hx595_2); (try clear hx597_0); (try clear hx597_1); (try clear hx597_2); (try clear hx598_0); (try clear hx598_1); (try clear hx598_2); (try clear hx599_0); (try clear hx599_1); (try clear hx599_2); (try clear hx600_0); (try clear hx600_1); (try clear hx600_2); (try clear hx601_0); (try clear hx601_1); (try clear hx601_2); (try clear hx602_0); (try clear hx602_1); (try clear hx602_2); (try clear p594); (try clear p595); (try clear p597); (try clear p598); (try clear p599); (try clear p600); (try clear p601); (try clear p602); (try clear q594); (try clear q595); (try clear q597); (try clear q598); (try clear q599); (try clear q600); (try clear q601); (try clear q602); obtain ⟨x5_3, x6_3, rfl, rfl, HA, HK3, HO_3, BK589, HB⟩ := hrel
                cases gk with
                | zero => exact absurd HA.out (by simp [spec_BookOk.l1])
                | succ k3 =>
                  have H := HA.out; clear HA
                  simp only [spec_BookOk.l1] at H
                  by_cases c45 : x6_3 < (t590.length : Int)
                  · rw [if_pos c45] at H
                    have c45b0 : decide (x6_3 < (t590.length : Int)) = true := decide_eq_true c45; clear c45
                    by_cases c46 : 0 ≤ x6_3
                    · rw [if_pos c46] at H
                      have c46b0 : decide (0 ≤ x6_3) = true := decide_eq_true c46; clear c46
                      by_cases c47 : 0 ≤ (rd t590 x6_3)
                      · rw [if_pos c47] at H
                        have c47b0 : decide (0 ≤ (rd t590 x6_3)) = true := decide_eq_true c47; clear c47
                        by_cases c48 : (rd t590 x6_3) < (l0_1.length : Int)
                        · rw [if_pos c48] at H
                          have c48b0 : decide ((rd t590 x6_3) < (l0_1.length : Int)) = true := decide_eq_true c48; clear c48; have H' := Aside0.mk H; clear H; obtain ⟨Ao49, co49, eo49⟩ := Kd.R_slice HO_3.out; subst eo49
                          try go_wp2
                          have n0_ := Aside0.mk (Kd.R_drew HO_3.out); have n1_ := Aside0.mk (blk_drew BK589.out); have n2_ := Aside0.mk (below_drew1 HB.out); clear HO_3; clear BK589; clear HB; have HO_3 := n0_; have BK589 := n1_; have HB := n2_; clear n0_ n1_ n2_; have p603 : 0 ≤ (x6_3 : Int) := of_decide_eq_true uz; have q603 : x6_3 < (t590.length : Int) := of_decide_eq_true uz; obtain ⟨ad603, e603, hx603_0⟩ := Kd.at_int (Kd.R_reads' HO_3.out).2.2 x6_3 p603 q603
                          cases e603
                          replace p603 := eq_true p603; replace q603 := eq_true q603; have p604 : 0 ≤ ((rd t590 x6_3) : Int) := of_decide_eq_true uz; have q604 : (rd t590 x6_3) < (l0_1.length : Int) := of_decide_eq_true uz; obtain ⟨ad604, A604_2, c604_2, e604, hx604_0, hx604_1, hx604_2, hl604_2, hi604_2⟩ := at_T90 HR0_1.out (rd t590 x6_3) p604 q604; have hw604_2 := hx604_2; have hw604_1 := hx604_1; have hw604_0 := hx604_0
                          cases e604
                          replace hx604_0 := cz HB.out hx604_0; replace hx604_1 := cz HB.out hx604_1; replace hx604_2 := cz HB.out hx604_2; have HR604_2 := Aside0.mk hi604_2; have HC604_2 := Aside0.mk hl604_2; clear hi604_2 hl604_2; replace p604 := eq_true p604; replace q604 := eq_true q604
                          refine start_ (n := 11) (S := fun w' => w'.cell? ⟨gb589, 0, none⟩ = some (.int .i64 a0_0) ∧ w'.cell? ⟨gb589, 1, none⟩ = some (.slice (some ad604) l0_1.length c0_1) ∧ w'.cell? (ad603.add (x6_3).toNat) = some (.int .i64 (rd t590 x6_3)) ∧ w'.cell? (ad604.add (((rd t590 x6_3)).toNat * 3)) = some (.bool ((rd_T90 l0_1 (rd t590 x6_3)).f0)) ∧ w'.cell? ⟨(ad604.add (((rd t590 x6_3)).toNat * 3)).block, (ad604.add (((rd t590 x6_3)).toNat * 3)).off + 1, none⟩ = some (.bool ((rd_T90 l0_1 (rd t590 x6_3)).f1.f0)) ∧ w'.cell? ⟨(ad604.add (((rd t590 x6_3)).toNat * 3)).block, (ad604.add (((rd t590 x6_3)).toNat * 3)).off + 2, none⟩ = some (.slice A604_2 ((rd_T90 l0_1 (rd t590 x6_3)).f1.f1).length c604_2)) (ds := []) #[false, false, false, false, false, false, false, false, false, false, false] (by kernel_rfl) rfl rfl ⟨(blk_cell BK589.out 0).trans rfl, (blk_cell BK589.out 1).trans rfl, hx603_0, (cz HB.out hw604_0 :), (cz HB.out hw604_1 :), (cz HB.out hw604_2 :)⟩ (fun hHeld => ?_); refine with_tabW spec_BookOk.tab13 spec_BookOk.bits13 (fun HT_ HW_ => ?_)
                          generalize wr.drew = w50 at HO_3 BK589 HB HR604_2 hx603_0 hx604_0 hx604_1 hx604_2 hHeld ⊢
                          refine pure_ (i := 0) (N := some 79) (v := ?_) (a' := ?_) #[true, false, false, false, false, false, false, false, false, false, false] rfl rfl (any_of HT_.out (by kernel_rfl)) (fun _ _ _ h => h) (Or.inl ⟨by rfl, ?_⟩) ?_ ?_; rotate_left
                          · intro w'
                            go_simp
                            with_reducible rfl
                          rotate_left
                          · exact pz
                          refine pure_ (i := 2) (N := some 81) (v := ?_) (a' := ?_) #[true, false, true, false, false, false, false, false, false, false, false] rfl rfl (any_of HT_.out (by kernel_rfl)) (fun _ _ _ h => h) (Or.inl ⟨by rfl, ?_⟩) ?_ ?_; rotate_left
                          · intro w'
                            go_simp
                            with_reducible rfl
                          rotate_left
                          · exact pz
                          refine pure_ (i := 3) (N := some 82) (v := ?_) (a' := ?_) #[true, false, true, true, false, false, false, false, false, false, false] rfl rfl (any_of HT_.out (by kernel_rfl)) (fun _ _ _ h => h) (Or.inl ⟨by rfl, ?_⟩) ?_ ?_; rotate_left
                          · intro w'
                            go_simp
                            with_reducible rfl
                          rotate_left
                          · exact pz
                          refine pure_ (i := 4) (N := some 83) (v := ?_) (a' := ?_) #[true, false, true, true, true, false, false, false, false, false, false] rfl rfl (any_of HT_.out (by kernel_rfl)) (fun _ _ _ h => h) (Or.inl ⟨by rfl, ?_⟩) ?_ ?_; rotate_left
                          · intro w'
                            go_simp
                            with_reducible rfl
                          rotate_left
                          · exact pz
                          refine take_ (i := 1) (N := some 80) (v := ?_) (a' := ?_) #[true, true, true, true, true, false, false, false, false, false, false] rfl rfl (take_ofW HT_.out HW_.out (by kernel_rfl)) (fun _ _ _ h => h) (Or.inl ⟨by rfl, ?_⟩) hHeld ?_ ?_; rotate_left
                          · rintro w' ⟨s0, s1, s2, s3, s4, s5⟩
                            go_simp
                            with_reducible rfl
                          rotate_left
                          · exact pz
                          refine take_ (i := 5) (N := some 84) (v := ?_) (a' := ?_) #[true, true, true, true, true, true, false, false, false, false, false] rfl rfl (take_ofW HT_.out HW_.out (by kernel_rfl)) (fun _ _ _ h => h) (Or.inl ⟨by rfl, ?_⟩) hHeld ?_ ?_; rotate_left
                          · rintro w' ⟨s0, s1, s2, s3, s4, s5⟩
                            go_simp
                            with_reducible rfl
                          rotate_left
                          · exact pz
                          refine pure_ (i := 6) (N := some 85) (v := ?_) (a' := ?_) #[true, true, true, true, true, true, true, false, false, false, false] rfl rfl (any_of HT_.out (by kernel_rfl)) (fun _ _ _ h => h) (Or.inl ⟨by rfl, ?_⟩) ?_ ?_; rotate_left
                          · intro w'
                            go_simp
                            with_reducible rfl
                          rotate_left
                          · exact pz
                          refine pure_ (i := 7) (N := some 86) (v := ?_) (a' := ?_) #[true, true, true, true, true, true, true, true, false, false, false] rfl rfl (any_of HT_.out (by kernel_rfl)) (fun _ _ _ h => h) (Or.inl ⟨by rfl, ?_⟩) ?_ ?_; rotate_left
                          · intro w'
                            go_simp
                            with_reducible rfl
                          rotate_left
                          · exact pz
                          refine take_ (i := 8) (N := some 87) (v := ?_) (a' := ?_) #[true, true, true, true, true, true, true, true, true, false, false] rfl rfl (take_ofW HT_.out HW_.out (by kernel_rfl)) (fun _ _ _ h => h) (Or.inl ⟨by rfl, ?_⟩) hHeld ?_ ?_; rotate_left
                          · rintro w' ⟨s0, s1, s2, s3, s4, s5⟩
                            go_simp
                            with_reducible rfl
                          rotate_left
                          · exact pz
                          refine one_ (i := 9) (N := some 7) #[true, true, true, true, true, true, true, true, true, true, false] rfl rfl (one_of HT_.out (by kernel_rfl)) (by decide) (fun K hK => ?_)
                          refine box_step ?hg (N := 7) ?hd (cs := #[.bool false, .slice none 0 0]) (t := 54) ?hr ?_; (case hd => rfl); (case hg => rfl); (case hr => first | (go_simp; done) | (go_simp; rfl))
                          intro gb605 hg w51 hbox hb
                          have HS2_ := (hb.cell (World.block_lt_of_cell? _ _ (hHeld.2.2.1))).trans (hHeld.2.2.1); have n0_ := Aside0.mk (Kd.R_below (rz HO_3.out) hb); have n1_ := Aside0.mk (blk_below (g := gb589) (o := .cells #[.int .i64 a0_0, .slice (some ad604) l0_1.length c0_1] 49 (0, 0)) (kz BK589.out) hb); have n2_ := Aside0.mk (below_step (b1 GE589.out HB.out) hb); have n3_ := Aside0.mk (hbox); have n4_ := Aside0.mk ((by rw [hg]; exact (below_size (b1 GE589.out HB.out)) : w.heap.size ≤ gb605)); have n5_ := Aside0.mk ((by rw [hg]; exact (below_size (b1 GE589.out HB.out)) : w.heap.size ≤ gb605)); have n6_ := Aside0.mk ((by rw [hg]; exact Nat.ne_of_lt (blk_lt (g := gb589) (o := .cells #[.int .i64 a0_0, .slice (some ad604) l0_1.length c0_1] 49 (0, 0)) (kz BK589.out)) : gb589 ≠ gb605)); have n7_ := Aside0.mk ((by rw [hg]; exact Nat.ne_of_gt (blk_lt (g := gb589) (o := .cells #[.int .i64 a0_0, .slice (some ad604) l0_1.length c0_1] 49 (0, 0)) (kz BK589.out)) : gb605 ≠ gb589)); clear HO_3; clear BK589; clear HB; have HO_3 := n0_; have BK589 := n1_; have HB := n2_; have BK605 := n3_; have GW605 := n4_; have GE605 := n5_; have NB589_605 := n6_; have NB605_589 := n7_; clear n0_ n1_ n2_ n3_ n4_ n5_ n6_ n7_; clear hb hbox hg; refine hK.out _ _ ⟨(blk_cell BK589.out 0).trans rfl, (blk_cell BK589.out 1).trans rfl, HS2_, (cz HB.out hw604_0 :), (cz HB.out hw604_1 :), (cz HB.out hw604_2 :)⟩ (fun hHeld => ?_); clear hK K; refine norm_ (a' := ?_) ?_ ?_; rotate_left
                          · show Act.put _ (some 7) _ = _
                            simp only [Act.put, List.setIfInBounds_toArray, List.set_cons_zero, List.set_cons_succ, i64_w, i32_w]
                            rfl
                          refine one_ (i := 10) (N := none) #[true, true, true, true, true, true, true, true, true, true, true] rfl rfl (one_of HT_.out (by kernel_rfl)) (by decide) (fun K hK => ?_); have hs52 : w51.cell? ⟨gb605, 0, none⟩ = some (.bool false) := (blk_cell BK605.out 0).trans rfl; have hfs52 := blk_frozen BK605.out 0; have hns52_0 := NB589_605.out; have hms52_0 := NB605_589.out; have hs53 : w51.cell? ⟨gb605, 1, none⟩ = some (.slice none 0 0) := (blk_cell BK605.out 1).trans rfl; have hfs53 := blk_frozen BK605.out 1; have hns53_0 := NB589_605.out; have hms53_0 := NB605_589.out; refine skip_ (w1 := ?_) (by rfl) rfl ?_ ?_; rotate_left
                          · go_simp
                            rfl
                          refine hK.out _ _ ⟨((cell_far (p := ⟨gb605, _, none⟩) NB589_605.out _).trans (((cell_far (p := ⟨gb605, _, none⟩) NB589_605.out _).trans (hHeld.1)))), ((cell_far (p := ⟨gb605, _, none⟩) NB589_605.out _).trans (((cell_far (p := ⟨gb605, _, none⟩) NB589_605.out _).trans (hHeld.2.1)))), ((cell_far (p := ⟨gb605, _, none⟩) (by first | exact Kd.own_blk (Kd.R_ne HO_3.out BK605.out (by decide)) | (rw [add_block]; exact Kd.own_blk (Kd.R_ne HO_3.out BK605.out (by decide))) | (show (Addr.add _ _).block ≠ _; rw [add_block]; exact Kd.own_blk (Kd.R_ne HO_3.out BK605.out (by decide))) | (dsimp only; exact Kd.own_blk (Kd.R_ne HO_3.out BK605.out (by decide)))) _).trans (((cell_far (p := ⟨gb605, _, none⟩) (by first | exact Kd.own_blk (Kd.R_ne HO_3.out BK605.out (by decide)) | (rw [add_block]; exact Kd.own_blk (Kd.R_ne HO_3.out BK605.out (by decide))) | (show (Addr.add _ _).block ≠ _; rw [add_block]; exact Kd.own_blk (Kd.R_ne HO_3.out BK605.out (by decide))) | (dsimp only; exact Kd.own_blk (Kd.R_ne HO_3.out BK605.out (by decide)))) _).trans (hHeld.2.2.1)))), ((cell_far (p := ⟨gb605, _, none⟩) (by first | exact Nat.ne_of_lt (Nat.lt_of_lt_of_le (by have := World.block_lt_of_cell? _ _ hw604_0; first | rwa [add_block] at this | exact this) GW605.out) | (rw [add_block]; exact Nat.ne_of_lt (Nat.lt_of_lt_of_le (by have := World.block_lt_of_cell? _ _ hw604_0; first | rwa [add_block] at this | exact this) GW605.out)) | (show (Addr.add _ _).block ≠ _; rw [add_block]; exact Nat.ne_of_lt (Nat.lt_of_lt_of_le (by have := World.block_lt_of_cell? _ _ hw604_0; first | rwa [add_block] at this | exact this) GW605.out)) | (dsimp only; exact Nat.ne_of_lt (Nat.lt_of_lt_of_le (by have := World.block_lt_of_cell? _ _ hw604_0; first | rwa [add_block] at this | exact this) GW605.out))) _).trans (((cell_far (p := ⟨gb605, _, none⟩) (by first | exact Nat.ne_of_lt (Nat.lt_of_lt_of_le (by have := World.block_lt_of_cell? _ _ hw604_0; first | rwa [add_block] at this | exact this) GW605.out) | (rw [add_block]; exact Nat.ne_of_lt (Nat.lt_of_lt_of_le (by have := World.block_lt_of_cell? _ _ hw604_0; first | rwa [add_block] at this | exact this) GW605.out)) | (show (Addr.add _ _).block ≠ _; rw [add_block]; exact Nat.ne_of_lt (Nat.lt_of_lt_of_le (by have := World.block_lt_of_cell? _ _ hw604_0; first | rwa [add_block] at this | exact this) GW605.out)) | (dsimp only; exact Nat.ne_of_lt (Nat.lt_of_lt_of_le (by have := World.block_lt_of_cell? _ _ hw604_0; first | rwa [add_block] at this | exact this) GW605.out))) _).trans (hHeld.2.2.2.1)))), ((cell_far (p := ⟨gb605, _, none⟩) (by first | exact Nat.ne_of_lt (Nat.lt_of_lt_of_le (by have := World.block_lt_of_cell? _ _ hw604_1; first | rwa [add_block] at this | exact this) GW605.out) | (rw [add_block]; exact Nat.ne_of_lt (Nat.lt_of_lt_of_le (by have := World.block_lt_of_cell? _ _ hw604_1; first | rwa [add_block] at this | exact this) GW605.out)) | (show (Addr.add _ _).block ≠ _; rw [add_block]; exact Nat.ne_of_lt (Nat.lt_of_lt_of_le (by have := World.block_lt_of_cell? _ _ hw604_1; first | rwa [add_block] at this | exact this) GW605.out)) | (dsimp only; exact Nat.ne_of_lt (Nat.lt_of_lt_of_le (by have := World.block_lt_of_cell? _ _ hw604_1; first | rwa [add_block] at this | exact this) GW605.out))) _).trans (((cell_far (p := ⟨gb605, _, none⟩) (by first | exact Nat.ne_of_lt (Nat.lt_of_lt_of_le (by have := World.block_lt_of_cell? _ _ hw604_1; first | rwa [add_block] at this | exact this) GW605.out) | (rw [add_block]; exact Nat.ne_of_lt (Nat.lt_of_lt_of_le (by have := World.block_lt_of_cell? _ _ hw604_1; first | rwa [add_block] at this | exact this) GW605.out)) | (show (Addr.add _ _).block ≠ _; rw [add_block]; exact Nat.ne_of_lt (Nat.lt_of_lt_of_le (by have := World.block_lt_of_cell? _ _ hw604_1; first | rwa [add_block] at this | exact this) GW605.out)) | (dsimp only; exact Nat.ne_of_lt (Nat.lt_of_lt_of_le (by have := World.block_lt_of_cell? _ _ hw604_1; first | rwa [add_block] at this | exact this) GW605.out))) _).trans (hHeld.2.2.2.2.1)))), ((cell_far (p := ⟨gb605, _, none⟩) (by first | exact Nat.ne_of_lt (Nat.lt_of_lt_of_le (by have := World.block_lt_of_cell? _ _ hw604_2; first | rwa [add_block] at this | exact this) GW605.out) | (rw [add_block]; exact Nat.ne_of_lt (Nat.lt_of_lt_of_le (by have := World.block_lt_of_cell? _ _ hw604_2; first | rwa [add_block] at this | exact this) GW605.out)) | (show (Addr.add _ _).block ≠ _; rw [add_block]; exact Nat.ne_of_lt (Nat.lt_of_lt_of_le (by have := World.block_lt_of_cell? _ _ hw604_2; first | rwa [add_block] at this | exact this) GW605.out)) | (dsimp only; exact Nat.ne_of_lt (Nat.lt_of_lt_of_le (by have := World.block_lt_of_cell? _ _ hw604_2; first | rwa [add_block] at this | exact this) GW605.out))) _).trans (((cell_far (p := ⟨gb605, _, none⟩) (by first | exact Nat.ne_of_lt (Nat.lt_of_lt_of_le (by have := World.block_lt_of_cell? _ _ hw604_2; first | rwa [add_block] at this | exact this) GW605.out) | (rw [add_block]; exact Nat.ne_of_lt (Nat.lt_of_lt_of_le (by have := World.block_lt_of_cell? _ _ hw604_2; first | rwa [add_block] at this | exact this) GW605.out)) | (show (Addr.add _ _).block ≠ _; rw [add_block]; exact Nat.ne_of_lt (Nat.lt_of_lt_of_le (by have := World.block_lt_of_cell? _ _ hw604_2; first | rwa [add_block] at this | exact this) GW605.out)) | (dsimp only; exact Nat.ne_of_lt (Nat.lt_of_lt_of_le (by have := World.block_lt_of_cell? _ _ hw604_2; first | rwa [add_block] at this | exact this) GW605.out))) _).trans (hHeld.2.2.2.2.2))))⟩ (fun hHeld => ?_); clear hK K; refine done_ (done_of HT_.out (by kernel_rfl)) ?_
                          try go_wp2
                          go_loopg [5, 8] k3 (fun kq v5 v8 w' => ∃ (x5_4 : Int) (x8_4 : Int), v5 = .int .i64 x5_4 ∧ v8 = .int .i64 x8_4 ∧ Aside0 (spec_BookOk.l2 kq t590 x5_4 x6_3 x8_4 a0_0 l0_1 ((rd_T90 l0_1 (rd t590 x6_3)).f1.f0) ((rd_T90 l0_1 (rd t590 x6_3)).f1.f1) = some r) ∧ Aside0 (kq ≤ k3) ∧ Aside0 (Kd.R (Kd.int .i64) 3 w' w.heap.size (fun _ => True) (.slice (some ad603) t590.length co49) t590) ∧ Aside0 (w'.heap[gb589]? = some (.cells #[.int .i64 a0_0, (.slice (some ad604) l0_1.length c0_1)] 49 (0, 0))) ∧ Aside0 (w'.heap[gb605]? = some (.cells #[.bool ((rd_T90 l0_1 (rd t590 x6_3)).f1.f0), (.slice A604_2 ((rd_T90 l0_1 (rd t590 x6_3)).f1.f1).length c604_2)] 54 (0, 0))) ∧ Aside0 (Below w.heap.size w w'))
                          case atStart => exact ⟨(x5_3), (0), az, az, H', ⟨Nat.le_refl _⟩, ⟨by (with_reducible repeat (first | apply Kd.R_alloc | apply Kd.R_drewN | apply Kd.R_drew)); exact Kd.R_mono (Kd.R_far (p := ⟨gb605, 1, none⟩) (Kd.R_far (p := ⟨gb605, 0, none⟩) (Kd.R_types HO_3.out BK605.out (by decide)) (fun _ hk => hk.2) (.bool ((rd_T90 l0_1 (rd t590 x6_3)).f1.f0))) (fun _ hk => hk.2) (.slice A604_2 ((rd_T90 l0_1 (rd t590 x6_3)).f1.f1).length c604_2)) (fun _ hk => trivial)⟩, ⟨by (with_reducible repeat (first | refine blk_drewN ?_ _ | refine blk_drew ?_ | refine blk_alloc ?_ _)); refine blk_far ?_ NB589_605.out _; (with_reducible repeat (first | refine blk_drewN ?_ _ | refine blk_drew ?_ | refine blk_alloc ?_ _)); refine blk_far ?_ NB589_605.out _; (with_reducible repeat (first | refine blk_drewN ?_ _ | refine blk_drew ?_ | refine blk_alloc ?_ _)); exact BK589.out⟩, ⟨by (with_reducible repeat (first | refine blk_drewN ?_ _ | refine blk_drew ?_ | refine blk_alloc ?_ _)); refine blk_put (cs := #[.bool ((rd_T90 l0_1 (rd t590 x6_3)).f1.f0), .slice none 0 0]) ?_ 1 _ rfl; (with_reducible repeat (first | refine blk_drewN ?_ _ | refine blk_drew ?_ | refine blk_alloc ?_ _)); refine blk_put (cs := #[.bool false, .slice none 0 0]) ?_ 0 _ rfl; (with_reducible repeat (first | refine blk_drewN ?_ _ | refine blk_drew ?_ | refine blk_alloc ?_ _)); exact BK605.out⟩, ⟨b2 GE589.out GE605.out HB.out⟩⟩
                          case round =>
                            clear H'; (try clear c1); (try clear q1); (try clear c2); (try clear p2); (try clear c3); (try clear q3); (try clear c4); (try clear c5); (try clear p5); (try clear q5); (try clear hx5); (try clear c6); (try clear p6); (try clear q6); (try clear hx6); (try clear c13); (try clear c13b0); (try clear c14); (try clear q15); (try clear c16); (try clear c18); (try clear c19); (try clear c23); (try clear c23b0); (try clear c27); (try clear c27b0); (try clear c27b1); (try clear c36); (try clear q38); (try clear c39); (try clear c41); (try clear c41b0); (try clear c41b1); (try clear c45); (try clear c45b0); (try clear c46); (try clear c46b0); (try clear c47); (try clear c47b0); (try clear c48); (try clear c48b0); (try clear hcz20_0); (try clear hcz20_1); (try clear hcz22_0); (try clear hcz22_1); (try clear hcz24_0); (try clear hcz24_1); (try clear hcz26_0); (try clear hcz26_1); (try clear hcz28_0); (try clear hcz28_1); (try clear hcz30_0); (try clear hcz30_1); (try clear hcz31_0); (try clear hcz31_1); (try clear hcz33_0); (try clear hcz33_1); (try clear hcz34_0); (try clear hcz34_1); (try clear hcz37_0); (try clear hcz37_1); (try clear hcz40_0); (try clear hcz40_1); (try clear hcz42_0); (try clear hcz42_1); (try clear hcz43_0); (try clear hcz43_1); (try clear hcz44_0); (try clear hcz44_1); (try clear hfz20_0); (try clear hfz20_1); (try clear hfz22_0); (try clear hfz22_1); (try clear hfz24_0); (try clear hfz24_1); (try clear hfz26_0); (try clear hfz26_1); (try clear hfz28_0); (try clear hfz28_1); (try clear hfz30_0); (try clear hfz30_1); (try clear hfz31_0); (try clear hfz31_1); (try clear hfz33_0); (try clear hfz33_1); (try clear hfz34_0); (try clear hfz34_1); (try clear hfz37_0); (try clear hfz37_1); (try clear hfz40_0); (try clear hfz40_1); (try clear hfz42_0); (try clear hfz42_1); (try clear hfz43_0); (try clear hfz43_1); (try clear hfz44_0); (try clear hfz44_1); (try clear hx594_0); (try clear hx594_1); (try clear hx594_2); (try clear hx595_0); (try clear hx595_1); (try clear hx595_2); (try clear hx597_0); (try clear hx597_1); (try clear hx597_2); (try clear hx598_0); (try clear hx598_1); (try clear hx598_2); (try clear hx599_0); (try clear hx599_1); (try clear hx599_2); (try clear hx600_0); (try clear hx600_1); (try clear hx600_2); (try clear hx601_0); (try clear hx601_1); (try clear hx601_2); (try clear hx602_0); (try clear hx602_1); (try clear hx602_2); (try clear hx603_0); (try clear hx604_0); (try clear hx604_1); (try clear hx604_2); (try clear p2); (try clear p5); (try clear p594); (try clear p595); (try clear p597); (try clear p598); (try clear p599); (try clear p6); (try clear p600); (try clear p601); (try clear p602); (try clear p603); (try clear p604); (try clear q1); (try clear q15); (try clear q3); (try clear q38); (try clear q5); (try clear q594); (try clear q595); (try clear q597); (try clear q598); (try clear q599); (try clear q6); (try clear q600); (try clear q601); (try clear q602); (try clear q603); (try clear q604); obtain ⟨x5_4, x8_4, rfl, rfl, HA, HK4, HO_3, BK589, BK605, HB⟩ := hrel
                            cases gk with
                            | zero => exact absurd HA.out (by simp [spec_BookOk.l2])
                            | succ k4 =>
                              have H := HA.out; clear HA
                              simp only [spec_BookOk.l2] at H
                              have HC54 := Aside0.mk H; clear H
                              go_upto_region 15 with (fail)
                              go_cut [97] (fun v97 wc => ∃ (kq : Nat) (x97_53 : Bool), v97 = .bool x97_53 ∧ Aside0 (spec_BookOk.j4 kq t590 x5_4 x6_3 x8_4 x97_53 a0_0 l0_1 ((rd_T90 l0_1 (rd t590 x6_3)).f1.f0) ((rd_T90 l0_1 (rd t590 x6_3)).f1.f1) = some r) ∧ Aside0 (kq ≤ k4) ∧ Aside0 (Kd.R (Kd.int .i64) 3 wc w.heap.size (fun _ => True) (.slice (some ad603) t590.length co49) t590) ∧ Aside0 (wc.heap[gb589]? = some (.cells #[.int .i64 a0_0, (.slice (some ad604) l0_1.length c0_1)] 49 (0, 0))) ∧ Aside0 (wc.heap[gb605]? = some (.cells #[.bool ((rd_T90 l0_1 (rd t590 x6_3)).f1.f0), (.slice A604_2 ((rd_T90 l0_1 (rd t590 x6_3)).f1.f1).length c604_2)] 54 (0, 0))) ∧ Aside0 (Below w.heap.size w wc))
                              case first =>
                                have H := HC54.out; clear HC54
                                by_cases c55 : x8_4 < (((rd_T90 l0_1 (rd t590 x6_3)).f1.f1).length : Int)
                                · rw [if_pos c55] at H
                                  have c55b0 : decide (x8_4 < (((rd_T90 l0_1 (rd t590 x6_3)).f1.f1).length : Int)) = true := decide_eq_true c55; clear c55
                                  (first | rw [c55b0] | (simp only [i64_w, i32_w]; rw [c55b0]) | skip)
                                  have H' := Aside0.mk H; clear H; have hnb56 := NB605_589.out; have hnc56 := NB589_605.out; have hcz57_0 : wr.cell? ⟨gb605, 0, none⟩ = some (.bool ((rd_T90 l0_1 (rd t590 x6_3)).f1.f0)) := (blk_cell BK605.out 0).trans rfl; have hcz57_1 : wr.cell? ⟨gb605, 1, none⟩ = some (.slice A604_2 ((rd_T90 l0_1 (rd t590 x6_3)).f1.f1).length c604_2) := (blk_cell BK605.out 1).trans rfl; have hfz57_0 := blk_frozen BK605.out 0; have hfz57_1 := blk_frozen BK605.out 1; go_wp2; go_meet
                                  case rel => exact ⟨_, (!((rd_T90 l0_1 (rd t590 x6_3)).f1.f0)), az, H', ⟨by have := HJ2.out; have := HK2.out; have := HK3.out; have := HK4.out; first | omega | exact Nat.le_refl _⟩, ⟨rz HO_3.out⟩, ⟨kz BK589.out⟩, ⟨kz BK605.out⟩, ⟨b2 GE589.out GE605.out HB.out⟩⟩
                                · rw [if_neg c55] at H
                                  have c55b0 : decide (x8_4 < (((rd_T90 l0_1 (rd t590 x6_3)).f1.f1).length : Int)) = false := decide_eq_false c55; clear c55
                                  (first | rw [c55b0] | (simp only [i64_w, i32_w]; rw [c55b0]) | skip)
                                  have H' := Aside0.mk H; clear H; have hnb58 := NB605_589.out; have hnc58 := NB589_605.out; have hcz59_0 : wr.cell? ⟨gb605, 0, none⟩ = some (.bool ((rd_T90 l0_1 (rd t590 x6_3)).f1.f0)) := (blk_cell BK605.out 0).trans rfl; have hcz59_1 : wr.cell? ⟨gb605, 1, none⟩ = some (.slice A604_2 ((rd_T90 l0_1 (rd t590 x6_3)).f1.f1).length c604_2) := (blk_cell BK605.out 1).trans rfl; have hfz59_0 := blk_frozen BK605.out 0; have hfz59_1 := blk_frozen BK605.out 1; go_wp2; go_meet
                                  case rel => exact ⟨_, (false), az, H', ⟨by have := HJ2.out; have := HK2.out; have := HK3.out; have := HK4.out; first | omega | exact Nat.le_refl _⟩, ⟨rz HO_3.out⟩, ⟨kz BK589.out⟩, ⟨kz BK605.out⟩, ⟨b2 GE589.out GE605.out HB.out⟩⟩
                              case rest =>
                                clear HC54; (try clear c1); (try clear q1); (try clear c2); (try clear p2); (try clear c3); (try clear q3); (try clear c4); (try clear c5); (try clear p5); (try clear q5); (try clear hx5); (try clear c6); (try clear p6); (try clear q6); (try clear hx6); (try clear c13); (try clear c13b0); (try clear c14); (try clear q15); (try clear c16); (try clear c18); (try clear c19); (try clear c23); (try clear c23b0); (try clear c27); (try clear c27b0); (try clear c27b1); (try clear c36); (try clear q38); (try clear c39); (try clear c41); (try clear c41b0); (try clear c41b1); (try clear c45); (try clear c45b0); (try clear c46); (try clear c46b0); (try clear c47); (try clear c47b0); (try clear c48); (try clear c48b0); (try clear c55); (try clear c55b0); (try clear c56); (try clear c58); (try clear p59); (try clear q59); (try clear hx59); (try clear hcz20_0); (try clear hcz20_1); (try clear hcz22_0); (try clear hcz22_1); (try clear hcz24_0); (try clear hcz24_1); (try clear hcz26_0); (try clear hcz26_1); (try clear hcz28_0); (try clear hcz28_1); (try clear hcz30_0); (try clear hcz30_1); (try clear hcz31_0); (try clear hcz31_1); (try clear hcz33_0); (try clear hcz33_1); (try clear hcz34_0); (try clear hcz34_1); (try clear hcz37_0); (try clear hcz37_1); (try clear hcz40_0); (try clear hcz40_1); (try clear hcz42_0); (try clear hcz42_1); (try clear hcz43_0); (try clear hcz43_1); (try clear hcz44_0); (try clear hcz44_1); (try clear hcz57_0); (try clear hcz57_1); (try clear hcz59_0); (try clear hcz59_1); (try clear hfz20_0); (try clear hfz20_1); (try clear hfz22_0); (try clear hfz22_1); (try clear hfz24_0); (try clear hfz24_1); (try clear hfz26_0); (try clear hfz26_1); (try clear hfz28_0); (try clear hfz28_1); (try clear hfz30_0); (try clear hfz30_1); (try clear hfz31_0); (try clear hfz31_1); (try clear hfz33_0); (try clear hfz33_1); (try clear hfz34_0); (try clear hfz34_1); (try clear hfz37_0); (try clear hfz37_1); (try clear hfz40_0); (try clear hfz40_1); (try clear hfz42_0); (try clear hfz42_1); (try clear hfz43_0); (try clear hfz43_1); (try clear hfz44_0); (try clear hfz44_1); (try clear hfz57_0); (try clear hfz57_1); (try clear hfz59_0); (try clear hfz59_1); (try clear hx594_0); (try clear hx594_1); (try clear hx594_2); (try clear hx595_0); (try clear hx595_1); (try clear hx595_2); (try clear hx597_0); (try clear hx597_1); (try clear hx597_2); (try clear hx598_0); (try clear hx598_1); (try clear hx598_2); (try clear hx599_0); (try clear hx599_1); (try clear hx599_2); (try clear hx600_0); (try clear hx600_1); (try clear hx600_2); (try clear hx601_0); (try clear hx601_1); (try clear hx601_2); (try clear hx602_0); (try clear hx602_1); (try clear hx602_2); (try clear hx603_0); (try clear hx604_0); (try clear hx604_1); (try clear hx604_2); (try clear p2); (try clear p5); (try clear p594); (try clear p595); (try clear p597); (try clear p598); (try clear p599); (try clear p6); (try clear p600); (try clear p601); (try clear p602); (try clear p603); (try clear p604); (try clear q1); (try clear q15); (try clear q3); (try clear q38); (try clear q5); (try clear q594); (try clear q595); (try clear q597); (try clear q598); (try clear q599); (try clear q6); (try clear q600); (try clear q601); (try clear q602); (try clear q603); (try clear q604); obtain ⟨kq, x97_53, rfl, HA, HJ53, HO_3, BK589, BK605, HB⟩ := hcut
                                cases kq with
                                | zero => exact absurd HA.out (by simp [spec_BookOk.j4])
                                | succ kj53 =>
                                  have H := HA.out; clear HA
                                  simp only [spec_BookOk.j4] at H
                                  by_cases c60 : x97_53 = true
                                  · subst c60
                                    replace H : (if 0 ≤ x8_4 then (if x8_4 < (((rd_T90 l0_1 (rd t590 x6_3)).f1.f1).length : Int) then ((spec_l7Has.f kj53 t590 ((rd_T103 ((rd_T90 l0_1 (rd t590 x6_3)).f1.f1) x8_4).f0)).bind fun t607 => (if t607 = true then (if ((rd_T103 ((rd_T90 l0_1 (rd t590 x6_3)).f1.f1) x8_4).f0) = a0_0 then (some false) else (spec_BookOk.l2 kj53 t590 (wrap64 (x5_4 + 1)) x6_3 (wrap64 (x8_4 + 1)) a0_0 l0_1 ((rd_T90 l0_1 (rd t590 x6_3)).f1.f0) ((rd_T90 l0_1 (rd t590 x6_3)).f1.f1))) else (some false))) else (none)) else (none)) = some r := (by rw [if_pos rfl] at H; exact H)
                                    by_cases c61 : 0 ≤ x8_4
                                    · rw [if_pos c61] at H
                                      have c61b0 : decide (0 ≤ x8_4) = true := decide_eq_true c61; clear c61
                                      by_cases c62 : x8_4 < (((rd_T90 l0_1 (rd t590 x6_3)).f1.f1).length : Int)
                                      · rw [if_pos c62] at H
                                        have c62b0 : decide (x8_4 < (((rd_T90 l0_1 (rd t590 x6_3)).f1.f1).length : Int)) = true := decide_eq_true c62; clear c62; replace H := Option.bind_eq_some_iff.mp H; obtain ⟨t607, A630, H⟩ := H; replace H : (if t607 = true then (if ((rd_T103 ((rd_T90 l0_1 (rd t590 x6_3)).f1.f1) x8_4).f0) = a0_0 then (some false) else (spec_BookOk.l2 kj53 t590 (wrap64 (x5_4 + 1)) x6_3 (wrap64 (x8_4 + 1)) a0_0 l0_1 ((rd_T90 l0_1 (rd t590 x6_3)).f1.f0) ((rd_T90 l0_1 (rd t590 x6_3)).f1.f1))) else (some false)) = some r := H; have A63 := Aside0.mk A630; clear A630
                                        by_cases c64 : t607 = true
                                        · subst c64
                                          replace H : (if ((rd_T103 ((rd_T90 l0_1 (rd t590 x6_3)).f1.f1) x8_4).f0) = a0_0 then (some false) else (spec_BookOk.l2 kj53 t590 (wrap64 (x5_4 + 1)) x6_3 (wrap64 (x8_4 + 1)) a0_0 l0_1 ((rd_T90 l0_1 (rd t590 x6_3)).f1.f0) ((rd_T90 l0_1 (rd t590 x6_3)).f1.f1))) = some r := (by rw [if_pos rfl] at H; exact H)
                                          by_cases c65 : ((rd_T103 ((rd_T90 l0_1 (rd t590 x6_3)).f1.f1) x8_4).f0) = a0_0
                                          · rw [if_pos c65] at H
                                            have c65b0 : (((rd_T103 ((rd_T90 l0_1 (rd t590 x6_3)).f1.f1) x8_4).f0) == a0_0) = true := beq_iff_eq.mpr c65; have c65b1 : (((rd_T103 ((rd_T90 l0_1 (rd t590 x6_3)).f1.f1) x8_4).f0) != a0_0) = false := bne_eq_false_iff_eq.mpr c65; clear c65; obtain rfl := Option.some.inj H
                                            try go_wp2
                                            have n0_ := Aside0.mk (Kd.R_drew HO_3.out); have n1_ := Aside0.mk (blk_drew BK589.out); have n2_ := Aside0.mk (blk_drew BK605.out); have n3_ := Aside0.mk (below_drew1 HB.out); clear HO_3; clear BK589; clear BK605; clear HB; have HO_3 := n0_; have BK589 := n1_; have BK605 := n2_; have HB := n3_; clear n0_ n1_ n2_ n3_; have p606 : 0 ≤ (x8_4 : Int) := of_decide_eq_true uz; have q606 : x8_4 < (((rd_T90 l0_1 (rd t590 x6_3)).f1.f1).length : Int) := of_decide_eq_true uz; obtain ⟨ad606, e606, hx606_0, hx606_1, hx606_2, hx606_3, hx606_4⟩ := at_T103 HR604_2.out x8_4 p606 q606; have hw606_4 := hx606_4; have hw606_3 := hx606_3; have hw606_2 := hx606_2; have hw606_1 := hx606_1; have hw606_0 := hx606_0
                                            cases e606
                                            replace hx606_0 := cz HB.out hx606_0; replace hx606_1 := cz HB.out hx606_1; replace hx606_2 := cz HB.out hx606_2; replace hx606_3 := cz HB.out hx606_3; replace hx606_4 := cz HB.out hx606_4; replace p606 := eq_true p606; replace q606 := eq_true q606; have p608 : 0 ≤ (x8_4 : Int) := of_decide_eq_true uz; have q608 : x8_4 < (((rd_T90 l0_1 (rd t590 x6_3)).f1.f1).length : Int) := of_decide_eq_true uz; obtain ⟨ad608, e608, hx608_0, hx608_1, hx608_2, hx608_3, hx608_4⟩ := at_T103 HR604_2.out x8_4 p608 q608; have hw608_4 := hx608_4; have hw608_3 := hx608_3; have hw608_2 := hx608_2; have hw608_1 := hx608_1; have hw608_0 := hx608_0; obtain rfl : ad606 = ad608 := (by injection e608); replace hx608_0 := cz HB.out hx608_0; replace hx608_1 := cz HB.out hx608_1; replace hx608_2 := cz HB.out hx608_2; replace hx608_3 := cz HB.out hx608_3; replace hx608_4 := cz HB.out hx608_4; replace p608 := eq_true p608; replace q608 := eq_true q608
                                            refine start_ (n := 20) (S := fun w' => w'.cell? ⟨gb605, 0, none⟩ = some (.bool ((rd_T90 l0_1 (rd t590 x6_3)).f1.f0)) ∧ w'.cell? ⟨gb605, 1, none⟩ = some (.slice (some ad606) ((rd_T90 l0_1 (rd t590 x6_3)).f1.f1).length c604_2) ∧ w'.cell? ⟨gb589, 0, none⟩ = some (.int .i64 a0_0) ∧ w'.cell? ⟨gb589, 1, none⟩ = some (.slice (some ad604) l0_1.length c0_1) ∧ w'.cell? (ad606.add ((x8_4).toNat * 5)) = some (.int .i64 ((rd_T103 ((rd_T90 l0_1 (rd t590 x6_3)).f1.f1) x8_4).f0)) ∧ w'.cell? ⟨(ad606.add ((x8_4).toNat * 5)).block, (ad606.add ((x8_4).toNat * 5)).off + 1, none⟩ = some (.int .i64 ((rd_T103 ((rd_T90 l0_1 (rd t590 x6_3)).f1.f1) x8_4).f1.f0)) ∧ w'.cell? ⟨(ad606.add ((x8_4).toNat * 5)).block, (ad606.add ((x8_4).toNat * 5)).off + 2, none⟩ = some (.int .i64 ((rd_T103 ((rd_T90 l0_1 (rd t590 x6_3)).f1.f1) x8_4).f1.f1)) ∧ w'.cell? ⟨(ad606.add ((x8_4).toNat * 5)).block, (ad606.add ((x8_4).toNat * 5)).off + 3, none⟩ = some (.int .i64 ((rd_T103 ((rd_T90 l0_1 (rd t590 x6_3)).f1.f1) x8_4).f1.f2)) ∧ w'.cell? ⟨(ad606.add ((x8_4).toNat * 5)).block, (ad606.add ((x8_4).toNat * 5)).off + 4, none⟩ = some (.int .i64 ((rd_T103 ((rd_T90 l0_1 (rd t590 x6_3)).f1.f1) x8_4).f1.f3)) ∧ w'.cell? (ad606.add ((x8_4).toNat * 5)) = some (.int .i64 ((rd_T103 ((rd_T90 l0_1 (rd t590 x6_3)).f1.f1) x8_4).f0)) ∧ w'.cell? ⟨(ad606.add ((x8_4).toNat * 5)).block, (ad606.add ((x8_4).toNat * 5)).off + 1, none⟩ = some (.int .i64 ((rd_T103 ((rd_T90 l0_1 (rd t590 x6_3)).f1.f1) x8_4).f1.f0)) ∧ w'.cell? ⟨(ad606.add ((x8_4).toNat * 5)).block, (ad606.add ((x8_4).toNat * 5)).off + 2, none⟩ = some (.int .i64 ((rd_T103 ((rd_T90 l0_1 (rd t590 x6_3)).f1.f1) x8_4).f1.f1)) ∧ w'.cell? ⟨(ad606.add ((x8_4).toNat * 5)).block, (ad606.add ((x8_4).toNat * 5)).off + 3, none⟩ = some (.int .i64 ((rd_T103 ((rd_T90 l0_1 (rd t590 x6_3)).f1.f1) x8_4).f1.f2)) ∧ w'.cell? ⟨(ad606.add ((x8_4).toNat * 5)).block, (ad606.add ((x8_4).toNat * 5)).off + 4, none⟩ = some (.int .i64 ((rd_T103 ((rd_T90 l0_1 (rd t590 x6_3)).f1.f1) x8_4).f1.f3))) (ds := []) #[false, false, false, false, false, false, false, false, false, false, false, false, false, false, false, false, false, false, false, false] (by kernel_rfl) rfl rfl ⟨(blk_cell BK605.out 0).trans rfl, (blk_cell BK605.out 1).trans rfl, (blk_cell BK589.out 0).trans rfl, (blk_cell BK589.out 1).trans rfl, (cz HB.out hw606_0 :), (cz HB.out hw606_1 :), (cz HB.out hw606_2 :), (cz HB.out hw606_3 :), (cz HB.out hw606_4 :), (cz HB.out hw608_0 :), (cz HB.out hw608_1 :), (cz HB.out hw608_2 :), (cz HB.out hw608_3 :), (cz HB.out hw608_4 :)⟩ (fun hHeld => ?_); refine with_tabW spec_BookOk.tab17 spec_BookOk.bits17 (fun HT_ HW_ => ?_)
                                            generalize wc.drew = w66 at HO_3 BK589 BK605 HB hx606_0 hx606_1 hx606_2 hx606_3 hx606_4 hx608_0 hx608_1 hx608_2 hx608_3 hx608_4 hHeld ⊢
                                            refine pure_ (i := 0) (N := some 100) (v := ?_) (a' := ?_) #[true, false, false, false, false, false, false, false, false, false, false, false, false, false, false, false, false, false, false, false] rfl rfl (any_of HT_.out (by kernel_rfl)) (fun _ _ _ h => h) (Or.inl ⟨by rfl, ?_⟩) ?_ ?_; rotate_left
                                            · intro w'
                                              go_simp
                                              with_reducible rfl
                                            rotate_left
                                            · exact pz
                                            refine pure_ (i := 1) (N := some 101) (v := ?_) (a' := ?_) #[true, true, false, false, false, false, false, false, false, false, false, false, false, false, false, false, false, false, false, false] rfl rfl (any_of HT_.out (by kernel_rfl)) (fun _ _ _ h => h) (Or.inl ⟨by rfl, ?_⟩) ?_ ?_; rotate_left
                                            · intro w'
                                              go_simp
                                              with_reducible rfl
                                            rotate_left
                                            · exact pz
                                            refine pure_ (i := 3) (N := some 103) (v := ?_) (a' := ?_) #[true, true, false, true, false, false, false, false, false, false, false, false, false, false, false, false, false, false, false, false] rfl rfl (any_of HT_.out (by kernel_rfl)) (fun _ _ _ h => h) (Or.inl ⟨by rfl, ?_⟩) ?_ ?_; rotate_left
                                            · intro w'
                                              go_simp
                                              with_reducible rfl
                                            rotate_left
                                            · exact pz
                                            refine take_ (i := 2) (N := some 102) (v := ?_) (a' := ?_) #[true, true, true, true, false, false, false, false, false, false, false, false, false, false, false, false, false, false, false, false] rfl rfl (take_ofW HT_.out HW_.out (by kernel_rfl)) (fun _ _ _ h => h) (Or.inl ⟨by rfl, ?_⟩) hHeld ?_ ?_; rotate_left
                                            · rintro w' ⟨s0, s1, s2, s3, s4, s5, s6, s7, s8, s9, s10, s11, s12, s13⟩
                                              go_simp
                                              with_reducible rfl
                                            rotate_left
                                            · exact pz
                                            refine pure_ (i := 4) (N := some 104) (v := ?_) (a' := ?_) #[true, true, true, true, true, false, false, false, false, false, false, false, false, false, false, false, false, false, false, false] rfl rfl (any_of HT_.out (by kernel_rfl)) (fun _ _ _ h => h) (Or.inl ⟨by rfl, ?_⟩) ?_ ?_; rotate_left
                                            · intro w'
                                              go_simp
                                              with_reducible rfl
                                            rotate_left
                                            · exact pz
                                            refine pure_ (i := 5) (N := some 105) (v := ?_) (a' := ?_) #[true, true, true, true, true, true, false, false, false, false, false, false, false, false, false, false, false, false, false, false] rfl rfl (any_of HT_.out (by kernel_rfl)) (fun _ _ _ h => h) (Or.inl ⟨by rfl, ?_⟩) ?_ ?_; rotate_left
                                            · intro w'
                                              go_simp
                                              with_reducible rfl
                                            rotate_left
                                            · exact pz
                                            refine take_ (i := 6) (N := some 106) (v := ?_) (a' := ?_) #[true, true, true, true, true, true, true, false, false, false, false, false, false, false, false, false, false, false, false, false] rfl rfl (take_ofW HT_.out HW_.out (by kernel_rfl)) (fun _ _ _ h => h) (Or.inl ⟨by rfl, ?_⟩) hHeld ?_ ?_; rotate_left
                                            · rintro w' ⟨s0, s1, s2, s3, s4, s5, s6, s7, s8, s9, s10, s11, s12, s13⟩
                                              go_simp
                                              with_reducible rfl
                                            rotate_left
                                            · exact pz
                                            refine one_ (i := 7) (N := some 107) #[true, true, true, true, true, true, true, true, false, false, false, false, false, false, false, false, false, false, false, false] rfl rfl (one_of HT_.out (by kernel_rfl)) (by decide) (fun K hK => ?_); refine goes_ Try.func87 (by kernel_rfl) rfl #[.slice (some ad603) t590.length co49, .int .i64 ((rd_T103 ((rd_T90 l0_1 (rd t590 x6_3)).f1.f1) x8_4).f0)] (by rfl) rfl rfl dz ?_
                                            with_reducible refine (spec_l7Has.calls kj53 _ _ t590 ((rd_T103 ((rd_T90 l0_1 (rd t590 x6_3)).f1.f1) x8_4).f0) true _ ?side1 ?side2 A63.out).mono ?_
                                            (case side1 => repeat (first | exact (Kd.R_reads' HO_3.out).2.2 | (with_reducible refine Kd.C_alloc ?_ _) | (with_reducible refine Kd.C_drewN ?_ _) | (with_reducible refine Kd.C_drew ?_)))
                                            (case side2 => exact (Kd.R_reads' HO_3.out).2.1)
                                            rintro e w' ⟨rfl, ⟨nd, rfl⟩⟩
                                            refine ⟨_, rfl, ?_⟩; refine hK.out _ _ ⟨(blk_cell BK605.out 0).trans rfl, (blk_cell BK605.out 1).trans rfl, (blk_cell BK589.out 0).trans rfl, (blk_cell BK589.out 1).trans rfl, (cz HB.out hw606_0 :), (cz HB.out hw606_1 :), (cz HB.out hw606_2 :), (cz HB.out hw606_3 :), (cz HB.out hw606_4 :), (cz HB.out hw608_0 :), (cz HB.out hw608_1 :), (cz HB.out hw608_2 :), (cz HB.out hw608_3 :), (cz HB.out hw608_4 :)⟩ (fun hHeld => ?_); clear hK K; refine norm_ (a' := ?_) ?_ ?_; rotate_left
                                            · show Act.put _ (some 107) _ = _
                                              simp only [Act.put, List.setIfInBounds_toArray, List.set_cons_zero, List.set_cons_succ, i64_w, i32_w]
                                              rfl
                                            refine pure_ (i := 8) (N := some 108) (v := ?_) (a' := ?_) #[true, true, true, true, true, true, true, true, true, false, false, false, false, false, false, false, false, false, false, false] rfl rfl (any_of HT_.out (by kernel_rfl)) (fun _ _ _ h => h) (Or.inl ⟨by rfl, ?_⟩) ?_ ?_; rotate_left
                                            · intro w'
                                              go_simp
                                              with_reducible rfl
                                            rotate_left
                                            · exact pz
                                            refine pure_ (i := 9) (N := some 109) (v := ?_) (a' := ?_) #[true, true, true, true, true, true, true, true, true, true, false, false, false, false, false, false, false, false, false, false] rfl rfl (any_of HT_.out (by kernel_rfl)) (fun _ _ _ h => h) (Or.inl ⟨by rfl, ?_⟩) ?_ ?_; rotate_left
                                            · intro w'
                                              go_simp
                                              with_reducible rfl
                                            rotate_left
                                            · exact pz
                                            refine pure_ (i := 10) (N := some 110) (v := ?_) (a' := ?_) #[true, true, true, true, true, true, true, true, true, true, true, false, false, false, false, false, false, false, false, false] rfl rfl (any_of HT_.out (by kernel_rfl)) (fun _ _ _ h => h) (Or.inl ⟨by rfl, ?_⟩) ?_ ?_; rotate_left
                                            · intro w'
                                              go_simp
                                              with_reducible rfl
                                            rotate_left
                                            · exact pz
                                            refine pure_ (i := 12) (N := some 112) (v := ?_) (a' := ?_) #[true, true, true, true, true, true, true, true, true, true, true, false, true, false, false, false, false, false, false, false] rfl rfl (any_of HT_.out (by kernel_rfl)) (fun _ _ _ h => h) (Or.inl ⟨by rfl, ?_⟩) ?_ ?_; rotate_left
                                            · intro w'
                                              go_simp
                                              with_reducible rfl
                                            rotate_left
                                            · exact pz
                                            refine pure_ (i := 16) (N := some 116) (v := ?_) (a' := ?_) #[true, true, true, true, true, true, true, true, true, true, true, false, true, false, false, false, true, false, false, false] rfl rfl (any_of HT_.out (by kernel_rfl)) (fun _ _ _ h => h) (Or.inl ⟨by rfl, ?_⟩) ?_ ?_; rotate_left
                                            · intro w'
                                              go_simp
                                              with_reducible rfl
                                            rotate_left
                                            · exact pz
                                            refine take_ (i := 11) (N := some 111) (v := ?_) (a' := ?_) #[true, true, true, true, true, true, true, true, true, true, true, true, true, false, false, false, true, false, false, false] rfl rfl (take_ofW HT_.out HW_.out (by kernel_rfl)) (fun _ _ _ h => h) (Or.inl ⟨by rfl, ?_⟩) hHeld ?_ ?_; rotate_left
                                            · rintro w' ⟨s0, s1, s2, s3, s4, s5, s6, s7, s8, s9, s10, s11, s12, s13⟩
                                              go_simp
                                              with_reducible rfl
                                            rotate_left
                                            · exact pz
                                            refine pure_ (i := 13) (N := some 113) (v := ?_) (a' := ?_) #[true, true, true, true, true, true, true, true, true, true, true, true, true, true, false, false, true, false, false, false] rfl rfl (any_of HT_.out (by kernel_rfl)) (fun _ _ _ h => h) (Or.inl ⟨by rfl, ?_⟩) ?_ ?_; rotate_left
                                            · intro w'
                                              go_simp
                                              with_reducible rfl
                                            rotate_left
                                            · exact pz
                                            refine pure_ (i := 14) (N := some 114) (v := ?_) (a' := ?_) #[true, true, true, true, true, true, true, true, true, true, true, true, true, true, true, false, true, false, false, false] rfl rfl (any_of HT_.out (by kernel_rfl)) (fun _ _ _ h => h) (Or.inl ⟨by rfl, ?_⟩) ?_ ?_; rotate_left
                                            · intro w'
                                              go_simp
                                              with_reducible rfl
                                            rotate_left
                                            · exact pz
                                            refine take_ (i := 15) (N := some 115) (v := ?_) (a' := ?_) #[true, true, true, true, true, true, true, true, true, true, true, true, true, true, true, true, true, false, false, false] rfl rfl (take_ofW HT_.out HW_.out (by kernel_rfl)) (fun _ _ _ h => h) (Or.inl ⟨by rfl, ?_⟩) hHeld ?_ ?_; rotate_left
                                            · rintro w' ⟨s0, s1, s2, s3, s4, s5, s6, s7, s8, s9, s10, s11, s12, s13⟩
                                              go_simp
                                              with_reducible rfl
                                            rotate_left
                                            · exact pz
                                            refine take_ (i := 17) (N := some 117) (v := ?_) (a' := ?_) #[true, true, true, true, true, true, true, true, true, true, true, true, true, true, true, true, true, true, false, false] rfl rfl (take_ofW HT_.out HW_.out (by kernel_rfl)) (fun _ _ _ h => h) (Or.inl ⟨by rfl, ?_⟩) hHeld ?_ ?_; rotate_left
                                            · rintro w' ⟨s0, s1, s2, s3, s4, s5, s6, s7, s8, s9, s10, s11, s12, s13⟩
                                              go_simp
                                              with_reducible rfl
                                            rotate_left
                                            · exact pz
                                            refine pure_ (i := 18) (N := some 118) (v := ?_) (a' := ?_) #[true, true, true, true, true, true, true, true, true, true, true, true, true, true, true, true, true, true, true, false] rfl rfl (any_of HT_.out (by kernel_rfl)) (fun _ _ _ h => h) (Or.inl ⟨by rfl, ?_⟩) ?_ ?_; rotate_left
                                            · intro w'
                                              go_simp
                                              with_reducible rfl
                                            rotate_left
                                            · exact pz
                                            refine pure_ (i := 19) (N := some 119) (v := ?_) (a' := ?_) #[true, true, true, true, true, true, true, true, true, true, true, true, true, true, true, true, true, true, true, true] rfl rfl (any_of HT_.out (by kernel_rfl)) (fun _ _ _ h => h) (Or.inl ⟨by rfl, ?_⟩) ?_ ?_; rotate_left
                                            · intro w'
                                              go_simp
                                              with_reducible rfl
                                            rotate_left
                                            · exact pz
                                            refine done_ (done_of HT_.out (by kernel_rfl)) ?_
                                            try go_wp2
                                            go_ret; exact ⟨ez, b2 GE589.out GE605.out HB.out⟩
                                          · rw [if_neg c65] at H
                                            have c65b0 : (((rd_T103 ((rd_T90 l0_1 (rd t590 x6_3)).f1.f1) x8_4).f0) == a0_0) = false := beq_eq_false_iff_ne.mpr c65; have c65b1 : (((rd_T103 ((rd_T90 l0_1 (rd t590 x6_3)).f1.f1) x8_4).f0) != a0_0) = true := bne_iff_ne.mpr c65; have H' := Aside0.mk H; clear H
                                            try go_wp2
                                            have n0_ := Aside0.mk (Kd.R_drew HO_3.out); have n1_ := Aside0.mk (blk_drew BK589.out); have n2_ := Aside0.mk (blk_drew BK605.out); have n3_ := Aside0.mk (below_drew1 HB.out); clear HO_3; clear BK589; clear BK605; clear HB; have HO_3 := n0_; have BK589 := n1_; have BK605 := n2_; have HB := n3_; clear n0_ n1_ n2_ n3_; have p606 : 0 ≤ (x8_4 : Int) := of_decide_eq_true uz; have q606 : x8_4 < (((rd_T90 l0_1 (rd t590 x6_3)).f1.f1).length : Int) := of_decide_eq_true uz; obtain ⟨ad606, e606, hx606_0, hx606_1, hx606_2, hx606_3, hx606_4⟩ := at_T103 HR604_2.out x8_4 p606 q606; have hw606_4 := hx606_4; have hw606_3 := hx606_3; have hw606_2 := hx606_2; have hw606_1 := hx606_1; have hw606_0 := hx606_0
                                            cases e606
                                            replace hx606_0 := cz HB.out hx606_0; replace hx606_1 := cz HB.out hx606_1; replace hx606_2 := cz HB.out hx606_2; replace hx606_3 := cz HB.out hx606_3; replace hx606_4 := cz HB.out hx606_4; replace p606 := eq_true p606; replace q606 := eq_true q606; have p608 : 0 ≤ (x8_4 : Int) := of_decide_eq_true uz; have q608 : x8_4 < (((rd_T90 l0_1 (rd t590 x6_3)).f1.f1).length : Int) := of_decide_eq_true uz; obtain ⟨ad608, e608, hx608_0, hx608_1, hx608_2, hx608_3, hx608_4⟩ := at_T103 HR604_2.out x8_4 p608 q608; have hw608_4 := hx608_4; have hw608_3 := hx608_3; have hw608_2 := hx608_2; have hw608_1 := hx608_1; have hw608_0 := hx608_0; obtain rfl : ad606 = ad608 := (by injection e608); replace hx608_0 := cz HB.out hx608_0; replace hx608_1 := cz HB.out hx608_1; replace hx608_2 := cz HB.out hx608_2; replace hx608_3 := cz HB.out hx608_3; replace hx608_4 := cz HB.out hx608_4; replace p608 := eq_true p608; replace q608 := eq_true q608
                                            refine start_ (n := 20) (S := fun w' => w'.cell? ⟨gb605, 0, none⟩ = some (.bool ((rd_T90 l0_1 (rd t590 x6_3)).f1.f0)) ∧ w'.cell? ⟨gb605, 1, none⟩ = some (.slice (some ad606) ((rd_T90 l0_1 (rd t590 x6_3)).f1.f1).length c604_2) ∧ w'.cell? ⟨gb589, 0, none⟩ = some (.int .i64 a0_0) ∧ w'.cell? ⟨gb589, 1, none⟩ = some (.slice (some ad604) l0_1.length c0_1) ∧ w'.cell? (ad606.add ((x8_4).toNat * 5)) = some (.int .i64 ((rd_T103 ((rd_T90 l0_1 (rd t590 x6_3)).f1.f1) x8_4).f0)) ∧ w'.cell? ⟨(ad606.add ((x8_4).toNat * 5)).block, (ad606.add ((x8_4).toNat * 5)).off + 1, none⟩ = some (.int .i64 ((rd_T103 ((rd_T90 l0_1 (rd t590 x6_3)).f1.f1) x8_4).f1.f0)) ∧ w'.cell? ⟨(ad606.add ((x8_4).toNat * 5)).block, (ad606.add ((x8_4).toNat * 5)).off + 2, none⟩ = some (.int .i64 ((rd_T103 ((rd_T90 l0_1 (rd t590 x6_3)).f1.f1) x8_4).f1.f1)) ∧ w'.cell? ⟨(ad606.add ((x8_4).toNat * 5)).block, (ad606.add ((x8_4).toNat * 5)).off + 3, none⟩ = some (.int .i64 ((rd_T103 ((rd_T90 l0_1 (rd t590 x6_3)).f1.f1) x8_4).f1.f2)) ∧ w'.cell? ⟨(ad606.add ((x8_4).toNat * 5)).block, (ad606.add ((x8_4).toNat * 5)).off + 4, none⟩ = some (.int .i64 ((rd_T103 ((rd_T90 l0_1 (rd t590 x6_3)).f1.f1) x8_4).f1.f3)) ∧ w'.cell? (ad606.add ((x8_4).toNat * 5)) = some (.int .i64 ((rd_T103 ((rd_T90 l0_1 (rd t590 x6_3)).f1.f1) x8_4).f0)) ∧ w'.cell? ⟨(ad606.add ((x8_4).toNat * 5)).block, (ad606.add ((x8_4).toNat * 5)).off + 1, none⟩ = some (.int .i64 ((rd_T103 ((rd_T90 l0_1 (rd t590 x6_3)).f1.f1) x8_4).f1.f0)) ∧ w'.cell? ⟨(ad606.add ((x8_4).toNat * 5)).block, (ad606.add ((x8_4).toNat * 5)).off + 2, none⟩ = some (.int .i64 ((rd_T103 ((rd_T90 l0_1 (rd t590 x6_3)).f1.f1) x8_4).f1.f1)) ∧ w'.cell? ⟨(ad606.add ((x8_4).toNat * 5)).block, (ad606.add ((x8_4).toNat * 5)).off + 3, none⟩ = some (.int .i64 ((rd_T103 ((rd_T90 l0_1 (rd t590 x6_3)).f1.f1) x8_4).f1.f2)) ∧ w'.cell? ⟨(ad606.add ((x8_4).toNat * 5)).block, (ad606.add ((x8_4).toNat * 5)).off + 4, none⟩ = some (.int .i64 ((rd_T103 ((rd_T90 l0_1 (rd t590 x6_3)).f1.f1) x8_4).f1.f3))) (ds := []) #[false, false, false, false, false, false, false, false, false, false, false, false, false, false, false, false, false, false, false, false] (by kernel_rfl) rfl rfl ⟨(blk_cell BK605.out 0).trans rfl, (blk_cell BK605.out 1).trans rfl, (blk_cell BK589.out 0).trans rfl, (blk_cell BK589.out 1).trans rfl, (cz HB.out hw606_0 :), (cz HB.out hw606_1 :), (cz HB.out hw606_2 :), (cz HB.out hw606_3 :), (cz HB.out hw606_4 :), (cz HB.out hw608_0 :), (cz HB.out hw608_1 :), (cz HB.out hw608_2 :), (cz HB.out hw608_3 :), (cz HB.out hw608_4 :)⟩ (fun hHeld => ?_); refine with_tabW spec_BookOk.tab17 spec_BookOk.bits17 (fun HT_ HW_ => ?_)
                                            generalize wc.drew = w67 at HO_3 BK589 BK605 HB hx606_0 hx606_1 hx606_2 hx606_3 hx606_4 hx608_0 hx608_1 hx608_2 hx608_3 hx608_4 hHeld ⊢
                                            refine pure_ (i := 0) (N := some 100) (v := ?_) (a' := ?_) #[true, false, false, false, false, false, false, false, false, false, false, false, false, false, false, false, false, false, false, false] rfl rfl (any_of HT_.out (by kernel_rfl)) (fun _ _ _ h => h) (Or.inl ⟨by rfl, ?_⟩) ?_ ?_; rotate_left
                                            · intro w'
                                              go_simp
                                              with_reducible rfl
                                            rotate_left
                                            · exact pz
                                            refine pure_ (i := 1) (N := some 101) (v := ?_) (a' := ?_) #[true, true, false, false, false, false, false, false, false, false, false, false, false, false, false, false, false, false, false, false] rfl rfl (any_of HT_.out (by kernel_rfl)) (fun _ _ _ h => h) (Or.inl ⟨by rfl, ?_⟩) ?_ ?_; rotate_left
                                            · intro w'
                                              go_simp
                                              with_reducible rfl
                                            rotate_left
                                            · exact pz
                                            refine pure_ (i := 3) (N := some 103) (v := ?_) (a' := ?_) #[true, true, false, true, false, false, false, false, false, false, false, false, false, false, false, false, false, false, false, false] rfl rfl (any_of HT_.out (by kernel_rfl)) (fun _ _ _ h => h) (Or.inl ⟨by rfl, ?_⟩) ?_ ?_; rotate_left
                                            · intro w'
                                              go_simp
                                              with_reducible rfl
                                            rotate_left
                                            · exact pz
                                            refine take_ (i := 2) (N := some 102) (v := ?_) (a' := ?_) #[true, true, true, true, false, false, false, false, false, false, false, false, false, false, false, false, false, false, false, false] rfl rfl (take_ofW HT_.out HW_.out (by kernel_rfl)) (fun _ _ _ h => h) (Or.inl ⟨by rfl, ?_⟩) hHeld ?_ ?_; rotate_left
                                            · rintro w' ⟨s0, s1, s2, s3, s4, s5, s6, s7, s8, s9, s10, s11, s12, s13⟩
                                              go_simp
                                              with_reducible rfl
                                            rotate_left
                                            · exact pz
                                            refine pure_ (i := 4) (N := some 104) (v := ?_) (a' := ?_) #[true, true, true, true, true, false, false, false, false, false, false, false, false, false, false, false, false, false, false, false] rfl rfl (any_of HT_.out (by kernel_rfl)) (fun _ _ _ h => h) (Or.inl ⟨by rfl, ?_⟩) ?_ ?_; rotate_left
                                            · intro w'
                                              go_simp
                                              with_reducible rfl
                                            rotate_left
                                            · exact pz
                                            refine pure_ (i := 5) (N := some 105) (v := ?_) (a' := ?_) #[true, true, true, true, true, true, false, false, false, false, false, false, false, false, false, false, false, false, false, false] rfl rfl (any_of HT_.out (by kernel_rfl)) (fun _ _ _ h => h) (Or.inl ⟨by rfl, ?_⟩) ?_ ?_; rotate_left
                                            · intro w'
                                              go_simp
                                              with_reducible rfl
                                            rotate_left
                                            · exact pz
                                            refine take_ (i := 6) (N := some 106) (v := ?_) (a' := ?_) #[true, true, true, true, true, true, true, false, false, false, false, false, false, false, false, false, false, false, false, false] rfl rfl (take_ofW HT_.out HW_.out (by kernel_rfl)) (fun _ _ _ h => h) (Or.inl ⟨by rfl, ?_⟩) hHeld ?_ ?_; rotate_left
                                            · rintro w' ⟨s0, s1, s2, s3, s4, s5, s6, s7, s8, s9, s10, s11, s12, s13⟩
                                              go_simp
                                              with_reducible rfl
                                            rotate_left
                                            · exact pz
                                            refine one_ (i := 7) (N := some 107) #[true, true, true, true, true, true, true, true, false, false, false, false, false, false, false, false, false, false, false, false] rfl rfl (one_of HT_.out (by kernel_rfl)) (by decide) (fun K hK => ?_); refine goes_ Try.func87 (by kernel_rfl) rfl #[.slice (some ad603) t590.length co49, .int .i64 ((rd_T103 ((rd_T90 l0_1 (rd t590 x6_3)).f1.f1) x8_4).f0)] (by rfl) rfl rfl dz ?_
                                            with_reducible refine (spec_l7Has.calls kj53 _ _ t590 ((rd_T103 ((rd_T90 l0_1 (rd t590 x6_3)).f1.f1) x8_4).f0) true _ ?side1 ?side2 A63.out).mono ?_
                                            (case side1 => repeat (first | exact (Kd.R_reads' HO_3.out).2.2 | (with_reducible refine Kd.C_alloc ?_ _) | (with_reducible refine Kd.C_drewN ?_ _) | (with_reducible refine Kd.C_drew ?_)))
                                            (case side2 => exact (Kd.R_reads' HO_3.out).2.1)
                                            rintro e w' ⟨rfl, ⟨nd, rfl⟩⟩
                                            refine ⟨_, rfl, ?_⟩; refine hK.out _ _ ⟨(blk_cell BK605.out 0).trans rfl, (blk_cell BK605.out 1).trans rfl, (blk_cell BK589.out 0).trans rfl, (blk_cell BK589.out 1).trans rfl, (cz HB.out hw606_0 :), (cz HB.out hw606_1 :), (cz HB.out hw606_2 :), (cz HB.out hw606_3 :), (cz HB.out hw606_4 :), (cz HB.out hw608_0 :), (cz HB.out hw608_1 :), (cz HB.out hw608_2 :), (cz HB.out hw608_3 :), (cz HB.out hw608_4 :)⟩ (fun hHeld => ?_); clear hK K; refine norm_ (a' := ?_) ?_ ?_; rotate_left
                                            · show Act.put _ (some 107) _ = _
                                              simp only [Act.put, List.setIfInBounds_toArray, List.set_cons_zero, List.set_cons_succ, i64_w, i32_w]
                                              rfl
                                            refine pure_ (i := 8) (N := some 108) (v := ?_) (a' := ?_) #[true, true, true, true, true, true, true, true, true, false, false, false, false, false, false, false, false, false, false, false] rfl rfl (any_of HT_.out (by kernel_rfl)) (fun _ _ _ h => h) (Or.inl ⟨by rfl, ?_⟩) ?_ ?_; rotate_left
                                            · intro w'
                                              go_simp
                                              with_reducible rfl
                                            rotate_left
                                            · exact pz
                                            refine pure_ (i := 9) (N := some 109) (v := ?_) (a' := ?_) #[true, true, true, true, true, true, true, true, true, true, false, false, false, false, false, false, false, false, false, false] rfl rfl (any_of HT_.out (by kernel_rfl)) (fun _ _ _ h => h) (Or.inl ⟨by rfl, ?_⟩) ?_ ?_; rotate_left
                                            · intro w'
                                              go_simp
                                              with_reducible rfl
                                            rotate_left
                                            · exact pz
                                            refine pure_ (i := 10) (N := some 110) (v := ?_) (a' := ?_) #[true, true, true, true, true, true, true, true, true, true, true, false, false, false, false, false, false, false, false, false] rfl rfl (any_of HT_.out (by kernel_rfl)) (fun _ _ _ h => h) (Or.inl ⟨by rfl, ?_⟩) ?_ ?_; rotate_left
                                            · intro w'
                                              go_simp
                                              with_reducible rfl
                                            rotate_left
                                            · exact pz
                                            refine pure_ (i := 12) (N := some 112) (v := ?_) (a' := ?_) #[true, true, true, true, true, true, true, true, true, true, true, false, true, false, false, false, false, false, false, false] rfl rfl (any_of HT_.out (by kernel_rfl)) (fun _ _ _ h => h) (Or.inl ⟨by rfl, ?_⟩) ?_ ?_; rotate_left
                                            · intro w'
                                              go_simp
                                              with_reducible rfl
                                            rotate_left
                                            · exact pz
                                            refine pure_ (i := 16) (N := some 116) (v := ?_) (a' := ?_) #[true, true, true, true, true, true, true, true, true, true, true, false, true, false, false, false, true, false, false, false] rfl rfl (any_of HT_.out (by kernel_rfl)) (fun _ _ _ h => h) (Or.inl ⟨by rfl, ?_⟩) ?_ ?_; rotate_left
                                            · intro w'
                                              go_simp
                                              with_reducible rfl
                                            rotate_left
                                            · exact pz
                                            refine take_ (i := 11) (N := some 111) (v := ?_) (a' := ?_) #[true, true, true, true, true, true, true, true, true, true, true, true, true, false, false, false, true, false, false, false] rfl rfl (take_ofW HT_.out HW_.out (by kernel_rfl)) (fun _ _ _ h => h) (Or.inl ⟨by rfl, ?_⟩) hHeld ?_ ?_; rotate_left
                                            · rintro w' ⟨s0, s1, s2, s3, s4, s5, s6, s7, s8, s9, s10, s11, s12, s13⟩
                                              go_simp
                                              with_reducible rfl
                                            rotate_left
                                            · exact pz
                                            refine pure_ (i := 13) (N := some 113) (v := ?_) (a' := ?_) #[true, true, true, true, true, true, true, true, true, true, true, true, true, true, false, false, true, false, false, false] rfl rfl (any_of HT_.out (by kernel_rfl)) (fun _ _ _ h => h) (Or.inl ⟨by rfl, ?_⟩) ?_ ?_; rotate_left
                                            · intro w'
                                              go_simp
                                              with_reducible rfl
                                            rotate_left
                                            · exact pz
                                            refine pure_ (i := 14) (N := some 114) (v := ?_) (a' := ?_) #[true, true, true, true, true, true, true, true, true, true, true, true, true, true, true, false, true, false, false, false] rfl rfl (any_of HT_.out (by kernel_rfl)) (fun _ _ _ h => h) (Or.inl ⟨by rfl, ?_⟩) ?_ ?_; rotate_left
                                            · intro w'
                                              go_simp
                                              with_reducible rfl
                                            rotate_left
                                            · exact pz
                                            refine take_ (i := 15) (N := some 115) (v := ?_) (a' := ?_) #[true, true, true, true, true, true, true, true, true, true, true, true, true, true, true, true, true, false, false, false] rfl rfl (take_ofW HT_.out HW_.out (by kernel_rfl)) (fun _ _ _ h => h) (Or.inl ⟨by rfl, ?_⟩) hHeld ?_ ?_; rotate_left
                                            · rintro w' ⟨s0, s1, s2, s3, s4, s5, s6, s7, s8, s9, s10, s11, s12, s13⟩
                                              go_simp
                                              with_reducible rfl
                                            rotate_left
                                            · exact pz
                                            refine take_ (i := 17) (N := some 117) (v := ?_) (a' := ?_) #[true, true, true, true, true, true, true, true, true, true, true, true, true, true, true, true, true, true, false, false] rfl rfl (take_ofW HT_.out HW_.out (by kernel_rfl)) (fun _ _ _ h => h) (Or.inl ⟨by rfl, ?_⟩) hHeld ?_ ?_; rotate_left
                                            · rintro w' ⟨s0, s1, s2, s3, s4, s5, s6, s7, s8, s9, s10, s11, s12, s13⟩
                                              go_simp
                                              with_reducible rfl
                                            rotate_left
                                            · exact pz
                                            refine pure_ (i := 18) (N := some 118) (v := ?_) (a' := ?_) #[true, true, true, true, true, true, true, true, true, true, true, true, true, true, true, true, true, true, true, false] rfl rfl (any_of HT_.out (by kernel_rfl)) (fun _ _ _ h => h) (Or.inl ⟨by rfl, ?_⟩) ?_ ?_; rotate_left
                                            · intro w'
                                              go_simp
                                              with_reducible rfl
                                            rotate_left
                                            · exact pz
                                            refine pure_ (i := 19) (N := some 119) (v := ?_) (a' := ?_) #[true, true, true, true, true, true, true, true, true, true, true, true, true, true, true, true, true, true, true, true] rfl rfl (any_of HT_.out (by kernel_rfl)) (fun _ _ _ h => h) (Or.inl ⟨by rfl, ?_⟩) ?_ ?_; rotate_left
                                            · intro w'
                                              go_simp
                                              with_reducible rfl
                                            rotate_left
                                            · exact pz
                                            refine done_ (done_of HT_.out (by kernel_rfl)) ?_
                                            try go_wp2
                                            go_roundg kj53
                                            case measure => have := HJ2.out; have := HK2.out; have := HK3.out; have := HK4.out; have := HJ53.out; omega
                                            case rel => exact ⟨(wrap64 (x5_4 + 1)), (wrap64 (x8_4 + 1)), az, az, H', ⟨by have := HJ2.out; have := HK2.out; have := HK3.out; have := HK4.out; have := HJ53.out; omega⟩, ⟨rz HO_3.out⟩, ⟨kz BK589.out⟩, ⟨kz BK605.out⟩, ⟨b2 GE589.out GE605.out HB.out⟩⟩
                                        · replace c64 := Bool.eq_false_iff.mpr c64
                                          subst c64; replace H : (some false) = some r := (by rw [if_neg (show ¬ (false = true) by decide)] at H; exact H); obtain rfl := Option.some.inj H
                                          try go_wp2
                                          have n0_ := Aside0.mk (Kd.R_drew HO_3.out); have n1_ := Aside0.mk (blk_drew BK589.out); have n2_ := Aside0.mk (blk_drew BK605.out); have n3_ := Aside0.mk (below_drew1 HB.out); clear HO_3; clear BK589; clear BK605; clear HB; have HO_3 := n0_; have BK589 := n1_; have BK605 := n2_; have HB := n3_; clear n0_ n1_ n2_ n3_; have p606 : 0 ≤ (x8_4 : Int) := of_decide_eq_true uz; have q606 : x8_4 < (((rd_T90 l0_1 (rd t590 x6_3)).f1.f1).length : Int) := of_decide_eq_true uz; obtain ⟨ad606, e606, hx606_0, hx606_1, hx606_2, hx606_3, hx606_4⟩ := at_T103 HR604_2.out x8_4 p606 q606; have hw606_4 := hx606_4; have hw606_3 := hx606_3; have hw606_2 := hx606_2; have hw606_1 := hx606_1; have hw606_0 := hx606_0
                                          cases e606
                                          replace hx606_0 := cz HB.out hx606_0; replace hx606_1 := cz HB.out hx606_1; replace hx606_2 := cz HB.out hx606_2; replace hx606_3 := cz HB.out hx606_3; replace hx606_4 := cz HB.out hx606_4; replace p606 := eq_true p606; replace q606 := eq_true q606
                                          refine start_ (n := 20) (S := fun w' => w'.cell? ⟨gb605, 0, none⟩ = some (.bool ((rd_T90 l0_1 (rd t590 x6_3)).f1.f0)) ∧ w'.cell? ⟨gb605, 1, none⟩ = some (.slice (some ad606) ((rd_T90 l0_1 (rd t590 x6_3)).f1.f1).length c604_2) ∧ w'.cell? (ad606.add ((x8_4).toNat * 5)) = some (.int .i64 ((rd_T103 ((rd_T90 l0_1 (rd t590 x6_3)).f1.f1) x8_4).f0)) ∧ w'.cell? ⟨(ad606.add ((x8_4).toNat * 5)).block, (ad606.add ((x8_4).toNat * 5)).off + 1, none⟩ = some (.int .i64 ((rd_T103 ((rd_T90 l0_1 (rd t590 x6_3)).f1.f1) x8_4).f1.f0)) ∧ w'.cell? ⟨(ad606.add ((x8_4).toNat * 5)).block, (ad606.add ((x8_4).toNat * 5)).off + 2, none⟩ = some (.int .i64 ((rd_T103 ((rd_T90 l0_1 (rd t590 x6_3)).f1.f1) x8_4).f1.f1)) ∧ w'.cell? ⟨(ad606.add ((x8_4).toNat * 5)).block, (ad606.add ((x8_4).toNat * 5)).off + 3, none⟩ = some (.int .i64 ((rd_T103 ((rd_T90 l0_1 (rd t590 x6_3)).f1.f1) x8_4).f1.f2)) ∧ w'.cell? ⟨(ad606.add ((x8_4).toNat * 5)).block, (ad606.add ((x8_4).toNat * 5)).off + 4, none⟩ = some (.int .i64 ((rd_T103 ((rd_T90 l0_1 (rd t590 x6_3)).f1.f1) x8_4).f1.f3))) (ds := []) #[false, false, false, false, false, false, false, false, false, false, false, false, false, false, false, false, false, false, false, false] (by kernel_rfl) rfl rfl ⟨(blk_cell BK605.out 0).trans rfl, (blk_cell BK605.out 1).trans rfl, (cz HB.out hw606_0 :), (cz HB.out hw606_1 :), (cz HB.out hw606_2 :), (cz HB.out hw606_3 :), (cz HB.out hw606_4 :)⟩ (fun hHeld => ?_); refine with_tabW spec_BookOk.tab17 spec_BookOk.bits17 (fun HT_ HW_ => ?_)
                                          generalize wc.drew = w68 at HO_3 BK589 BK605 HB hx606_0 hx606_1 hx606_2 hx606_3 hx606_4 hHeld ⊢
                                          refine pure_ (i := 0) (N := some 100) (v := ?_) (a' := ?_) #[true, false, false, false, false, false, false, false, false, false, false, false, false, false, false, false, false, false, false, false] rfl rfl (any_of HT_.out (by kernel_rfl)) (fun _ _ _ h => h) (Or.inl ⟨by rfl, ?_⟩) ?_ ?_; rotate_left
                                          · intro w'
                                            go_simp
                                            with_reducible rfl
                                          rotate_left
                                          · exact pz
                                          refine pure_ (i := 1) (N := some 101) (v := ?_) (a' := ?_) #[true, true, false, false, false, false, false, false, false, false, false, false, false, false, false, false, false, false, false, false] rfl rfl (any_of HT_.out (by kernel_rfl)) (fun _ _ _ h => h) (Or.inl ⟨by rfl, ?_⟩) ?_ ?_; rotate_left
                                          · intro w'
                                            go_simp
                                            with_reducible rfl
                                          rotate_left
                                          · exact pz
                                          refine pure_ (i := 3) (N := some 103) (v := ?_) (a' := ?_) #[true, true, false, true, false, false, false, false, false, false, false, false, false, false, false, false, false, false, false, false] rfl rfl (any_of HT_.out (by kernel_rfl)) (fun _ _ _ h => h) (Or.inl ⟨by rfl, ?_⟩) ?_ ?_; rotate_left
                                          · intro w'
                                            go_simp
                                            with_reducible rfl
                                          rotate_left
                                          · exact pz
                                          refine take_ (i := 2) (N := some 102) (v := ?_) (a' := ?_) #[true, true, true, true, false, false, false, false, false, false, false, false, false, false, false, false, false, false, false, false] rfl rfl (take_ofW HT_.out HW_.out (by kernel_rfl)) (fun _ _ _ h => h) (Or.inl ⟨by rfl, ?_⟩) hHeld ?_ ?_; rotate_left
                                          · rintro w' ⟨s0, s1, s2, s3, s4, s5, s6⟩
                                            go_simp
                                            with_reducible rfl
                                          rotate_left
                                          · exact pz
                                          refine pure_ (i := 4) (N := some 104) (v := ?_) (a' := ?_) #[true, true, true, true, true, false, false, false, false, false, false, false, false, false, false, false, false, false, false, false] rfl rfl (any_of HT_.out (by kernel_rfl)) (fun _ _ _ h => h) (Or.inl ⟨by rfl, ?_⟩) ?_ ?_; rotate_left
                                          · intro w'
                                            go_simp
                                            with_reducible rfl
                                          rotate_left
                                          · exact pz
                                          refine pure_ (i := 5) (N := some 105) (v := ?_) (a' := ?_) #[true, true, true, true, true, true, false, false, false, false, false, false, false, false, false, false, false, false, false, false] rfl rfl (any_of HT_.out (by kernel_rfl)) (fun _ _ _ h => h) (Or.inl ⟨by rfl, ?_⟩) ?_ ?_; rotate_left
                                          · intro w'
                                            go_simp
                                            with_reducible rfl
                                          rotate_left
                                          · exact pz
                                          refine take_ (i := 6) (N := some 106) (v := ?_) (a' := ?_) #[true, true, true, true, true, true, true, false, false, false, false, false, false, false, false, false, false, false, false, false] rfl rfl (take_ofW HT_.out HW_.out (by kernel_rfl)) (fun _ _ _ h => h) (Or.inl ⟨by rfl, ?_⟩) hHeld ?_ ?_; rotate_left
                                          · rintro w' ⟨s0, s1, s2, s3, s4, s5, s6⟩
                                            go_simp
                                            with_reducible rfl
                                          rotate_left
                                          · exact pz
                                          refine one_ (i := 7) (N := some 107) #[true, true, true, true, true, true, true, true, false, false, false, false, false, false, false, false, false, false, false, false] rfl rfl (one_of HT_.out (by kernel_rfl)) (by decide) (fun K hK => ?_); refine goes_ Try.func87 (by kernel_rfl) rfl #[.slice (some ad603) t590.length co49, .int .i64 ((rd_T103 ((rd_T90 l0_1 (rd t590 x6_3)).f1.f1) x8_4).f0)] (by rfl) rfl rfl dz ?_
                                          with_reducible refine (spec_l7Has.calls kj53 _ _ t590 ((rd_T103 ((rd_T90 l0_1 (rd t590 x6_3)).f1.f1) x8_4).f0) false _ ?side1 ?side2 A63.out).mono ?_
                                          (case side1 => repeat (first | exact (Kd.R_reads' HO_3.out).2.2 | (with_reducible refine Kd.C_alloc ?_ _) | (with_reducible refine Kd.C_drewN ?_ _) | (with_reducible refine Kd.C_drew ?_)))
                                          (case side2 => exact (Kd.R_reads' HO_3.out).2.1)
                                          rintro e w' ⟨rfl, ⟨nd, rfl⟩⟩
                                          refine ⟨_, rfl, ?_⟩; refine hK.out _ _ ⟨(blk_cell BK605.out 0).trans rfl, (blk_cell BK605.out 1).trans rfl, (cz HB.out hw606_0 :), (cz HB.out hw606_1 :), (cz HB.out hw606_2 :), (cz HB.out hw606_3 :), (cz HB.out hw606_4 :)⟩ (fun hHeld => ?_); clear hK K; refine norm_ (a' := ?_) ?_ ?_; rotate_left
                                          · show Act.put _ (some 107) _ = _
                                            simp only [Act.put, List.setIfInBounds_toArray, List.set_cons_zero, List.set_cons_succ, i64_w, i32_w]
                                            rfl
                                          refine pure_ (i := 8) (N := some 108) (v := ?_) (a' := ?_) #[true, true, true, true, true, true, true, true, true, false, false, false, false, false, false, false, false, false, false, false] rfl rfl (any_of HT_.out (by kernel_rfl)) (fun _ _ _ h => h) (Or.inl ⟨by rfl, ?_⟩) ?_ ?_; rotate_left
                                          · intro w'
                                            go_simp
                                            with_reducible rfl
                                          rotate_left
                                          · exact pz
                                          refine pure_ (i := 9) (N := some 109) (v := ?_) (a' := ?_) #[true, true, true, true, true, true, true, true, true, true, false, false, false, false, false, false, false, false, false, false] rfl rfl (any_of HT_.out (by kernel_rfl)) (fun _ _ _ h => h) (Or.inl ⟨by rfl, ?_⟩) ?_ ?_; rotate_left
                                          · intro w'
                                            go_simp
                                            with_reducible rfl
                                          rotate_left
                                          · exact pz
                                          refine pure_ (i := 10) (N := some 110) (v := undef) (a' := ?_) #[true, true, true, true, true, true, true, true, true, true, true, false, false, false, false, false, false, false, false, false] rfl rfl (any_of HT_.out (by kernel_rfl)) (fun _ _ _ h => h) (Or.inr ⟨by rfl, rfl⟩) ?_ ?_; rotate_left
                                          · exact pz
                                          refine pure_ (i := 11) (N := some 111) (v := undef) (a' := ?_) #[true, true, true, true, true, true, true, true, true, true, true, true, false, false, false, false, false, false, false, false] rfl rfl (any_of HT_.out (by kernel_rfl)) (fun _ _ _ h => h) (Or.inr ⟨by rfl, rfl⟩) ?_ ?_; rotate_left
                                          · exact pz
                                          refine pure_ (i := 12) (N := some 112) (v := undef) (a' := ?_) #[true, true, true, true, true, true, true, true, true, true, true, true, true, false, false, false, false, false, false, false] rfl rfl (any_of HT_.out (by kernel_rfl)) (fun _ _ _ h => h) (Or.inr ⟨by rfl, rfl⟩) ?_ ?_; rotate_left
                                          · exact pz
                                          refine pure_ (i := 13) (N := some 113) (v := undef) (a' := ?_) #[true, true, true, true, true, true, true, true, true, true, true, true, true, true, false, false, false, false, false, false] rfl rfl (any_of HT_.out (by kernel_rfl)) (fun _ _ _ h => h) (Or.inr ⟨by rfl, rfl⟩) ?_ ?_; rotate_left
                                          · exact pz
                                          refine pure_ (i := 14) (N := some 114) (v := undef) (a' := ?_) #[true, true, true, true, true, true, true, true, true, true, true, true, true, true, true, false, false, false, false, false] rfl rfl (any_of HT_.out (by kernel_rfl)) (fun _ _ _ h => h) (Or.inr ⟨by rfl, rfl⟩) ?_ ?_; rotate_left
                                          · exact pz
                                          refine pure_ (i := 15) (N := some 115) (v := undef) (a' := ?_) #[true, true, true, true, true, true, true, true, true, true, true, true, true, true, true, true, false, false, false, false] rfl rfl (any_of HT_.out (by kernel_rfl)) (fun _ _ _ h => h) (Or.inr ⟨by rfl, rfl⟩) ?_ ?_; rotate_left
                                          · exact pz
                                          refine pure_ (i := 16) (N := some 116) (v := undef) (a' := ?_) #[true, true, true, true, true, true, true, true, true, true, true, true, true, true, true, true, true, false, false, false] rfl rfl (any_of HT_.out (by kernel_rfl)) (fun _ _ _ h => h) (Or.inr ⟨by rfl, rfl⟩) ?_ ?_; rotate_left
                                          · exact pz
                                          refine pure_ (i := 17) (N := some 117) (v := undef) (a' := ?_) #[true, true, true, true, true, true, true, true, true, true, true, true, true, true, true, true, true, true, false, false] rfl rfl (any_of HT_.out (by kernel_rfl)) (fun _ _ _ h => h) (Or.inr ⟨by rfl, rfl⟩) ?_ ?_; rotate_left
                                          · exact pz
                                          refine pure_ (i := 18) (N := some 118) (v := undef) (a' := ?_) #[true, true, true, true, true, true, true, true, true, true, true, true, true, true, true, true, true, true, true, false] rfl rfl (any_of HT_.out (by kernel_rfl)) (fun _ _ _ h => h) (Or.inr ⟨by rfl, rfl⟩) ?_ ?_; rotate_left
                                          · exact pz
                                          refine pure_ (i := 19) (N := some 119) (v := ?_) (a' := ?_) #[true, true, true, true, true, true, true, true, true, true, true, true, true, true, true, true, true, true, true, true] rfl rfl (any_of HT_.out (by kernel_rfl)) (fun _ _ _ h => h) (Or.inl ⟨by rfl, ?_⟩) ?_ ?_; rotate_left
                                          · intro w'
                                            go_simp
                                            with_reducible rfl
                                          rotate_left
                                          · exact pz
                                          refine done_ (done_of HT_.out (by kernel_rfl)) ?_
                                          try go_wp2
                                          go_ret; exact ⟨ez, b2 GE589.out GE605.out HB.out⟩
                                      · rw [if_neg c62] at H
                                        exact absurd H (by simp)
                                    · rw [if_neg c61] at H
                                      exact absurd H (by simp)
                                  · replace c60 := Bool.eq_false_iff.mpr c60
                                    subst c60; replace H : (spec_BookOk.l1 kj53 t590 x5_4 (wrap64 (x6_3 + 1)) a0_0 l0_1) = some r := (by rw [if_neg (show ¬ (false = true) by decide)] at H; exact H); have H' := Aside0.mk H; clear H; go_wp2; go_roundg kj53
                                    case measure => have := HJ2.out; have := HK2.out; have := HK3.out; have := HK4.out; have := HJ53.out; omega
                                    case rel => exact ⟨(x5_4), (wrap64 (x6_3 + 1)), az, az, H', ⟨by have := HJ2.out; have := HK2.out; have := HK3.out; have := HK4.out; have := HJ53.out; omega⟩, ⟨rz HO_3.out⟩, ⟨kz BK589.out⟩, ⟨b2 GE589.out GE605.out HB.out⟩⟩
                        · rw [if_neg c48] at H
                          exact absurd H (by simp)
                      · rw [if_neg c47] at H
                        exact absurd H (by simp)
                    · rw [if_neg c46] at H
                      exact absurd H (by simp)
                  · rw [if_neg c45] at H
                    have c45b0 : decide (x6_3 < (t590.length : Int)) = false := decide_eq_false c45; clear c45; obtain rfl := Option.some.inj H; obtain ⟨Ao69, co69, eo69⟩ := Kd.R_slice HO_3.out; subst eo69; go_wp2; go_ret; exact ⟨ez, b1 GE589.out HB.out⟩

end Go.Proofs.Ytngjaajcdbodeaa.All
