/- The texts on which the row FnExactSearch rests, part 6: contracts of the functions that it reaches and plain laws of what they compute. No condition. -/
import Derived.Test.YtngjaajcdbodeaaMgFnExactSearchW1
import Derived.Deep.Slices
import Derived.ChangeSame
import Derived.ChangeArms
import Derived.KernelRfl
import Derived.Test.YtngjaajcdbodeaaMgFnExactSearch1
import Derived.Test.YtngjaajcdbodeaaMgFnExactSearch2
import Derived.Test.YtngjaajcdbodeaaMgFnExactSearch3
import Derived.Test.YtngjaajcdbodeaaMgFnExactSearch4
import Derived.Test.YtngjaajcdbodeaaMgFnExactSearch5
/- The law FnExactSearch as a chain over the contracts of what it calls. No condition. -/
namespace Go.Proofs.Ytngjaajcdbodeaa.All
open Go.RowKit Go.Proofs.YtngjaajcdbodeaaW.PrintWords Go.Proofs.YtngjaajcdbodeaaW.PrintLast Go.Proofs.YtngjaajcdbodeaaW.PrintMore Go.Proofs.Ytngjaajcdbodeaa.Sq
set_option linter.unusedVariables false
set_option linter.unusedSimpArgs false

/-! ### laws_FnExactSearch -/
def laws_FnExactSearch.f (k : Nat) (a0_0 : Int) (l0_1 : List (S118)) (a1_0 : Int) (a1_1 : Int) (a1_2 : Int) (a1_3 : Int) : Option Bool := ((laws_szBook.f k a0_0 l0_1 1048576).bind fun r15_0 => (if r15_0 < 0 then some true else ((laws_toBook.f k a0_0 l0_1).bind fun (r19_0, r19_1) => ((laws_toBox.f a1_0 a1_1 a1_2 a1_3).bind fun (r21_0, r21_1, r21_2, r21_3) => ((spec_Search.f k r19_0 r19_1 r21_0 r21_1 r21_2 r21_3).bind fun r22_0 => ((laws_toBook.f k a0_0 l0_1).bind fun (r24_0, r24_1) => ((laws_toBox.f a1_0 a1_1 a1_2 a1_3).bind fun (r27_0, r27_1, r27_2, r27_3) => ((impl_Search.f k r24_0 r24_1 r27_0 r27_1 r27_2 r27_3).bind fun r28_0 => ((laws_eqItemS.f k r28_0 r22_0).bind fun r31_0 => (if r31_0 = true then ((laws_toBook.f k a0_0 l0_1).bind fun (r35_0, r35_1) => ((laws_eqBook.f k r24_0 r24_1 r35_0 r35_1).bind fun r36_0 => (if r36_0 = true then ((laws_markBook.f k r24_0 r24_1 1).bind fun (r40_0, r40_1) => ((laws_eqItemS.f k r28_0 r22_0).bind fun r46_0 => (if ¬ r40_0 < 0 then (if r46_0 = true then ((laws_markItemS.f k r28_0 1).bind fun (r51_0, r51_1) => ((laws_heldItemS.f k r51_1 1).bind fun r54_0 => (if ¬ r54_0 < 0 then (if r54_0 = r51_0 then ((laws_toBook.f k a0_0 l0_1).bind fun (r61_0, r61_1) => ((laws_toBox.f a1_0 a1_1 a1_2 a1_3).bind fun (r63_0, r63_1, r63_2, r63_3) => ((impl_Search.f k r61_0 r61_1 r63_0 r63_1 r63_2 r63_3).bind fun r64_0 => ((laws_eqItemS.f k r64_0 r22_0).bind fun r67_0 => (if r67_0 = true then ((laws_heldItemS.f k r51_1 1).bind fun r71_0 => (if ¬ r71_0 < 0 then (if r71_0 = r51_0 then some true else none) else none)) else none))))) else none) else none))) else none) else none))) else none))) else none))))))))))
set_option maxHeartbeats 4000000 in
set_option maxRecDepth 100000 in
theorem laws_FnExactSearch.calls (k : Nat) (a0_0 : Int) (A0_1 : Option Addr) (c0_1 : Nat) (l0_1 : List (S118)) (a1_0 : Int) (a1_1 : Int) (a1_2 : Int) (a1_3 : Int) (r : Bool) (w : World) (hr0_1 : Kd.C k118 w A0_1 l0_1.length l0_1) (hc0_1 : l0_1.length ≤ c0_1) (h : laws_FnExactSearch.f k a0_0 l0_1 a1_0 a1_1 a1_2 a1_3 = some r) :
    Calls Try.prog 12 #[.agg #[.int .i64 a0_0, .slice A0_1 l0_1.length c0_1], .agg #[.int .i64 a1_0, .int .i64 a1_1, .int .i64 a1_2, .int .i64 a1_3]] w fun e w' => e = .returned (.bool r) ∧ Below w.heap.size w w' := by
  have hu24 := Try.underlying24; have hu41 := Try.underlying41; have hu49 := Try.underlying49; have HR0_1 := Aside0.mk hr0_1; have HC0_1 := Aside0.mk hc0_1; clear hr0_1 hc0_1; obtain ⟨T0, hT0⟩ : ∃ n_, n_ = w.heap.size := ⟨_, rfl⟩; have HT := Aside0.mk (Nat.le_of_eq hT0); have TB0 := Aside0.mk (show w.heap.size ≤ T0 from Nat.le_of_eq hT0.symm); clear hT0; have HB := Aside0.mk (Below.refl w.heap.size w); have H := h; clear h; unfold laws_FnExactSearch.f at H; obtain ⟨r15_0, E15_, H⟩ := Option.bind_eq_some_iff.mp H; have E15 := Aside0.mk E15_; clear E15_
  by_cases c17 : r15_0 < 0
  · rw [if_pos c17] at H
    have c17b : decide (r15_0 < 0) = true := decide_eq_true c17; clear c17; obtain rfl := Option.some.inj H
    go_enter Try.func12, Try.ntmps12
    go_wp2_with (first
      | ((with_reducible refine gate_dst (N := 2) rfl ?_); refine box_event ?hg (N := 2) ?hd (cs := #[.int .i64 a0_0, .slice A0_1 l0_1.length c0_1]) (t := 41) ?hr ?_; (case hd => rfl); (case hg => rfl); (case hr => first | (go_simp; done) | (go_simp; rfl)); intro g2 hg W1 hbox hb; have hle_ : T0 ≤ g2 := (by rw [hg]; exact HT.out); have hlt_ : g2 < W1.heap.size := blk_lt hbox; have nHB_ := Aside0.mk (below_step HB.out hb); have nHT_ := Aside0.mk (Nat.le_trans HT.out hb.size); clear HB HT; have HB := nHB_; have HT := nHT_; clear nHB_ nHT_; obtain ⟨T1, hT1⟩ : ∃ n_, n_ = W1.heap.size := ⟨_, rfl⟩; have ORD1 := Aside0.mk (show T0 ≤ T1 from by rw [hT1]; exact HT.out); clear HT; have HT := Aside0.mk (Nat.le_of_eq hT1); have BK2 := Aside0.mk hbox; have GB2 := Aside0.mk (show T0 ≤ g2 ∧ g2 < T1 from ⟨hle_, by rw [hT1]; exact hlt_⟩); clear hb hg hbox hle_ hlt_ hT1; have hk2_0 : W1.cell? ⟨g2, 0, none⟩ = some (.int .i64 a0_0) := (blk_cell BK2.out 0).trans rfl; have hk2_1 : W1.cell? ⟨g2, 1, none⟩ = some (.slice A0_1 l0_1.length c0_1) := (blk_cell BK2.out 1).trans rfl)
      | ((with_reducible refine gate_dst (N := 3) rfl ?_); refine box_event ?hg (N := 3) ?hd (cs := #[.int .i64 a1_0, .int .i64 a1_1, .int .i64 a1_2, .int .i64 a1_3]) (t := 24) ?hr ?_; (case hd => rfl); (case hg => rfl); (case hr => first | (go_simp; done) | (go_simp; rfl)); intro g3 hg W2 hbox hb; have hle_ : T1 ≤ g3 := (by rw [hg]; exact HT.out); have hlt_ : g3 < W2.heap.size := blk_lt hbox; clear hk2_0 hk2_1; have nB2_ := Aside0.mk (blk_below BK2.out hb); have nHB_ := Aside0.mk (below_step HB.out hb); have nHT_ := Aside0.mk (Nat.le_trans HT.out hb.size); clear BK2 HB HT; have BK2 := nB2_; have HB := nHB_; have HT := nHT_; clear nB2_ nHB_ nHT_; obtain ⟨T2, hT2⟩ : ∃ n_, n_ = W2.heap.size := ⟨_, rfl⟩; have ORD2 := Aside0.mk (show T1 ≤ T2 from by rw [hT2]; exact HT.out); clear HT; have HT := Aside0.mk (Nat.le_of_eq hT2); have BK3 := Aside0.mk hbox; have GB3 := Aside0.mk (show T1 ≤ g3 ∧ g3 < T2 from ⟨hle_, by rw [hT2]; exact hlt_⟩); clear hb hg hbox hle_ hlt_ hT2; have hk2_0 : W2.cell? ⟨g2, 0, none⟩ = some (.int .i64 a0_0) := (blk_cell BK2.out 0).trans rfl; have hk2_1 : W2.cell? ⟨g2, 1, none⟩ = some (.slice A0_1 l0_1.length c0_1) := (blk_cell BK2.out 1).trans rfl; have hk3_0 : W2.cell? ⟨g3, 0, none⟩ = some (.int .i64 a1_0) := (blk_cell BK3.out 0).trans rfl; have hk3_1 : W2.cell? ⟨g3, 1, none⟩ = some (.int .i64 a1_1) := (blk_cell BK3.out 1).trans rfl; have hk3_2 : W2.cell? ⟨g3, 2, none⟩ = some (.int .i64 a1_2) := (blk_cell BK3.out 2).trans rfl; have hk3_3 : W2.cell? ⟨g3, 3, none⟩ = some (.int .i64 a1_3) := (blk_cell BK3.out 3).trans rfl)
      | ((with_reducible refine gate_dst (N := 15) rfl ?_); refine goesL_ (some 15) rfl rfl Try.func23 (by kernel_rfl) rfl #[.agg #[.int .i64 a0_0, .slice A0_1 l0_1.length c0_1], .int .i64 1048576] rfl dz ?_; refine (laws_szBook.calls k a0_0 _ _ l0_1 1048576 r15_0 _ (Kd.C_below HR0_1.out HB.out) HC0_1.out E15.out).mono ?_; rintro e W3 ⟨rfl, hb⟩; refine ⟨_, rfl, ?_⟩; clear hk2_0 hk2_1; clear hk3_0 hk3_1 hk3_2 hk3_3; have nB2_ := Aside0.mk (blk_below BK2.out hb); have nB3_ := Aside0.mk (blk_below BK3.out hb); have nHB_ := Aside0.mk (below_step HB.out hb); have nHT_ := Aside0.mk (Nat.le_trans HT.out hb.size); clear BK2 BK3 HB HT; have BK2 := nB2_; have BK3 := nB3_; have HB := nHB_; have HT := nHT_; clear nB2_ nB3_ nHB_ nHT_; clear hb; have hk2_0 : W3.cell? ⟨g2, 0, none⟩ = some (.int .i64 a0_0) := (blk_cell BK2.out 0).trans rfl; have hk2_1 : W3.cell? ⟨g2, 1, none⟩ = some (.slice A0_1 l0_1.length c0_1) := (blk_cell BK2.out 1).trans rfl; have hk3_0 : W3.cell? ⟨g3, 0, none⟩ = some (.int .i64 a1_0) := (blk_cell BK3.out 0).trans rfl; have hk3_1 : W3.cell? ⟨g3, 1, none⟩ = some (.int .i64 a1_1) := (blk_cell BK3.out 1).trans rfl; have hk3_2 : W3.cell? ⟨g3, 2, none⟩ = some (.int .i64 a1_2) := (blk_cell BK3.out 2).trans rfl; have hk3_3 : W3.cell? ⟨g3, 3, none⟩ = some (.int .i64 a1_3) := (blk_cell BK3.out 3).trans rfl))
    go_ret; exact ⟨rfl, HB.out⟩
  rw [if_neg c17] at H; have c17b : decide (r15_0 < 0) = false := decide_eq_false c17; clear c17; obtain ⟨⟨r19_0, r19_1⟩, E19_, H⟩ := Option.bind_eq_some_iff.mp H; have E19 := Aside0.mk E19_; clear E19_
  try dsimp only at H
  obtain ⟨⟨r21_0, r21_1, r21_2, r21_3⟩, E21_, H⟩ := Option.bind_eq_some_iff.mp H; have E21 := Aside0.mk E21_; clear E21_
  try dsimp only at H
  obtain ⟨r22_0, E22_, H⟩ := Option.bind_eq_some_iff.mp H; have E22 := Aside0.mk E22_; clear E22_; obtain ⟨⟨r24_0, r24_1⟩, E24_, H⟩ := Option.bind_eq_some_iff.mp H; have E24 := Aside0.mk E24_; clear E24_
  try dsimp only at H
  obtain ⟨⟨r27_0, r27_1, r27_2, r27_3⟩, E27_, H⟩ := Option.bind_eq_some_iff.mp H; have E27 := Aside0.mk E27_; clear E27_
  try dsimp only at H
  obtain ⟨r28_0, E28_, H⟩ := Option.bind_eq_some_iff.mp H; have E28 := Aside0.mk E28_; clear E28_; obtain ⟨r31_0, E31_, H⟩ := Option.bind_eq_some_iff.mp H; have E31 := Aside0.mk E31_; clear E31_
  by_cases F32_1 : r31_0 = true
  rotate_left
  · rw [if_neg F32_1] at H
    exact absurd H (by simp)
  rw [if_pos F32_1] at H; subst F32_1; obtain ⟨⟨r35_0, r35_1⟩, E35_, H⟩ := Option.bind_eq_some_iff.mp H; have E35 := Aside0.mk E35_; clear E35_
  try dsimp only at H
  obtain ⟨r36_0, E36_, H⟩ := Option.bind_eq_some_iff.mp H; have E36 := Aside0.mk E36_; clear E36_
  by_cases F37_2 : r36_0 = true
  rotate_left
  · rw [if_neg F37_2] at H
    exact absurd H (by simp)
  rw [if_pos F37_2] at H; subst F37_2; obtain ⟨⟨r40_0, r40_1⟩, E40_, H⟩ := Option.bind_eq_some_iff.mp H; have E40 := Aside0.mk E40_; clear E40_
  try dsimp only at H
  obtain ⟨r46_0, E46_, H⟩ := Option.bind_eq_some_iff.mp H; have E46 := Aside0.mk E46_; clear E46_
  by_cases F48_3 : ¬ r40_0 < 0
  rotate_left
  · rw [if_neg F48_3] at H
    exact absurd H (by simp)
  rw [if_pos F48_3] at H; have F48_3b : decide (r40_0 < 0) = false := decide_eq_false F48_3; clear F48_3
  by_cases F48_4 : r46_0 = true
  rotate_left
  · rw [if_neg F48_4] at H
    exact absurd H (by simp)
  rw [if_pos F48_4] at H; subst F48_4; obtain ⟨⟨r51_0, r51_1⟩, E51_, H⟩ := Option.bind_eq_some_iff.mp H; have E51 := Aside0.mk E51_; clear E51_
  try dsimp only at H
  obtain ⟨r54_0, E54_, H⟩ := Option.bind_eq_some_iff.mp H; have E54 := Aside0.mk E54_; clear E54_
  by_cases F56_5 : ¬ r54_0 < 0
  rotate_left
  · rw [if_neg F56_5] at H
    exact absurd H (by simp)
  rw [if_pos F56_5] at H; have F56_5b : decide (r54_0 < 0) = false := decide_eq_false F56_5; clear F56_5
  by_cases F59_6 : r54_0 = r51_0
  rotate_left
  · rw [if_neg F59_6] at H
    exact absurd H (by simp)
  rw [if_pos F59_6] at H
  have F59_6a : (r54_0 != r51_0) = false := by simp [F59_6]
  have F59_6b : (r54_0 == r51_0) = true := by simp [F59_6]
  have F59_6c : decide (r54_0 = r51_0) = true := by simp [F59_6]
  clear F59_6; obtain ⟨⟨r61_0, r61_1⟩, E61_, H⟩ := Option.bind_eq_some_iff.mp H; have E61 := Aside0.mk E61_; clear E61_
  try dsimp only at H
  obtain ⟨⟨r63_0, r63_1, r63_2, r63_3⟩, E63_, H⟩ := Option.bind_eq_some_iff.mp H; have E63 := Aside0.mk E63_; clear E63_
  try dsimp only at H
  obtain ⟨r64_0, E64_, H⟩ := Option.bind_eq_some_iff.mp H; have E64 := Aside0.mk E64_; clear E64_; obtain ⟨r67_0, E67_, H⟩ := Option.bind_eq_some_iff.mp H; have E67 := Aside0.mk E67_; clear E67_
  by_cases F68_7 : r67_0 = true
  rotate_left
  · rw [if_neg F68_7] at H
    exact absurd H (by simp)
  rw [if_pos F68_7] at H; subst F68_7; obtain ⟨r71_0, E71_, H⟩ := Option.bind_eq_some_iff.mp H; have E71 := Aside0.mk E71_; clear E71_
  by_cases F73_8 : ¬ r71_0 < 0
  rotate_left
  · rw [if_neg F73_8] at H
    exact absurd H (by simp)
  rw [if_pos F73_8] at H; have F73_8b : decide (r71_0 < 0) = false := decide_eq_false F73_8; clear F73_8
  by_cases F76_9 : r71_0 = r51_0
  rotate_left
  · rw [if_neg F76_9] at H
    exact absurd H (by simp)
  rw [if_pos F76_9] at H
  have F76_9a : (r71_0 != r51_0) = false := by simp [F76_9]
  have F76_9b : (r71_0 == r51_0) = true := by simp [F76_9]
  have F76_9c : decide (r71_0 = r51_0) = true := by simp [F76_9]
  clear F76_9; obtain rfl := Option.some.inj H; clear H
  go_enter Try.func12, Try.ntmps12
  go_wp2_with (first
    | ((with_reducible refine gate_dst (N := 2) rfl ?_); refine box_event ?hg (N := 2) ?hd (cs := #[.int .i64 a0_0, .slice A0_1 l0_1.length c0_1]) (t := 41) ?hr ?_; (case hd => rfl); (case hg => rfl); (case hr => first | (go_simp; done) | (go_simp; rfl)); intro g2 hg W1 hbox hb; have hle_ : T0 ≤ g2 := (by rw [hg]; exact HT.out); have hlt_ : g2 < W1.heap.size := blk_lt hbox; have nHB_ := Aside0.mk (below_step HB.out hb); have nHT_ := Aside0.mk (Nat.le_trans HT.out hb.size); clear HB HT; have HB := nHB_; have HT := nHT_; clear nHB_ nHT_; obtain ⟨T1, hT1⟩ : ∃ n_, n_ = W1.heap.size := ⟨_, rfl⟩; have ORD1 := Aside0.mk (show T0 ≤ T1 from by rw [hT1]; exact HT.out); clear HT; have HT := Aside0.mk (Nat.le_of_eq hT1); have BK2 := Aside0.mk hbox; have GB2 := Aside0.mk (show T0 ≤ g2 ∧ g2 < T1 from ⟨hle_, by rw [hT1]; exact hlt_⟩); clear hb hg hbox hle_ hlt_ hT1; have hk2_0 : W1.cell? ⟨g2, 0, none⟩ = some (.int .i64 a0_0) := (blk_cell BK2.out 0).trans rfl; have hk2_1 : W1.cell? ⟨g2, 1, none⟩ = some (.slice A0_1 l0_1.length c0_1) := (blk_cell BK2.out 1).trans rfl)
    | ((with_reducible refine gate_dst (N := 3) rfl ?_); refine box_event ?hg (N := 3) ?hd (cs := #[.int .i64 a1_0, .int .i64 a1_1, .int .i64 a1_2, .int .i64 a1_3]) (t := 24) ?hr ?_; (case hd => rfl); (case hg => rfl); (case hr => first | (go_simp; done) | (go_simp; rfl)); intro g3 hg W2 hbox hb; have hle_ : T1 ≤ g3 := (by rw [hg]; exact HT.out); have hlt_ : g3 < W2.heap.size := blk_lt hbox; clear hk2_0 hk2_1; have nB2_ := Aside0.mk (blk_below BK2.out hb); have nHB_ := Aside0.mk (below_step HB.out hb); have nHT_ := Aside0.mk (Nat.le_trans HT.out hb.size); clear BK2 HB HT; have BK2 := nB2_; have HB := nHB_; have HT := nHT_; clear nB2_ nHB_ nHT_; obtain ⟨T2, hT2⟩ : ∃ n_, n_ = W2.heap.size := ⟨_, rfl⟩; have ORD2 := Aside0.mk (show T1 ≤ T2 from by rw [hT2]; exact HT.out); clear HT; have HT := Aside0.mk (Nat.le_of_eq hT2); have BK3 := Aside0.mk hbox; have GB3 := Aside0.mk (show T1 ≤ g3 ∧ g3 < T2 from ⟨hle_, by rw [hT2]; exact hlt_⟩); clear hb hg hbox hle_ hlt_ hT2; have hk2_0 : W2.cell? ⟨g2, 0, none⟩ = some (.int .i64 a0_0) := (blk_cell BK2.out 0).trans rfl; have hk2_1 : W2.cell? ⟨g2, 1, none⟩ = some (.slice A0_1 l0_1.length c0_1) := (blk_cell BK2.out 1).trans rfl; have hk3_0 : W2.cell? ⟨g3, 0, none⟩ = some (.int .i64 a1_0) := (blk_cell BK3.out 0).trans rfl; have hk3_1 : W2.cell? ⟨g3, 1, none⟩ = some (.int .i64 a1_1) := (blk_cell BK3.out 1).trans rfl; have hk3_2 : W2.cell? ⟨g3, 2, none⟩ = some (.int .i64 a1_2) := (blk_cell BK3.out 2).trans rfl; have hk3_3 : W2.cell? ⟨g3, 3, none⟩ = some (.int .i64 a1_3) := (blk_cell BK3.out 3).trans rfl)
    | ((with_reducible refine gate_dst (N := 15) rfl ?_); refine goesL_ (some 15) rfl rfl Try.func23 (by kernel_rfl) rfl #[.agg #[.int .i64 a0_0, .slice A0_1 l0_1.length c0_1], .int .i64 1048576] rfl dz ?_; refine (laws_szBook.calls k a0_0 _ _ l0_1 1048576 r15_0 _ (Kd.C_below HR0_1.out HB.out) HC0_1.out E15.out).mono ?_; rintro e W3 ⟨rfl, hb⟩; refine ⟨_, rfl, ?_⟩; clear hk2_0 hk2_1; clear hk3_0 hk3_1 hk3_2 hk3_3; have nB2_ := Aside0.mk (blk_below BK2.out hb); have nB3_ := Aside0.mk (blk_below BK3.out hb); have nHB_ := Aside0.mk (below_step HB.out hb); have nHT_ := Aside0.mk (Nat.le_trans HT.out hb.size); clear BK2 BK3 HB HT; have BK2 := nB2_; have BK3 := nB3_; have HB := nHB_; have HT := nHT_; clear nB2_ nB3_ nHB_ nHT_; clear hb; have hk2_0 : W3.cell? ⟨g2, 0, none⟩ = some (.int .i64 a0_0) := (blk_cell BK2.out 0).trans rfl; have hk2_1 : W3.cell? ⟨g2, 1, none⟩ = some (.slice A0_1 l0_1.length c0_1) := (blk_cell BK2.out 1).trans rfl; have hk3_0 : W3.cell? ⟨g3, 0, none⟩ = some (.int .i64 a1_0) := (blk_cell BK3.out 0).trans rfl; have hk3_1 : W3.cell? ⟨g3, 1, none⟩ = some (.int .i64 a1_1) := (blk_cell BK3.out 1).trans rfl; have hk3_2 : W3.cell? ⟨g3, 2, none⟩ = some (.int .i64 a1_2) := (blk_cell BK3.out 2).trans rfl; have hk3_3 : W3.cell? ⟨g3, 3, none⟩ = some (.int .i64 a1_3) := (blk_cell BK3.out 3).trans rfl))
  clear hk2_0 hk2_1; clear hk3_0 hk3_1 hk3_2 hk3_3; have nB2_ := Aside0.mk (blk_drew BK2.out); have nB3_ := Aside0.mk (blk_drew BK3.out); have nHB_ := Aside0.mk (below_drew1 HB.out); have nHT_ := Aside0.mk (show T2 ≤ W3.drew.heap.size from HT.out); clear BK2 BK3 HB HT; have BK2 := nB2_; have BK3 := nB3_; have HB := nHB_; have HT := nHT_; clear nB2_ nB3_ nHB_ nHT_; refine start_ (n := 6) (S := fun w' => w'.cell? ⟨g2, 0, none⟩ = some (.int .i64 a0_0) ∧ w'.cell? ⟨g2, 1, none⟩ = some (.slice A0_1 l0_1.length c0_1) ∧ w'.cell? ⟨g3, 0, none⟩ = some (.int .i64 a1_0) ∧ w'.cell? ⟨g3, 1, none⟩ = some (.int .i64 a1_1) ∧ w'.cell? ⟨g3, 2, none⟩ = some (.int .i64 a1_2) ∧ w'.cell? ⟨g3, 3, none⟩ = some (.int .i64 a1_3)) (ds := []) #[false, false, false, false, false, false] (by kernel_rfl) rfl rfl ⟨(blk_cell BK2.out 0).trans rfl, (blk_cell BK2.out 1).trans rfl, (blk_cell BK3.out 0).trans rfl, (blk_cell BK3.out 1).trans rfl, (blk_cell BK3.out 2).trans rfl, (blk_cell BK3.out 3).trans rfl⟩ (fun hHeld => ?_)
  generalize W3.drew = W4 at HB HT BK2 BK3 hHeld ⊢
  refine take_ (i := 0) (N := some 18) (v := ?_) (a' := ?_) #[true, false, false, false, false, false] rfl rfl (by kernel_rfl) (fun _ _ _ h => h) (Or.inl ⟨by rfl, ?_⟩) hHeld ?_ ?_; rotate_left
  · rintro w' ⟨s0, s1, s2, s3, s4, s5⟩
    go_simp
    with_reducible rfl
  rotate_left
  · exact pz
  refine take_ (i := 2) (N := some 20) (v := ?_) (a' := ?_) #[true, false, true, false, false, false] rfl rfl (by kernel_rfl) (fun _ _ _ h => h) (Or.inl ⟨by rfl, ?_⟩) hHeld ?_ ?_; rotate_left
  · rintro w' ⟨s0, s1, s2, s3, s4, s5⟩
    go_simp
    with_reducible rfl
  rotate_left
  · exact pz
  refine one_ (i := 1) (N := some 19) #[true, true, true, false, false, false] rfl rfl (by kernel_rfl) (by decide) (fun K hK => ?_); refine goes_ Try.func26 (by kernel_rfl) rfl #[.agg #[.int .i64 a0_0, .slice A0_1 l0_1.length c0_1]] (by rfl) rfl rfl dz ?_; refine (laws_toBook.calls k a0_0 _ _ l0_1 r19_0 r19_1 _ (Kd.C_below HR0_1.out HB.out) HC0_1.out E19.out).mono ?_
  rintro e W5 ⟨v19, rfl, ho, hb⟩
  refine ⟨_, rfl, ?_⟩; have nOn_ := Kd.S_lower (Kd.S_bound ho) HB.out.size; have hle_ := HT.out; have nB2_ := Aside0.mk (blk_below BK2.out hb); have nB3_ := Aside0.mk (blk_below BK3.out hb); have nHB_ := Aside0.mk (below_step HB.out hb); have nHT_ := Aside0.mk (Nat.le_trans HT.out hb.size); clear BK2 BK3 HB HT; have BK2 := nB2_; have BK3 := nB3_; have HB := nHB_; have HT := nHT_; clear nB2_ nB3_ nHB_ nHT_; have HO19 := Aside0.mk (Kd.S_mono (ok' := fun k_ => T2 ≤ k_) nOn_ (fun k_ hk_ => Nat.le_trans hle_ hk_.2.1)); clear nOn_ hle_ ho; obtain ⟨Ao19, co19, eo19⟩ := Kd.S_slice HO19.out; subst eo19; clear hb; refine hK.out _ _ ⟨(blk_cell BK2.out 0).trans rfl, (blk_cell BK2.out 1).trans rfl, (blk_cell BK3.out 0).trans rfl, (blk_cell BK3.out 1).trans rfl, (blk_cell BK3.out 2).trans rfl, (blk_cell BK3.out 3).trans rfl⟩ (fun hHeld => ?_); clear hK K; refine norm_ (a' := ?_) ?_ ?_; rotate_left
  · show Act.put _ (some 19) _ = _
    simp only [Act.put, List.setIfInBounds_toArray, List.set_cons_zero, List.set_cons_succ, i64_w, i32_w]
    rfl
  refine one_ (i := 3) (N := some 21) #[true, true, true, true, false, false] rfl rfl (by kernel_rfl) (by decide) (fun K hK => ?_); refine goes_ Try.func48 (by kernel_rfl) rfl #[.agg #[.int .i64 a1_0, .int .i64 a1_1, .int .i64 a1_2, .int .i64 a1_3]] (by rfl) rfl rfl dz ?_; refine (laws_toBox.calls a1_0 a1_1 a1_2 a1_3 r21_0 r21_1 r21_2 r21_3 _ E21.out).mono ?_
  rintro e W6 ⟨rfl, hb⟩
  refine ⟨_, rfl, ?_⟩; have nB2_ := Aside0.mk (blk_below BK2.out hb); have nB3_ := Aside0.mk (blk_below BK3.out hb); have nO19_ := Aside0.mk (Kd.S_below HO19.out hb); have nHB_ := Aside0.mk (below_step HB.out hb); have nHT_ := Aside0.mk (Nat.le_trans HT.out hb.size); clear BK2 BK3 HO19 HB HT; have BK2 := nB2_; have BK3 := nB3_; have HO19 := nO19_; have HB := nHB_; have HT := nHT_; clear nB2_ nB3_ nO19_ nHB_ nHT_; clear hb; refine hK.out _ _ ⟨(blk_cell BK2.out 0).trans rfl, (blk_cell BK2.out 1).trans rfl, (blk_cell BK3.out 0).trans rfl, (blk_cell BK3.out 1).trans rfl, (blk_cell BK3.out 2).trans rfl, (blk_cell BK3.out 3).trans rfl⟩ (fun hHeld => ?_); clear hK K; refine norm_ (a' := ?_) ?_ ?_; rotate_left
  · show Act.put _ (some 21) _ = _
    simp only [Act.put, List.setIfInBounds_toArray, List.set_cons_zero, List.set_cons_succ, i64_w, i32_w]
    rfl
  refine one_ (i := 4) (N := some 22) #[true, true, true, true, true, false] rfl rfl (by kernel_rfl) (by decide) (fun K hK => ?_); refine goes_ Try.func53 (by kernel_rfl) rfl #[.agg #[.int .i64 r19_0, .slice Ao19 r19_1.length co19], .agg #[.int .i64 r21_0, .int .i64 r21_1, .int .i64 r21_2, .int .i64 r21_3]] (by rfl) rfl rfl dz ?_; refine (spec_Search.calls k r19_0 _ _ r19_1 r21_0 r21_1 r21_2 r21_3 r22_0 _ (Kd.S_reads' HO19.out).2.2 (Kd.S_reads' HO19.out).2.1 E22.out).mono ?_
  rintro e W7 ⟨v22, rfl, ho, hb⟩
  refine ⟨_, rfl, ?_⟩; have nOn_ := Kd.R_lower (Kd.R_bound ho) HB.out.size; have hle_ := HT.out; have nB2_ := Aside0.mk (blk_below BK2.out hb); have nB3_ := Aside0.mk (blk_below BK3.out hb); have nO19_ := Aside0.mk (Kd.S_below HO19.out hb); have nHB_ := Aside0.mk (below_step HB.out hb); have nHT_ := Aside0.mk (Nat.le_trans HT.out hb.size); clear BK2 BK3 HO19 HB HT; have BK2 := nB2_; have BK3 := nB3_; have HO19 := nO19_; have HB := nHB_; have HT := nHT_; clear nB2_ nB3_ nO19_ nHB_ nHT_; have HO22 := Aside0.mk (Kd.R_mono (ok' := fun k_ => T2 ≤ k_) nOn_ (fun k_ hk_ => Nat.le_trans hle_ hk_.2.1)); clear nOn_ hle_ ho; obtain ⟨Ao22, co22, eo22⟩ := Kd.R_slice HO22.out; subst eo22; clear hb; refine hK.out _ _ ⟨(blk_cell BK2.out 0).trans rfl, (blk_cell BK2.out 1).trans rfl, (blk_cell BK3.out 0).trans rfl, (blk_cell BK3.out 1).trans rfl, (blk_cell BK3.out 2).trans rfl, (blk_cell BK3.out 3).trans rfl⟩ (fun hHeld => ?_); clear hK K; refine norm_ (a' := ?_) ?_ ?_; rotate_left
  · show Act.put _ (some 22) _ = _
    simp only [Act.put, List.setIfInBounds_toArray, List.set_cons_zero, List.set_cons_succ, i64_w, i32_w]
    rfl
  refine pure_ (i := 5) (N := some 6) (v := ?_) (a' := ?_) #[true, true, true, true, true, true] rfl rfl (by kernel_rfl) (fun _ _ _ h => h) (Or.inl ⟨by rfl, ?_⟩) ?_ ?_; rotate_left
  · intro w'
    go_simp
    with_reducible rfl
  rotate_left
  · exact pz
  refine done_ (by kernel_rfl) ?_; clear hHeld; obtain ⟨T3, hT3⟩ : ∃ n_, n_ = W7.heap.size := ⟨_, rfl⟩; have ORD3 := Aside0.mk (show T2 ≤ T3 from by rw [hT3]; exact HT.out); clear HT; have HT := Aside0.mk (Nat.le_of_eq hT3); have nO_ := Aside0.mk (Kd.S_mono (ok' := fun k_ => T2 ≤ k_ ∧ k_ < T3) (Kd.S_bound HO19.out) (fun k_ hk_ => ⟨hk_.1, by rw [hT3]; exact hk_.2.2.1⟩)); clear HO19; have HO19 := nO_; clear nO_; have nO_ := Aside0.mk (Kd.R_mono (ok' := fun k_ => T2 ≤ k_ ∧ k_ < T3) (Kd.R_bound HO22.out) (fun k_ hk_ => ⟨hk_.1, by rw [hT3]; exact hk_.2.2.1⟩)); clear HO22; have HO22 := nO_; clear nO_; clear hT3; obtain ⟨WE3, hwe_⟩ : ∃ x_, x_ = W7 := ⟨_, rfl⟩; rw [← hwe_] at HB HT BK2 BK3 HO19 HO22; rw [← hwe_]; clear hwe_; have hk2_0 : WE3.cell? ⟨g2, 0, none⟩ = some (.int .i64 a0_0) := (blk_cell BK2.out 0).trans rfl; have hk2_1 : WE3.cell? ⟨g2, 1, none⟩ = some (.slice A0_1 l0_1.length c0_1) := (blk_cell BK2.out 1).trans rfl; have hk3_0 : WE3.cell? ⟨g3, 0, none⟩ = some (.int .i64 a1_0) := (blk_cell BK3.out 0).trans rfl; have hk3_1 : WE3.cell? ⟨g3, 1, none⟩ = some (.int .i64 a1_1) := (blk_cell BK3.out 1).trans rfl; have hk3_2 : WE3.cell? ⟨g3, 2, none⟩ = some (.int .i64 a1_2) := (blk_cell BK3.out 2).trans rfl; have hk3_3 : WE3.cell? ⟨g3, 3, none⟩ = some (.int .i64 a1_3) := (blk_cell BK3.out 3).trans rfl
  go_wp2_with (first
    | ((with_reducible refine gate_dst (N := 24) rfl ?_); refine goesL_ (some 24) rfl rfl Try.func26 (by kernel_rfl) rfl #[.agg #[.int .i64 a0_0, .slice A0_1 l0_1.length c0_1]] rfl dz ?_; refine (laws_toBook.calls k a0_0 _ _ l0_1 r24_0 r24_1 _ (Kd.C_below HR0_1.out HB.out) HC0_1.out E24.out).mono ?_; rintro e W8 ⟨v24, rfl, ho, hb⟩; refine ⟨_, rfl, ?_⟩; clear hk2_0 hk2_1; clear hk3_0 hk3_1 hk3_2 hk3_3; have nOn_ := Kd.S_lower (Kd.S_bound ho) HB.out.size; have hle_ := HT.out; have nB2_ := Aside0.mk (blk_below BK2.out hb); have nB3_ := Aside0.mk (blk_below BK3.out hb); have nO19_ := Aside0.mk (Kd.S_below HO19.out hb); have nO22_ := Aside0.mk (Kd.R_below HO22.out hb); have nHB_ := Aside0.mk (below_step HB.out hb); have nHT_ := Aside0.mk (Nat.le_trans HT.out hb.size); clear BK2 BK3 HO19 HO22 HB HT; have BK2 := nB2_; have BK3 := nB3_; have HO19 := nO19_; have HO22 := nO22_; have HB := nHB_; have HT := nHT_; clear nB2_ nB3_ nO19_ nO22_ nHB_ nHT_; obtain ⟨T4, hT4⟩ : ∃ n_, n_ = W8.heap.size := ⟨_, rfl⟩; have ORD4 := Aside0.mk (show T3 ≤ T4 from by rw [hT4]; exact HT.out); clear HT; have HT := Aside0.mk (Nat.le_of_eq hT4); have HO24 := Aside0.mk (Kd.S_mono (ok' := fun k_ => T3 ≤ k_ ∧ k_ < T4) nOn_ (fun k_ hk_ => ⟨Nat.le_trans hle_ hk_.2.1, by rw [hT4]; exact hk_.2.2.1⟩)); clear nOn_ hle_ ho hT4; obtain ⟨Ao24, co24, eo24⟩ := Kd.S_slice HO24.out; subst eo24; clear hb; have hk2_0 : W8.cell? ⟨g2, 0, none⟩ = some (.int .i64 a0_0) := (blk_cell BK2.out 0).trans rfl; have hk2_1 : W8.cell? ⟨g2, 1, none⟩ = some (.slice A0_1 l0_1.length c0_1) := (blk_cell BK2.out 1).trans rfl; have hk3_0 : W8.cell? ⟨g3, 0, none⟩ = some (.int .i64 a1_0) := (blk_cell BK3.out 0).trans rfl; have hk3_1 : W8.cell? ⟨g3, 1, none⟩ = some (.int .i64 a1_1) := (blk_cell BK3.out 1).trans rfl; have hk3_2 : W8.cell? ⟨g3, 2, none⟩ = some (.int .i64 a1_2) := (blk_cell BK3.out 2).trans rfl; have hk3_3 : W8.cell? ⟨g3, 3, none⟩ = some (.int .i64 a1_3) := (blk_cell BK3.out 3).trans rfl)
    | ((with_reducible refine gate_dst (N := 7) rfl ?_); refine box_event ?hg (N := 7) ?hd (cs := #[.int .i64 0, .slice none 0 0]) (t := 49) ?hr ?_; (case hd => rfl); (case hg => rfl); (case hr => first | (go_simp; done) | (go_simp; rfl)); intro g7 hg W9 hbox hb; have hs7_0 : W9.cell? ⟨g7, 0, none⟩ = some (.int .i64 0) := (blk_cell hbox 0).trans rfl; have hf7_0 := blk_frozen hbox 0; have hs7_1 : W9.cell? ⟨g7, 1, none⟩ = some (.slice none 0 0) := (blk_cell hbox 1).trans rfl; have hf7_1 := blk_frozen hbox 1; have HG7 := Aside0.mk hg; have HX7 := Aside0.mk hbox; have HW7 := Aside0.mk hb; clear hg hbox hb)
    | ((with_reducible refine gate_store (t := 49) (p := 7) rfl ?_); refine store_event (t := 49) (p := 7) (v := ?vo7) (w1 := ((W9.setCell ⟨g7, 0, none⟩ (.int .i64 r24_0)).setCell ⟨g7, 1, none⟩ (.slice Ao24 r24_1.length co24))) ?hg ?ho ?hn ?hr ?_; (case ho => rfl); (case hg => rfl); (case hn => rfl); (case hr => first | (go_simp; done) | (go_simp; rfl)); intro W10 hw; have hb : Below W8.heap.size W8 W10 := (by rw [hw]; exact (below_set (below_set HW7.out (Nat.le_of_eq HG7.out.symm)) (Nat.le_of_eq HG7.out.symm))); have hbox : W10.heap[g7]? = some (.cells #[.int .i64 r24_0, .slice Ao24 r24_1.length co24] 49 (0, 0)) := (by rw [hw]; exact (blk_put (cs' := #[.int .i64 r24_0, .slice Ao24 r24_1.length co24]) (blk_put (cs' := #[.int .i64 r24_0, .slice none 0 0]) HX7.out 0 (.int .i64 r24_0) rfl) 1 (.slice Ao24 r24_1.length co24) rfl)); clear hw hs7_0 hf7_0 hs7_1 hf7_1; have hle_ : T4 ≤ g7 := (by rw [HG7.out]; exact HT.out); have hlt_ : g7 < W10.heap.size := blk_lt hbox; clear HG7 HX7 HW7; clear hk2_0 hk2_1; clear hk3_0 hk3_1 hk3_2 hk3_3; have nB2_ := Aside0.mk (blk_below BK2.out hb); have nB3_ := Aside0.mk (blk_below BK3.out hb); have nO19_ := Aside0.mk (Kd.S_below HO19.out hb); have nO22_ := Aside0.mk (Kd.R_below HO22.out hb); have nO24_ := Aside0.mk (Kd.S_below HO24.out hb); have nHB_ := Aside0.mk (below_step HB.out hb); have nHT_ := Aside0.mk (Nat.le_trans HT.out hb.size); clear BK2 BK3 HO19 HO22 HO24 HB HT; have BK2 := nB2_; have BK3 := nB3_; have HO19 := nO19_; have HO22 := nO22_; have HO24 := nO24_; have HB := nHB_; have HT := nHT_; clear nB2_ nB3_ nO19_ nO22_ nO24_ nHB_ nHT_; obtain ⟨T5, hT5⟩ : ∃ n_, n_ = W10.heap.size := ⟨_, rfl⟩; have ORD5 := Aside0.mk (show T4 ≤ T5 from by rw [hT5]; exact HT.out); clear HT; have HT := Aside0.mk (Nat.le_of_eq hT5); have BK7 := Aside0.mk hbox; have GB7 := Aside0.mk (show T4 ≤ g7 ∧ g7 < T5 from ⟨hle_, by rw [hT5]; exact hlt_⟩); clear hb hbox hle_ hlt_ hT5; have hk2_0 : W10.cell? ⟨g2, 0, none⟩ = some (.int .i64 a0_0) := (blk_cell BK2.out 0).trans rfl; have hk2_1 : W10.cell? ⟨g2, 1, none⟩ = some (.slice A0_1 l0_1.length c0_1) := (blk_cell BK2.out 1).trans rfl; have hk3_0 : W10.cell? ⟨g3, 0, none⟩ = some (.int .i64 a1_0) := (blk_cell BK3.out 0).trans rfl; have hk3_1 : W10.cell? ⟨g3, 1, none⟩ = some (.int .i64 a1_1) := (blk_cell BK3.out 1).trans rfl; have hk3_2 : W10.cell? ⟨g3, 2, none⟩ = some (.int .i64 a1_2) := (blk_cell BK3.out 2).trans rfl; have hk3_3 : W10.cell? ⟨g3, 3, none⟩ = some (.int .i64 a1_3) := (blk_cell BK3.out 3).trans rfl; have hk7_0 : W10.cell? ⟨g7, 0, none⟩ = some (.int .i64 r24_0) := (blk_cell BK7.out 0).trans rfl; have hk7_1 : W10.cell? ⟨g7, 1, none⟩ = some (.slice Ao24 r24_1.length co24) := (blk_cell BK7.out 1).trans rfl))
  clear hk2_0 hk2_1; clear hk3_0 hk3_1 hk3_2 hk3_3; clear hk7_0 hk7_1; have nB2_ := Aside0.mk (blk_drew BK2.out); have nB3_ := Aside0.mk (blk_drew BK3.out); have nO19_ := Aside0.mk (Kd.S_drew HO19.out); have nO22_ := Aside0.mk (Kd.R_drew HO22.out); have nO24_ := Aside0.mk (Kd.S_drew HO24.out); have nB7_ := Aside0.mk (blk_drew BK7.out); have nHB_ := Aside0.mk (below_drew1 HB.out); have nHT_ := Aside0.mk (show T5 ≤ W10.drew.heap.size from HT.out); clear BK2 BK3 HO19 HO22 HO24 BK7 HB HT; have BK2 := nB2_; have BK3 := nB3_; have HO19 := nO19_; have HO22 := nO22_; have HO24 := nO24_; have BK7 := nB7_; have HB := nHB_; have HT := nHT_; clear nB2_ nB3_ nO19_ nO22_ nO24_ nB7_ nHB_ nHT_; refine start_ (n := 5) (S := fun w' => w'.cell? ⟨g7, 0, none⟩ = some (.int .i64 r24_0) ∧ w'.cell? ⟨g7, 1, none⟩ = some (.slice Ao24 r24_1.length co24) ∧ w'.cell? ⟨g3, 0, none⟩ = some (.int .i64 a1_0) ∧ w'.cell? ⟨g3, 1, none⟩ = some (.int .i64 a1_1) ∧ w'.cell? ⟨g3, 2, none⟩ = some (.int .i64 a1_2) ∧ w'.cell? ⟨g3, 3, none⟩ = some (.int .i64 a1_3)) (ds := []) #[false, false, false, false, false] (by kernel_rfl) rfl rfl ⟨(blk_cell BK7.out 0).trans rfl, (blk_cell BK7.out 1).trans rfl, (blk_cell BK3.out 0).trans rfl, (blk_cell BK3.out 1).trans rfl, (blk_cell BK3.out 2).trans rfl, (blk_cell BK3.out 3).trans rfl⟩ (fun hHeld => ?_)
  generalize W10.drew = W11 at HB HT BK2 BK3 HO19 HO22 HO24 BK7 hHeld ⊢
  refine take_ (i := 0) (N := some 25) (v := ?_) (a' := ?_) #[true, false, false, false, false] rfl rfl (by kernel_rfl) (fun _ _ _ h => h) (Or.inl ⟨by rfl, ?_⟩) hHeld ?_ ?_; rotate_left
  · rintro w' ⟨s0, s1, s2, s3, s4, s5⟩
    go_simp
    with_reducible rfl
  rotate_left
  · exact pz
  refine take_ (i := 1) (N := some 26) (v := ?_) (a' := ?_) #[true, true, false, false, false] rfl rfl (by kernel_rfl) (fun _ _ _ h => h) (Or.inl ⟨by rfl, ?_⟩) hHeld ?_ ?_; rotate_left
  · rintro w' ⟨s0, s1, s2, s3, s4, s5⟩
    go_simp
    with_reducible rfl
  rotate_left
  · exact pz
  refine one_ (i := 2) (N := some 27) #[true, true, true, false, false] rfl rfl (by kernel_rfl) (by decide) (fun K hK => ?_); refine goes_ Try.func48 (by kernel_rfl) rfl #[.agg #[.int .i64 a1_0, .int .i64 a1_1, .int .i64 a1_2, .int .i64 a1_3]] (by rfl) rfl rfl dz ?_; refine (laws_toBox.calls a1_0 a1_1 a1_2 a1_3 r27_0 r27_1 r27_2 r27_3 _ E27.out).mono ?_
  rintro e W12 ⟨rfl, hb⟩
  refine ⟨_, rfl, ?_⟩; have nB2_ := Aside0.mk (blk_below BK2.out hb); have nB3_ := Aside0.mk (blk_below BK3.out hb); have nO19_ := Aside0.mk (Kd.S_below HO19.out hb); have nO22_ := Aside0.mk (Kd.R_below HO22.out hb); have nO24_ := Aside0.mk (Kd.S_below HO24.out hb); have nB7_ := Aside0.mk (blk_below BK7.out hb); have nHB_ := Aside0.mk (below_step HB.out hb); have nHT_ := Aside0.mk (Nat.le_trans HT.out hb.size); clear BK2 BK3 HO19 HO22 HO24 BK7 HB HT; have BK2 := nB2_; have BK3 := nB3_; have HO19 := nO19_; have HO22 := nO22_; have HO24 := nO24_; have BK7 := nB7_; have HB := nHB_; have HT := nHT_; clear nB2_ nB3_ nO19_ nO22_ nO24_ nB7_ nHB_ nHT_; clear hb; refine hK.out _ _ ⟨(blk_cell BK7.out 0).trans rfl, (blk_cell BK7.out 1).trans rfl, (blk_cell BK3.out 0).trans rfl, (blk_cell BK3.out 1).trans rfl, (blk_cell BK3.out 2).trans rfl, (blk_cell BK3.out 3).trans rfl⟩ (fun hHeld => ?_); clear hK K; refine norm_ (a' := ?_) ?_ ?_; rotate_left
  · show Act.put _ (some 27) _ = _
    simp only [Act.put, List.setIfInBounds_toArray, List.set_cons_zero, List.set_cons_succ, i64_w, i32_w]
    rfl
  refine one_ (i := 3) (N := some 28) #[true, true, true, true, false] rfl rfl (by kernel_rfl) (by decide) (fun K hK => ?_); refine goes_ Try.func54 (by kernel_rfl) rfl #[.agg #[.int .i64 r24_0, .slice Ao24 r24_1.length co24], .agg #[.int .i64 r27_0, .int .i64 r27_1, .int .i64 r27_2, .int .i64 r27_3]] (by rfl) rfl rfl dz ?_; refine (impl_Search.calls k r24_0 _ _ r24_1 r27_0 r27_1 r27_2 r27_3 r28_0 _ (Kd.S_reads' HO24.out).2.2 (Kd.S_reads' HO24.out).2.1 E28.out).mono ?_
  rintro e W13 ⟨v28, rfl, ho, hb⟩
  refine ⟨_, rfl, ?_⟩; have nOn_ := Kd.R_lower (Kd.R_bound ho) HB.out.size; have hle_ := HT.out; have nB2_ := Aside0.mk (blk_below BK2.out hb); have nB3_ := Aside0.mk (blk_below BK3.out hb); have nO19_ := Aside0.mk (Kd.S_below HO19.out hb); have nO22_ := Aside0.mk (Kd.R_below HO22.out hb); have nO24_ := Aside0.mk (Kd.S_below HO24.out hb); have nB7_ := Aside0.mk (blk_below BK7.out hb); have nHB_ := Aside0.mk (below_step HB.out hb); have nHT_ := Aside0.mk (Nat.le_trans HT.out hb.size); clear BK2 BK3 HO19 HO22 HO24 BK7 HB HT; have BK2 := nB2_; have BK3 := nB3_; have HO19 := nO19_; have HO22 := nO22_; have HO24 := nO24_; have BK7 := nB7_; have HB := nHB_; have HT := nHT_; clear nB2_ nB3_ nO19_ nO22_ nO24_ nB7_ nHB_ nHT_; have HO28 := Aside0.mk (Kd.R_mono (ok' := fun k_ => T5 ≤ k_) nOn_ (fun k_ hk_ => Nat.le_trans hle_ hk_.2.1)); clear nOn_ hle_ ho; obtain ⟨Ao28, co28, eo28⟩ := Kd.R_slice HO28.out; subst eo28; clear hb; refine hK.out _ _ ⟨(blk_cell BK7.out 0).trans rfl, (blk_cell BK7.out 1).trans rfl, (blk_cell BK3.out 0).trans rfl, (blk_cell BK3.out 1).trans rfl, (blk_cell BK3.out 2).trans rfl, (blk_cell BK3.out 3).trans rfl⟩ (fun hHeld => ?_); clear hK K; refine norm_ (a' := ?_) ?_ ?_; rotate_left
  · show Act.put _ (some 28) _ = _
    simp only [Act.put, List.setIfInBounds_toArray, List.set_cons_zero, List.set_cons_succ, i64_w, i32_w]
    rfl
  refine pure_ (i := 4) (N := some 8) (v := ?_) (a' := ?_) #[true, true, true, true, true] rfl rfl (by kernel_rfl) (fun _ _ _ h => h) (Or.inl ⟨by rfl, ?_⟩) ?_ ?_; rotate_left
  · intro w'
    go_simp
    with_reducible rfl
  rotate_left
  · exact pz
  refine done_ (by kernel_rfl) ?_; clear hHeld; obtain ⟨T6, hT6⟩ : ∃ n_, n_ = W13.heap.size := ⟨_, rfl⟩; have ORD6 := Aside0.mk (show T5 ≤ T6 from by rw [hT6]; exact HT.out); clear HT; have HT := Aside0.mk (Nat.le_of_eq hT6); have nO_ := Aside0.mk (Kd.R_mono (ok' := fun k_ => T5 ≤ k_ ∧ k_ < T6) (Kd.R_bound HO28.out) (fun k_ hk_ => ⟨hk_.1, by rw [hT6]; exact hk_.2.2.1⟩)); clear HO28; have HO28 := nO_; clear nO_; clear hT6; obtain ⟨WE6, hwe_⟩ : ∃ x_, x_ = W13 := ⟨_, rfl⟩; rw [← hwe_] at HB HT BK2 BK3 HO19 HO22 HO24 BK7 HO28; rw [← hwe_]; clear hwe_; have hk2_0 : WE6.cell? ⟨g2, 0, none⟩ = some (.int .i64 a0_0) := (blk_cell BK2.out 0).trans rfl; have hk2_1 : WE6.cell? ⟨g2, 1, none⟩ = some (.slice A0_1 l0_1.length c0_1) := (blk_cell BK2.out 1).trans rfl; have hk3_0 : WE6.cell? ⟨g3, 0, none⟩ = some (.int .i64 a1_0) := (blk_cell BK3.out 0).trans rfl; have hk3_1 : WE6.cell? ⟨g3, 1, none⟩ = some (.int .i64 a1_1) := (blk_cell BK3.out 1).trans rfl; have hk3_2 : WE6.cell? ⟨g3, 2, none⟩ = some (.int .i64 a1_2) := (blk_cell BK3.out 2).trans rfl; have hk3_3 : WE6.cell? ⟨g3, 3, none⟩ = some (.int .i64 a1_3) := (blk_cell BK3.out 3).trans rfl; have hk7_0 : WE6.cell? ⟨g7, 0, none⟩ = some (.int .i64 r24_0) := (blk_cell BK7.out 0).trans rfl; have hk7_1 : WE6.cell? ⟨g7, 1, none⟩ = some (.slice Ao24 r24_1.length co24) := (blk_cell BK7.out 1).trans rfl
  go_wp2_with (first
    | ((with_reducible refine gate_dst (N := 31) rfl ?_); refine goesL_ (some 31) rfl rfl Try.func20 (by kernel_rfl) rfl #[.slice Ao28 r28_0.length co28, .slice Ao22 r22_0.length co22] rfl dz ?_; refine (laws_eqItemS.calls k _ _ r28_0 _ _ r22_0 true _ (Kd.R_reads' HO28.out).2.2 (Kd.R_reads' HO28.out).2.1 (Kd.R_reads' HO22.out).2.2 (Kd.R_reads' HO22.out).2.1 E31.out).mono ?_; rintro e W14 ⟨rfl, hb⟩; refine ⟨_, rfl, ?_⟩; clear hk2_0 hk2_1; clear hk3_0 hk3_1 hk3_2 hk3_3; clear hk7_0 hk7_1; have nB2_ := Aside0.mk (blk_below BK2.out hb); have nB3_ := Aside0.mk (blk_below BK3.out hb); have nO19_ := Aside0.mk (Kd.S_below HO19.out hb); have nO22_ := Aside0.mk (Kd.R_below HO22.out hb); have nO24_ := Aside0.mk (Kd.S_below HO24.out hb); have nB7_ := Aside0.mk (blk_below BK7.out hb); have nO28_ := Aside0.mk (Kd.R_below HO28.out hb); have nHB_ := Aside0.mk (below_step HB.out hb); have nHT_ := Aside0.mk (Nat.le_trans HT.out hb.size); clear BK2 BK3 HO19 HO22 HO24 BK7 HO28 HB HT; have BK2 := nB2_; have BK3 := nB3_; have HO19 := nO19_; have HO22 := nO22_; have HO24 := nO24_; have BK7 := nB7_; have HO28 := nO28_; have HB := nHB_; have HT := nHT_; clear nB2_ nB3_ nO19_ nO22_ nO24_ nB7_ nO28_ nHB_ nHT_; clear hb; have hk2_0 : W14.cell? ⟨g2, 0, none⟩ = some (.int .i64 a0_0) := (blk_cell BK2.out 0).trans rfl; have hk2_1 : W14.cell? ⟨g2, 1, none⟩ = some (.slice A0_1 l0_1.length c0_1) := (blk_cell BK2.out 1).trans rfl; have hk3_0 : W14.cell? ⟨g3, 0, none⟩ = some (.int .i64 a1_0) := (blk_cell BK3.out 0).trans rfl; have hk3_1 : W14.cell? ⟨g3, 1, none⟩ = some (.int .i64 a1_1) := (blk_cell BK3.out 1).trans rfl; have hk3_2 : W14.cell? ⟨g3, 2, none⟩ = some (.int .i64 a1_2) := (blk_cell BK3.out 2).trans rfl; have hk3_3 : W14.cell? ⟨g3, 3, none⟩ = some (.int .i64 a1_3) := (blk_cell BK3.out 3).trans rfl; have hk7_0 : W14.cell? ⟨g7, 0, none⟩ = some (.int .i64 r24_0) := (blk_cell BK7.out 0).trans rfl; have hk7_1 : W14.cell? ⟨g7, 1, none⟩ = some (.slice Ao24 r24_1.length co24) := (blk_cell BK7.out 1).trans rfl))
  clear hk2_0 hk2_1; clear hk3_0 hk3_1 hk3_2 hk3_3; clear hk7_0 hk7_1; have nB2_ := Aside0.mk (blk_drew BK2.out); have nB3_ := Aside0.mk (blk_drew BK3.out); have nO19_ := Aside0.mk (Kd.S_drew HO19.out); have nO22_ := Aside0.mk (Kd.R_drew HO22.out); have nO24_ := Aside0.mk (Kd.S_drew HO24.out); have nB7_ := Aside0.mk (blk_drew BK7.out); have nO28_ := Aside0.mk (Kd.R_drew HO28.out); have nHB_ := Aside0.mk (below_drew1 HB.out); have nHT_ := Aside0.mk (show T6 ≤ W14.drew.heap.size from HT.out); clear BK2 BK3 HO19 HO22 HO24 BK7 HO28 HB HT; have BK2 := nB2_; have BK3 := nB3_; have HO19 := nO19_; have HO22 := nO22_; have HO24 := nO24_; have BK7 := nB7_; have HO28 := nO28_; have HB := nHB_; have HT := nHT_; clear nB2_ nB3_ nO19_ nO22_ nO24_ nB7_ nO28_ nHB_ nHT_; refine start_ (n := 5) (S := fun w' => w'.cell? ⟨g7, 0, none⟩ = some (.int .i64 r24_0) ∧ w'.cell? ⟨g7, 1, none⟩ = some (.slice Ao24 r24_1.length co24) ∧ w'.cell? ⟨g2, 0, none⟩ = some (.int .i64 a0_0) ∧ w'.cell? ⟨g2, 1, none⟩ = some (.slice A0_1 l0_1.length c0_1)) (ds := []) #[false, false, false, false, false] (by kernel_rfl) rfl rfl ⟨(blk_cell BK7.out 0).trans rfl, (blk_cell BK7.out 1).trans rfl, (blk_cell BK2.out 0).trans rfl, (blk_cell BK2.out 1).trans rfl⟩ (fun hHeld => ?_)
  generalize W14.drew = W15 at HB HT BK2 BK3 HO19 HO22 HO24 BK7 HO28 hHeld ⊢
  refine take_ (i := 0) (N := some 33) (v := ?_) (a' := ?_) #[true, false, false, false, false] rfl rfl (by kernel_rfl) (fun _ _ _ h => h) (Or.inl ⟨by rfl, ?_⟩) hHeld ?_ ?_; rotate_left
  · rintro w' ⟨s0, s1, s2, s3⟩
    go_simp
    with_reducible rfl
  rotate_left
  · exact pz
  refine take_ (i := 1) (N := some 34) (v := ?_) (a' := ?_) #[true, true, false, false, false] rfl rfl (by kernel_rfl) (fun _ _ _ h => h) (Or.inl ⟨by rfl, ?_⟩) hHeld ?_ ?_; rotate_left
  · rintro w' ⟨s0, s1, s2, s3⟩
    go_simp
    with_reducible rfl
  rotate_left
  · exact pz
  refine one_ (i := 2) (N := some 35) #[true, true, true, false, false] rfl rfl (by kernel_rfl) (by decide) (fun K hK => ?_); refine goes_ Try.func26 (by kernel_rfl) rfl #[.agg #[.int .i64 a0_0, .slice A0_1 l0_1.length c0_1]] (by rfl) rfl rfl dz ?_; refine (laws_toBook.calls k a0_0 _ _ l0_1 r35_0 r35_1 _ (Kd.C_below HR0_1.out HB.out) HC0_1.out E35.out).mono ?_
  rintro e W16 ⟨v35, rfl, ho, hb⟩
  refine ⟨_, rfl, ?_⟩; have nOn_ := Kd.S_lower (Kd.S_bound ho) HB.out.size; have hle_ := HT.out; have nB2_ := Aside0.mk (blk_below BK2.out hb); have nB3_ := Aside0.mk (blk_below BK3.out hb); have nO19_ := Aside0.mk (Kd.S_below HO19.out hb); have nO22_ := Aside0.mk (Kd.R_below HO22.out hb); have nO24_ := Aside0.mk (Kd.S_below HO24.out hb); have nB7_ := Aside0.mk (blk_below BK7.out hb); have nO28_ := Aside0.mk (Kd.R_below HO28.out hb); have nHB_ := Aside0.mk (below_step HB.out hb); have nHT_ := Aside0.mk (Nat.le_trans HT.out hb.size); clear BK2 BK3 HO19 HO22 HO24 BK7 HO28 HB HT; have BK2 := nB2_; have BK3 := nB3_; have HO19 := nO19_; have HO22 := nO22_; have HO24 := nO24_; have BK7 := nB7_; have HO28 := nO28_; have HB := nHB_; have HT := nHT_; clear nB2_ nB3_ nO19_ nO22_ nO24_ nB7_ nO28_ nHB_ nHT_; have HO35 := Aside0.mk (Kd.S_mono (ok' := fun k_ => T6 ≤ k_) nOn_ (fun k_ hk_ => Nat.le_trans hle_ hk_.2.1)); clear nOn_ hle_ ho; obtain ⟨Ao35, co35, eo35⟩ := Kd.S_slice HO35.out; subst eo35; clear hb; refine hK.out _ _ ⟨(blk_cell BK7.out 0).trans rfl, (blk_cell BK7.out 1).trans rfl, (blk_cell BK2.out 0).trans rfl, (blk_cell BK2.out 1).trans rfl⟩ (fun hHeld => ?_); clear hK K; refine norm_ (a' := ?_) ?_ ?_; rotate_left
  · show Act.put _ (some 35) _ = _
    simp only [Act.put, List.setIfInBounds_toArray, List.set_cons_zero, List.set_cons_succ, i64_w, i32_w]
    rfl
  refine one_ (i := 3) (N := some 36) #[true, true, true, true, false] rfl rfl (by kernel_rfl) (by decide) (fun K hK => ?_); refine goes_ Try.func29 (by kernel_rfl) rfl #[.agg #[.int .i64 r24_0, .slice Ao24 r24_1.length co24], .agg #[.int .i64 r35_0, .slice Ao35 r35_1.length co35]] (by rfl) rfl rfl dz ?_; refine (laws_eqBook.calls k r24_0 _ _ r24_1 r35_0 _ _ r35_1 true _ (Kd.S_reads' HO24.out).2.2 (Kd.S_reads' HO24.out).2.1 (Kd.S_reads' HO35.out).2.2 (Kd.S_reads' HO35.out).2.1 E36.out).mono ?_
  rintro e W17 ⟨rfl, hb⟩
  refine ⟨_, rfl, ?_⟩; have nB2_ := Aside0.mk (blk_below BK2.out hb); have nB3_ := Aside0.mk (blk_below BK3.out hb); have nO19_ := Aside0.mk (Kd.S_below HO19.out hb); have nO22_ := Aside0.mk (Kd.R_below HO22.out hb); have nO24_ := Aside0.mk (Kd.S_below HO24.out hb); have nB7_ := Aside0.mk (blk_below BK7.out hb); have nO28_ := Aside0.mk (Kd.R_below HO28.out hb); have nO35_ := Aside0.mk (Kd.S_below HO35.out hb); have nHB_ := Aside0.mk (below_step HB.out hb); have nHT_ := Aside0.mk (Nat.le_trans HT.out hb.size); clear BK2 BK3 HO19 HO22 HO24 BK7 HO28 HO35 HB HT; have BK2 := nB2_; have BK3 := nB3_; have HO19 := nO19_; have HO22 := nO22_; have HO24 := nO24_; have BK7 := nB7_; have HO28 := nO28_; have HO35 := nO35_; have HB := nHB_; have HT := nHT_; clear nB2_ nB3_ nO19_ nO22_ nO24_ nB7_ nO28_ nO35_ nHB_ nHT_; clear hb; refine hK.out _ _ ⟨(blk_cell BK7.out 0).trans rfl, (blk_cell BK7.out 1).trans rfl, (blk_cell BK2.out 0).trans rfl, (blk_cell BK2.out 1).trans rfl⟩ (fun hHeld => ?_); clear hK K; refine norm_ (a' := ?_) ?_ ?_; rotate_left
  · show Act.put _ (some 36) _ = _
    simp only [Act.put, List.setIfInBounds_toArray, List.set_cons_zero, List.set_cons_succ, i64_w, i32_w]
    rfl
  refine pure_ (i := 4) (N := some 37) (v := ?_) (a' := ?_) #[true, true, true, true, true] rfl rfl (by kernel_rfl) (fun _ _ _ h => h) (Or.inl ⟨by rfl, ?_⟩) ?_ ?_; rotate_left
  · intro w'
    go_simp
    with_reducible rfl
  rotate_left
  · exact pz
  refine done_ (by kernel_rfl) ?_; clear hHeld; obtain ⟨T7, hT7⟩ : ∃ n_, n_ = W17.heap.size := ⟨_, rfl⟩; have ORD7 := Aside0.mk (show T6 ≤ T7 from by rw [hT7]; exact HT.out); clear HT; have HT := Aside0.mk (Nat.le_of_eq hT7); have nO_ := Aside0.mk (Kd.S_mono (ok' := fun k_ => T6 ≤ k_ ∧ k_ < T7) (Kd.S_bound HO35.out) (fun k_ hk_ => ⟨hk_.1, by rw [hT7]; exact hk_.2.2.1⟩)); clear HO35; have HO35 := nO_; clear nO_; clear hT7; obtain ⟨WE7, hwe_⟩ : ∃ x_, x_ = W17 := ⟨_, rfl⟩; rw [← hwe_] at HB HT BK2 BK3 HO19 HO22 HO24 BK7 HO28 HO35; rw [← hwe_]; clear hwe_; have hk2_0 : WE7.cell? ⟨g2, 0, none⟩ = some (.int .i64 a0_0) := (blk_cell BK2.out 0).trans rfl; have hk2_1 : WE7.cell? ⟨g2, 1, none⟩ = some (.slice A0_1 l0_1.length c0_1) := (blk_cell BK2.out 1).trans rfl; have hk3_0 : WE7.cell? ⟨g3, 0, none⟩ = some (.int .i64 a1_0) := (blk_cell BK3.out 0).trans rfl; have hk3_1 : WE7.cell? ⟨g3, 1, none⟩ = some (.int .i64 a1_1) := (blk_cell BK3.out 1).trans rfl; have hk3_2 : WE7.cell? ⟨g3, 2, none⟩ = some (.int .i64 a1_2) := (blk_cell BK3.out 2).trans rfl; have hk3_3 : WE7.cell? ⟨g3, 3, none⟩ = some (.int .i64 a1_3) := (blk_cell BK3.out 3).trans rfl; have hk7_0 : WE7.cell? ⟨g7, 0, none⟩ = some (.int .i64 r24_0) := (blk_cell BK7.out 0).trans rfl; have hk7_1 : WE7.cell? ⟨g7, 1, none⟩ = some (.slice Ao24 r24_1.length co24) := (blk_cell BK7.out 1).trans rfl
  go_wp2_with (first
    | ((with_reducible refine gate_dst (N := 40) rfl ?_); refine goesL_ (some 40) rfl rfl Try.func31 (by kernel_rfl) rfl #[.agg #[.int .i64 r24_0, .slice Ao24 r24_1.length co24], .int .i64 1] rfl dz ?_; refine (laws_markBook.calls k (fun k_ => T3 ≤ k_ ∧ k_ < T4) r24_0 _ r24_1 1 r40_0 r40_1 w _ HB.out HO24.out E40.out).mono ?_; rintro e W18 ⟨rfl, ho, hb, hk⟩; refine ⟨_, rfl, ?_⟩; clear hk2_0 hk2_1; clear hk3_0 hk3_1 hk3_2 hk3_3; clear hk7_0 hk7_1; have nB2_ := Aside0.mk (blk_kept BK2.out hk (fun h2_ => by have o1_ := ORD1.out; have o2_ := ORD2.out; have o3_ := ORD3.out; have o4_ := ORD4.out; have o5_ := ORD5.out; have o6_ := ORD6.out; have o7_ := ORD7.out; have g_ := GB2.out; omega)); have nB3_ := Aside0.mk (blk_kept BK3.out hk (fun h2_ => by have o1_ := ORD1.out; have o2_ := ORD2.out; have o3_ := ORD3.out; have o4_ := ORD4.out; have o5_ := ORD5.out; have o6_ := ORD6.out; have o7_ := ORD7.out; have g_ := GB3.out; omega)); have nO19_ := Aside0.mk (Kd.S_kept HO19.out hk (fun k_ h1_ h2_ => by have o1_ := ORD1.out; have o2_ := ORD2.out; have o3_ := ORD3.out; have o4_ := ORD4.out; have o5_ := ORD5.out; have o6_ := ORD6.out; have o7_ := ORD7.out; exact absurd h1_ (by omega))); have nO22_ := Aside0.mk (Kd.R_kept HO22.out hk (fun k_ h1_ h2_ => by have o1_ := ORD1.out; have o2_ := ORD2.out; have o3_ := ORD3.out; have o4_ := ORD4.out; have o5_ := ORD5.out; have o6_ := ORD6.out; have o7_ := ORD7.out; exact absurd h1_ (by omega))); have nB7_ := Aside0.mk (blk_kept BK7.out hk (fun h2_ => by have o1_ := ORD1.out; have o2_ := ORD2.out; have o3_ := ORD3.out; have o4_ := ORD4.out; have o5_ := ORD5.out; have o6_ := ORD6.out; have o7_ := ORD7.out; have g_ := GB7.out; omega)); have nO28_ := Aside0.mk (Kd.R_kept HO28.out hk (fun k_ h1_ h2_ => by have o1_ := ORD1.out; have o2_ := ORD2.out; have o3_ := ORD3.out; have o4_ := ORD4.out; have o5_ := ORD5.out; have o6_ := ORD6.out; have o7_ := ORD7.out; exact absurd h1_ (by omega))); have nO35_ := Aside0.mk (Kd.S_kept HO35.out hk (fun k_ h1_ h2_ => by have o1_ := ORD1.out; have o2_ := ORD2.out; have o3_ := ORD3.out; have o4_ := ORD4.out; have o5_ := ORD5.out; have o6_ := ORD6.out; have o7_ := ORD7.out; exact absurd h1_ (by omega))); have nHB_ := Aside0.mk hb; have nHT_ := Aside0.mk (Nat.le_trans HT.out hk.1); clear BK2 BK3 HO19 HO22 BK7 HO28 HO35 HB HT; have BK2 := nB2_; have BK3 := nB3_; have HO19 := nO19_; have HO22 := nO22_; have BK7 := nB7_; have HO28 := nO28_; have HO35 := nO35_; have HB := nHB_; have HT := nHT_; clear nB2_ nB3_ nO19_ nO22_ nB7_ nO28_ nO35_ nHB_ nHT_; have nO_ := Aside0.mk (Kd.S_mono (ok' := fun _ => True) ho (fun _ _ => trivial)); clear HO24; have HO24 := nO_; have LN24 := Aside0.mk (show r24_1.length = r40_1.length from (Kd.S_reads' HO24.out).1); clear nO_ ho hb hk; have hk2_0 : W18.cell? ⟨g2, 0, none⟩ = some (.int .i64 a0_0) := (blk_cell BK2.out 0).trans rfl; have hk2_1 : W18.cell? ⟨g2, 1, none⟩ = some (.slice A0_1 l0_1.length c0_1) := (blk_cell BK2.out 1).trans rfl; have hk3_0 : W18.cell? ⟨g3, 0, none⟩ = some (.int .i64 a1_0) := (blk_cell BK3.out 0).trans rfl; have hk3_1 : W18.cell? ⟨g3, 1, none⟩ = some (.int .i64 a1_1) := (blk_cell BK3.out 1).trans rfl; have hk3_2 : W18.cell? ⟨g3, 2, none⟩ = some (.int .i64 a1_2) := (blk_cell BK3.out 2).trans rfl; have hk3_3 : W18.cell? ⟨g3, 3, none⟩ = some (.int .i64 a1_3) := (blk_cell BK3.out 3).trans rfl; have hk7_0 : W18.cell? ⟨g7, 0, none⟩ = some (.int .i64 r24_0) := (blk_cell BK7.out 0).trans rfl; have hk7_1 : W18.cell? ⟨g7, 1, none⟩ = some (.slice Ao24 r24_1.length co24) := (blk_cell BK7.out 1).trans rfl)
    | ((with_reducible refine gate_dst (N := 46) rfl ?_); (try (refine gate_guard (by rfl) ?_; dsimp only)); refine goesL_ (some 46) rfl rfl Try.func20 (by kernel_rfl) rfl #[.slice Ao28 r28_0.length co28, .slice Ao22 r22_0.length co22] rfl dz ?_; refine (laws_eqItemS.calls k _ _ r28_0 _ _ r22_0 true _ (Kd.R_reads' HO28.out).2.2 (Kd.R_reads' HO28.out).2.1 (Kd.R_reads' HO22.out).2.2 (Kd.R_reads' HO22.out).2.1 E46.out).mono ?_; rintro e W19 ⟨rfl, hb⟩; refine ⟨_, rfl, ?_⟩; clear hk2_0 hk2_1; clear hk3_0 hk3_1 hk3_2 hk3_3; clear hk7_0 hk7_1; have nB2_ := Aside0.mk (blk_below BK2.out hb); have nB3_ := Aside0.mk (blk_below BK3.out hb); have nO19_ := Aside0.mk (Kd.S_below HO19.out hb); have nO22_ := Aside0.mk (Kd.R_below HO22.out hb); have nO24_ := Aside0.mk (Kd.S_below HO24.out hb); have nB7_ := Aside0.mk (blk_below BK7.out hb); have nO28_ := Aside0.mk (Kd.R_below HO28.out hb); have nO35_ := Aside0.mk (Kd.S_below HO35.out hb); have nHB_ := Aside0.mk (below_step HB.out hb); have nHT_ := Aside0.mk (Nat.le_trans HT.out hb.size); clear BK2 BK3 HO19 HO22 HO24 BK7 HO28 HO35 HB HT; have BK2 := nB2_; have BK3 := nB3_; have HO19 := nO19_; have HO22 := nO22_; have HO24 := nO24_; have BK7 := nB7_; have HO28 := nO28_; have HO35 := nO35_; have HB := nHB_; have HT := nHT_; clear nB2_ nB3_ nO19_ nO22_ nO24_ nB7_ nO28_ nO35_ nHB_ nHT_; clear hb; have hk2_0 : W19.cell? ⟨g2, 0, none⟩ = some (.int .i64 a0_0) := (blk_cell BK2.out 0).trans rfl; have hk2_1 : W19.cell? ⟨g2, 1, none⟩ = some (.slice A0_1 l0_1.length c0_1) := (blk_cell BK2.out 1).trans rfl; have hk3_0 : W19.cell? ⟨g3, 0, none⟩ = some (.int .i64 a1_0) := (blk_cell BK3.out 0).trans rfl; have hk3_1 : W19.cell? ⟨g3, 1, none⟩ = some (.int .i64 a1_1) := (blk_cell BK3.out 1).trans rfl; have hk3_2 : W19.cell? ⟨g3, 2, none⟩ = some (.int .i64 a1_2) := (blk_cell BK3.out 2).trans rfl; have hk3_3 : W19.cell? ⟨g3, 3, none⟩ = some (.int .i64 a1_3) := (blk_cell BK3.out 3).trans rfl; have hk7_0 : W19.cell? ⟨g7, 0, none⟩ = some (.int .i64 r24_0) := (blk_cell BK7.out 0).trans rfl; have hk7_1 : W19.cell? ⟨g7, 1, none⟩ = some (.slice Ao24 r24_1.length co24) := (blk_cell BK7.out 1).trans rfl)
    | ((with_reducible refine gate_dst (N := 51) rfl ?_); refine goesL_ (some 51) rfl rfl Try.func21 (by kernel_rfl) rfl #[.slice Ao28 r28_0.length co28, .int .i64 1] rfl dz ?_; refine (laws_markItemS.calls k (fun k_ => T5 ≤ k_ ∧ k_ < T6) _ r28_0 1 r51_0 r51_1 w _ HB.out HO28.out E51.out).mono ?_; rintro e W20 ⟨rfl, ho, hb, hk⟩; refine ⟨_, rfl, ?_⟩; clear hk2_0 hk2_1; clear hk3_0 hk3_1 hk3_2 hk3_3; clear hk7_0 hk7_1; have nB2_ := Aside0.mk (blk_kept BK2.out hk (fun h2_ => by have o1_ := ORD1.out; have o2_ := ORD2.out; have o3_ := ORD3.out; have o4_ := ORD4.out; have o5_ := ORD5.out; have o6_ := ORD6.out; have o7_ := ORD7.out; have g_ := GB2.out; omega)); have nB3_ := Aside0.mk (blk_kept BK3.out hk (fun h2_ => by have o1_ := ORD1.out; have o2_ := ORD2.out; have o3_ := ORD3.out; have o4_ := ORD4.out; have o5_ := ORD5.out; have o6_ := ORD6.out; have o7_ := ORD7.out; have g_ := GB3.out; omega)); have nO19_ := Aside0.mk (Kd.S_kept HO19.out hk (fun k_ h1_ h2_ => by have o1_ := ORD1.out; have o2_ := ORD2.out; have o3_ := ORD3.out; have o4_ := ORD4.out; have o5_ := ORD5.out; have o6_ := ORD6.out; have o7_ := ORD7.out; exact absurd h1_ (by omega))); have nO22_ := Aside0.mk (Kd.R_kept HO22.out hk (fun k_ h1_ h2_ => by have o1_ := ORD1.out; have o2_ := ORD2.out; have o3_ := ORD3.out; have o4_ := ORD4.out; have o5_ := ORD5.out; have o6_ := ORD6.out; have o7_ := ORD7.out; exact absurd h1_ (by omega))); have nB7_ := Aside0.mk (blk_kept BK7.out hk (fun h2_ => by have o1_ := ORD1.out; have o2_ := ORD2.out; have o3_ := ORD3.out; have o4_ := ORD4.out; have o5_ := ORD5.out; have o6_ := ORD6.out; have o7_ := ORD7.out; have g_ := GB7.out; omega)); have nO35_ := Aside0.mk (Kd.S_kept HO35.out hk (fun k_ h1_ h2_ => by have o1_ := ORD1.out; have o2_ := ORD2.out; have o3_ := ORD3.out; have o4_ := ORD4.out; have o5_ := ORD5.out; have o6_ := ORD6.out; have o7_ := ORD7.out; exact absurd h1_ (by omega))); have nHB_ := Aside0.mk hb; have nHT_ := Aside0.mk (Nat.le_trans HT.out hk.1); clear BK2 BK3 HO19 HO22 BK7 HO35 HB HT HO24 LN24; have BK2 := nB2_; have BK3 := nB3_; have HO19 := nO19_; have HO22 := nO22_; have BK7 := nB7_; have HO35 := nO35_; have HB := nHB_; have HT := nHT_; clear nB2_ nB3_ nO19_ nO22_ nB7_ nO35_ nHB_ nHT_; have nO_ := Aside0.mk (Kd.R_mono (ok' := fun _ => True) ho (fun _ _ => trivial)); clear HO28; have HO28 := nO_; have LN28 := Aside0.mk (show r28_0.length = r51_1.length from (Kd.R_reads' HO28.out).1); clear nO_ ho hb hk; have hk2_0 : W20.cell? ⟨g2, 0, none⟩ = some (.int .i64 a0_0) := (blk_cell BK2.out 0).trans rfl; have hk2_1 : W20.cell? ⟨g2, 1, none⟩ = some (.slice A0_1 l0_1.length c0_1) := (blk_cell BK2.out 1).trans rfl; have hk3_0 : W20.cell? ⟨g3, 0, none⟩ = some (.int .i64 a1_0) := (blk_cell BK3.out 0).trans rfl; have hk3_1 : W20.cell? ⟨g3, 1, none⟩ = some (.int .i64 a1_1) := (blk_cell BK3.out 1).trans rfl; have hk3_2 : W20.cell? ⟨g3, 2, none⟩ = some (.int .i64 a1_2) := (blk_cell BK3.out 2).trans rfl; have hk3_3 : W20.cell? ⟨g3, 3, none⟩ = some (.int .i64 a1_3) := (blk_cell BK3.out 3).trans rfl; have hk7_0 : W20.cell? ⟨g7, 0, none⟩ = some (.int .i64 r24_0) := (blk_cell BK7.out 0).trans rfl; have hk7_1 : W20.cell? ⟨g7, 1, none⟩ = some (.slice Ao24 r24_1.length co24) := (blk_cell BK7.out 1).trans rfl)
    | ((with_reducible refine gate_dst (N := 54) rfl ?_); refine goesL_ (some 54) rfl rfl Try.func22 (by kernel_rfl) rfl #[.slice Ao28 r28_0.length co28, .int .i64 1] rfl dz ?_; refine calls_args (by rw [LN28.out]) ((laws_heldItemS.calls k Ao28 co28 r51_1 1 r54_0 _ (Kd.R_reads' HO28.out).2.2 (by rw [← LN28.out]; exact (Kd.R_reads' HO28.out).2.1) E54.out).mono ?_); rintro e W21 ⟨rfl, hd⟩; refine ⟨_, rfl, ?_⟩; have hb := Drawn0.below hd; clear hd; clear hk2_0 hk2_1; clear hk3_0 hk3_1 hk3_2 hk3_3; clear hk7_0 hk7_1; have nB2_ := Aside0.mk (blk_below BK2.out hb); have nB3_ := Aside0.mk (blk_below BK3.out hb); have nO19_ := Aside0.mk (Kd.S_below HO19.out hb); have nO22_ := Aside0.mk (Kd.R_below HO22.out hb); have nB7_ := Aside0.mk (blk_below BK7.out hb); have nO28_ := Aside0.mk (Kd.R_below HO28.out hb); have nO35_ := Aside0.mk (Kd.S_below HO35.out hb); have nHB_ := Aside0.mk (below_step HB.out hb); have nHT_ := Aside0.mk (Nat.le_trans HT.out hb.size); clear BK2 BK3 HO19 HO22 BK7 HO28 HO35 HB HT; have BK2 := nB2_; have BK3 := nB3_; have HO19 := nO19_; have HO22 := nO22_; have BK7 := nB7_; have HO28 := nO28_; have HO35 := nO35_; have HB := nHB_; have HT := nHT_; clear nB2_ nB3_ nO19_ nO22_ nB7_ nO28_ nO35_ nHB_ nHT_; clear hb; have hk2_0 : W21.cell? ⟨g2, 0, none⟩ = some (.int .i64 a0_0) := (blk_cell BK2.out 0).trans rfl; have hk2_1 : W21.cell? ⟨g2, 1, none⟩ = some (.slice A0_1 l0_1.length c0_1) := (blk_cell BK2.out 1).trans rfl; have hk3_0 : W21.cell? ⟨g3, 0, none⟩ = some (.int .i64 a1_0) := (blk_cell BK3.out 0).trans rfl; have hk3_1 : W21.cell? ⟨g3, 1, none⟩ = some (.int .i64 a1_1) := (blk_cell BK3.out 1).trans rfl; have hk3_2 : W21.cell? ⟨g3, 2, none⟩ = some (.int .i64 a1_2) := (blk_cell BK3.out 2).trans rfl; have hk3_3 : W21.cell? ⟨g3, 3, none⟩ = some (.int .i64 a1_3) := (blk_cell BK3.out 3).trans rfl; have hk7_0 : W21.cell? ⟨g7, 0, none⟩ = some (.int .i64 r24_0) := (blk_cell BK7.out 0).trans rfl; have hk7_1 : W21.cell? ⟨g7, 1, none⟩ = some (.slice Ao24 r24_1.length co24) := (blk_cell BK7.out 1).trans rfl))
  clear hk2_0 hk2_1; clear hk3_0 hk3_1 hk3_2 hk3_3; clear hk7_0 hk7_1; have nB2_ := Aside0.mk (blk_drew BK2.out); have nB3_ := Aside0.mk (blk_drew BK3.out); have nO19_ := Aside0.mk (Kd.S_drew HO19.out); have nO22_ := Aside0.mk (Kd.R_drew HO22.out); have nB7_ := Aside0.mk (blk_drew BK7.out); have nO28_ := Aside0.mk (Kd.R_drew HO28.out); have nO35_ := Aside0.mk (Kd.S_drew HO35.out); have nHB_ := Aside0.mk (below_drew1 HB.out); have nHT_ := Aside0.mk (show T7 ≤ W21.drew.heap.size from HT.out); clear BK2 BK3 HO19 HO22 BK7 HO28 HO35 HB HT; have BK2 := nB2_; have BK3 := nB3_; have HO19 := nO19_; have HO22 := nO22_; have BK7 := nB7_; have HO28 := nO28_; have HO35 := nO35_; have HB := nHB_; have HT := nHT_; clear nB2_ nB3_ nO19_ nO22_ nB7_ nO28_ nO35_ nHB_ nHT_; refine start_ (n := 6) (S := fun w' => w'.cell? ⟨g2, 0, none⟩ = some (.int .i64 a0_0) ∧ w'.cell? ⟨g2, 1, none⟩ = some (.slice A0_1 l0_1.length c0_1) ∧ w'.cell? ⟨g3, 0, none⟩ = some (.int .i64 a1_0) ∧ w'.cell? ⟨g3, 1, none⟩ = some (.int .i64 a1_1) ∧ w'.cell? ⟨g3, 2, none⟩ = some (.int .i64 a1_2) ∧ w'.cell? ⟨g3, 3, none⟩ = some (.int .i64 a1_3)) (ds := []) #[false, false, false, false, false, false] (by kernel_rfl) rfl rfl ⟨(blk_cell BK2.out 0).trans rfl, (blk_cell BK2.out 1).trans rfl, (blk_cell BK3.out 0).trans rfl, (blk_cell BK3.out 1).trans rfl, (blk_cell BK3.out 2).trans rfl, (blk_cell BK3.out 3).trans rfl⟩ (fun hHeld => ?_)
  generalize W21.drew = W22 at HB HT BK2 BK3 HO19 HO22 BK7 HO28 HO35 hHeld ⊢
  refine take_ (i := 0) (N := some 60) (v := ?_) (a' := ?_) #[true, false, false, false, false, false] rfl rfl (by kernel_rfl) (fun _ _ _ h => h) (Or.inl ⟨by rfl, ?_⟩) hHeld ?_ ?_; rotate_left
  · rintro w' ⟨s0, s1, s2, s3, s4, s5⟩
    go_simp
    with_reducible rfl
  rotate_left
  · exact pz
  refine take_ (i := 2) (N := some 62) (v := ?_) (a' := ?_) #[true, false, true, false, false, false] rfl rfl (by kernel_rfl) (fun _ _ _ h => h) (Or.inl ⟨by rfl, ?_⟩) hHeld ?_ ?_; rotate_left
  · rintro w' ⟨s0, s1, s2, s3, s4, s5⟩
    go_simp
    with_reducible rfl
  rotate_left
  · exact pz
  refine one_ (i := 1) (N := some 61) #[true, true, true, false, false, false] rfl rfl (by kernel_rfl) (by decide) (fun K hK => ?_); refine goes_ Try.func26 (by kernel_rfl) rfl #[.agg #[.int .i64 a0_0, .slice A0_1 l0_1.length c0_1]] (by rfl) rfl rfl dz ?_; refine (laws_toBook.calls k a0_0 _ _ l0_1 r61_0 r61_1 _ (Kd.C_below HR0_1.out HB.out) HC0_1.out E61.out).mono ?_
  rintro e W23 ⟨v61, rfl, ho, hb⟩
  refine ⟨_, rfl, ?_⟩; have nOn_ := Kd.S_lower (Kd.S_bound ho) HB.out.size; have hle_ := HT.out; have nB2_ := Aside0.mk (blk_below BK2.out hb); have nB3_ := Aside0.mk (blk_below BK3.out hb); have nO19_ := Aside0.mk (Kd.S_below HO19.out hb); have nO22_ := Aside0.mk (Kd.R_below HO22.out hb); have nB7_ := Aside0.mk (blk_below BK7.out hb); have nO28_ := Aside0.mk (Kd.R_below HO28.out hb); have nO35_ := Aside0.mk (Kd.S_below HO35.out hb); have nHB_ := Aside0.mk (below_step HB.out hb); have nHT_ := Aside0.mk (Nat.le_trans HT.out hb.size); clear BK2 BK3 HO19 HO22 BK7 HO28 HO35 HB HT; have BK2 := nB2_; have BK3 := nB3_; have HO19 := nO19_; have HO22 := nO22_; have BK7 := nB7_; have HO28 := nO28_; have HO35 := nO35_; have HB := nHB_; have HT := nHT_; clear nB2_ nB3_ nO19_ nO22_ nB7_ nO28_ nO35_ nHB_ nHT_; have HO61 := Aside0.mk (Kd.S_mono (ok' := fun k_ => T7 ≤ k_) nOn_ (fun k_ hk_ => Nat.le_trans hle_ hk_.2.1)); clear nOn_ hle_ ho; obtain ⟨Ao61, co61, eo61⟩ := Kd.S_slice HO61.out; subst eo61; clear hb; refine hK.out _ _ ⟨(blk_cell BK2.out 0).trans rfl, (blk_cell BK2.out 1).trans rfl, (blk_cell BK3.out 0).trans rfl, (blk_cell BK3.out 1).trans rfl, (blk_cell BK3.out 2).trans rfl, (blk_cell BK3.out 3).trans rfl⟩ (fun hHeld => ?_); clear hK K; refine norm_ (a' := ?_) ?_ ?_; rotate_left
  · show Act.put _ (some 61) _ = _
    simp only [Act.put, List.setIfInBounds_toArray, List.set_cons_zero, List.set_cons_succ, i64_w, i32_w]
    rfl
  refine one_ (i := 3) (N := some 63) #[true, true, true, true, false, false] rfl rfl (by kernel_rfl) (by decide) (fun K hK => ?_); refine goes_ Try.func48 (by kernel_rfl) rfl #[.agg #[.int .i64 a1_0, .int .i64 a1_1, .int .i64 a1_2, .int .i64 a1_3]] (by rfl) rfl rfl dz ?_; refine (laws_toBox.calls a1_0 a1_1 a1_2 a1_3 r63_0 r63_1 r63_2 r63_3 _ E63.out).mono ?_
  rintro e W24 ⟨rfl, hb⟩
  refine ⟨_, rfl, ?_⟩; have nB2_ := Aside0.mk (blk_below BK2.out hb); have nB3_ := Aside0.mk (blk_below BK3.out hb); have nO19_ := Aside0.mk (Kd.S_below HO19.out hb); have nO22_ := Aside0.mk (Kd.R_below HO22.out hb); have nB7_ := Aside0.mk (blk_below BK7.out hb); have nO28_ := Aside0.mk (Kd.R_below HO28.out hb); have nO35_ := Aside0.mk (Kd.S_below HO35.out hb); have nO61_ := Aside0.mk (Kd.S_below HO61.out hb); have nHB_ := Aside0.mk (below_step HB.out hb); have nHT_ := Aside0.mk (Nat.le_trans HT.out hb.size); clear BK2 BK3 HO19 HO22 BK7 HO28 HO35 HO61 HB HT; have BK2 := nB2_; have BK3 := nB3_; have HO19 := nO19_; have HO22 := nO22_; have BK7 := nB7_; have HO28 := nO28_; have HO35 := nO35_; have HO61 := nO61_; have HB := nHB_; have HT := nHT_; clear nB2_ nB3_ nO19_ nO22_ nB7_ nO28_ nO35_ nO61_ nHB_ nHT_; clear hb; refine hK.out _ _ ⟨(blk_cell BK2.out 0).trans rfl, (blk_cell BK2.out 1).trans rfl, (blk_cell BK3.out 0).trans rfl, (blk_cell BK3.out 1).trans rfl, (blk_cell BK3.out 2).trans rfl, (blk_cell BK3.out 3).trans rfl⟩ (fun hHeld => ?_); clear hK K; refine norm_ (a' := ?_) ?_ ?_; rotate_left
  · show Act.put _ (some 63) _ = _
    simp only [Act.put, List.setIfInBounds_toArray, List.set_cons_zero, List.set_cons_succ, i64_w, i32_w]
    rfl
  refine one_ (i := 4) (N := some 64) #[true, true, true, true, true, false] rfl rfl (by kernel_rfl) (by decide) (fun K hK => ?_); refine goes_ Try.func54 (by kernel_rfl) rfl #[.agg #[.int .i64 r61_0, .slice Ao61 r61_1.length co61], .agg #[.int .i64 r63_0, .int .i64 r63_1, .int .i64 r63_2, .int .i64 r63_3]] (by rfl) rfl rfl dz ?_; refine (impl_Search.calls k r61_0 _ _ r61_1 r63_0 r63_1 r63_2 r63_3 r64_0 _ (Kd.S_reads' HO61.out).2.2 (Kd.S_reads' HO61.out).2.1 E64.out).mono ?_
  rintro e W25 ⟨v64, rfl, ho, hb⟩
  refine ⟨_, rfl, ?_⟩; have nOn_ := Kd.R_lower (Kd.R_bound ho) HB.out.size; have hle_ := HT.out; have nB2_ := Aside0.mk (blk_below BK2.out hb); have nB3_ := Aside0.mk (blk_below BK3.out hb); have nO19_ := Aside0.mk (Kd.S_below HO19.out hb); have nO22_ := Aside0.mk (Kd.R_below HO22.out hb); have nB7_ := Aside0.mk (blk_below BK7.out hb); have nO28_ := Aside0.mk (Kd.R_below HO28.out hb); have nO35_ := Aside0.mk (Kd.S_below HO35.out hb); have nO61_ := Aside0.mk (Kd.S_below HO61.out hb); have nHB_ := Aside0.mk (below_step HB.out hb); have nHT_ := Aside0.mk (Nat.le_trans HT.out hb.size); clear BK2 BK3 HO19 HO22 BK7 HO28 HO35 HO61 HB HT; have BK2 := nB2_; have BK3 := nB3_; have HO19 := nO19_; have HO22 := nO22_; have BK7 := nB7_; have HO28 := nO28_; have HO35 := nO35_; have HO61 := nO61_; have HB := nHB_; have HT := nHT_; clear nB2_ nB3_ nO19_ nO22_ nB7_ nO28_ nO35_ nO61_ nHB_ nHT_; have HO64 := Aside0.mk (Kd.R_mono (ok' := fun k_ => T7 ≤ k_) nOn_ (fun k_ hk_ => Nat.le_trans hle_ hk_.2.1)); clear nOn_ hle_ ho; obtain ⟨Ao64, co64, eo64⟩ := Kd.R_slice HO64.out; subst eo64; clear hb; refine hK.out _ _ ⟨(blk_cell BK2.out 0).trans rfl, (blk_cell BK2.out 1).trans rfl, (blk_cell BK3.out 0).trans rfl, (blk_cell BK3.out 1).trans rfl, (blk_cell BK3.out 2).trans rfl, (blk_cell BK3.out 3).trans rfl⟩ (fun hHeld => ?_); clear hK K; refine norm_ (a' := ?_) ?_ ?_; rotate_left
  · show Act.put _ (some 64) _ = _
    simp only [Act.put, List.setIfInBounds_toArray, List.set_cons_zero, List.set_cons_succ, i64_w, i32_w]
    rfl
  refine pure_ (i := 5) (N := some 12) (v := ?_) (a' := ?_) #[true, true, true, true, true, true] rfl rfl (by kernel_rfl) (fun _ _ _ h => h) (Or.inl ⟨by rfl, ?_⟩) ?_ ?_; rotate_left
  · intro w'
    go_simp
    with_reducible rfl
  rotate_left
  · exact pz
  refine done_ (by kernel_rfl) ?_; clear hHeld; obtain ⟨T8, hT8⟩ : ∃ n_, n_ = W25.heap.size := ⟨_, rfl⟩; have ORD8 := Aside0.mk (show T7 ≤ T8 from by rw [hT8]; exact HT.out); clear HT; have HT := Aside0.mk (Nat.le_of_eq hT8); have nO_ := Aside0.mk (Kd.S_mono (ok' := fun k_ => T7 ≤ k_ ∧ k_ < T8) (Kd.S_bound HO61.out) (fun k_ hk_ => ⟨hk_.1, by rw [hT8]; exact hk_.2.2.1⟩)); clear HO61; have HO61 := nO_; clear nO_; have nO_ := Aside0.mk (Kd.R_mono (ok' := fun k_ => T7 ≤ k_ ∧ k_ < T8) (Kd.R_bound HO64.out) (fun k_ hk_ => ⟨hk_.1, by rw [hT8]; exact hk_.2.2.1⟩)); clear HO64; have HO64 := nO_; clear nO_; clear hT8; obtain ⟨WE8, hwe_⟩ : ∃ x_, x_ = W25 := ⟨_, rfl⟩; rw [← hwe_] at HB HT BK2 BK3 HO19 HO22 BK7 HO28 HO35 HO61 HO64; rw [← hwe_]; clear hwe_; have hk2_0 : WE8.cell? ⟨g2, 0, none⟩ = some (.int .i64 a0_0) := (blk_cell BK2.out 0).trans rfl; have hk2_1 : WE8.cell? ⟨g2, 1, none⟩ = some (.slice A0_1 l0_1.length c0_1) := (blk_cell BK2.out 1).trans rfl; have hk3_0 : WE8.cell? ⟨g3, 0, none⟩ = some (.int .i64 a1_0) := (blk_cell BK3.out 0).trans rfl; have hk3_1 : WE8.cell? ⟨g3, 1, none⟩ = some (.int .i64 a1_1) := (blk_cell BK3.out 1).trans rfl; have hk3_2 : WE8.cell? ⟨g3, 2, none⟩ = some (.int .i64 a1_2) := (blk_cell BK3.out 2).trans rfl; have hk3_3 : WE8.cell? ⟨g3, 3, none⟩ = some (.int .i64 a1_3) := (blk_cell BK3.out 3).trans rfl; have hk7_0 : WE8.cell? ⟨g7, 0, none⟩ = some (.int .i64 r24_0) := (blk_cell BK7.out 0).trans rfl; have hk7_1 : WE8.cell? ⟨g7, 1, none⟩ = some (.slice Ao24 r24_1.length co24) := (blk_cell BK7.out 1).trans rfl
  go_wp2_with (first
    | ((with_reducible refine gate_dst (N := 67) rfl ?_); refine goesL_ (some 67) rfl rfl Try.func20 (by kernel_rfl) rfl #[.slice Ao64 r64_0.length co64, .slice Ao22 r22_0.length co22] rfl dz ?_; refine (laws_eqItemS.calls k _ _ r64_0 _ _ r22_0 true _ (Kd.R_reads' HO64.out).2.2 (Kd.R_reads' HO64.out).2.1 (Kd.R_reads' HO22.out).2.2 (Kd.R_reads' HO22.out).2.1 E67.out).mono ?_; rintro e W26 ⟨rfl, hb⟩; refine ⟨_, rfl, ?_⟩; clear hk2_0 hk2_1; clear hk3_0 hk3_1 hk3_2 hk3_3; clear hk7_0 hk7_1; have nB2_ := Aside0.mk (blk_below BK2.out hb); have nB3_ := Aside0.mk (blk_below BK3.out hb); have nO19_ := Aside0.mk (Kd.S_below HO19.out hb); have nO22_ := Aside0.mk (Kd.R_below HO22.out hb); have nB7_ := Aside0.mk (blk_below BK7.out hb); have nO28_ := Aside0.mk (Kd.R_below HO28.out hb); have nO35_ := Aside0.mk (Kd.S_below HO35.out hb); have nO61_ := Aside0.mk (Kd.S_below HO61.out hb); have nO64_ := Aside0.mk (Kd.R_below HO64.out hb); have nHB_ := Aside0.mk (below_step HB.out hb); have nHT_ := Aside0.mk (Nat.le_trans HT.out hb.size); clear BK2 BK3 HO19 HO22 BK7 HO28 HO35 HO61 HO64 HB HT; have BK2 := nB2_; have BK3 := nB3_; have HO19 := nO19_; have HO22 := nO22_; have BK7 := nB7_; have HO28 := nO28_; have HO35 := nO35_; have HO61 := nO61_; have HO64 := nO64_; have HB := nHB_; have HT := nHT_; clear nB2_ nB3_ nO19_ nO22_ nB7_ nO28_ nO35_ nO61_ nO64_ nHB_ nHT_; clear hb; have hk2_0 : W26.cell? ⟨g2, 0, none⟩ = some (.int .i64 a0_0) := (blk_cell BK2.out 0).trans rfl; have hk2_1 : W26.cell? ⟨g2, 1, none⟩ = some (.slice A0_1 l0_1.length c0_1) := (blk_cell BK2.out 1).trans rfl; have hk3_0 : W26.cell? ⟨g3, 0, none⟩ = some (.int .i64 a1_0) := (blk_cell BK3.out 0).trans rfl; have hk3_1 : W26.cell? ⟨g3, 1, none⟩ = some (.int .i64 a1_1) := (blk_cell BK3.out 1).trans rfl; have hk3_2 : W26.cell? ⟨g3, 2, none⟩ = some (.int .i64 a1_2) := (blk_cell BK3.out 2).trans rfl; have hk3_3 : W26.cell? ⟨g3, 3, none⟩ = some (.int .i64 a1_3) := (blk_cell BK3.out 3).trans rfl; have hk7_0 : W26.cell? ⟨g7, 0, none⟩ = some (.int .i64 r24_0) := (blk_cell BK7.out 0).trans rfl; have hk7_1 : W26.cell? ⟨g7, 1, none⟩ = some (.slice Ao24 r24_1.length co24) := (blk_cell BK7.out 1).trans rfl)
    | ((with_reducible refine gate_dst (N := 71) rfl ?_); refine goesL_ (some 71) rfl rfl Try.func22 (by kernel_rfl) rfl #[.slice Ao28 r28_0.length co28, .int .i64 1] rfl dz ?_; refine calls_args (by rw [LN28.out]) ((laws_heldItemS.calls k Ao28 co28 r51_1 1 r71_0 _ (Kd.R_reads' HO28.out).2.2 (by rw [← LN28.out]; exact (Kd.R_reads' HO28.out).2.1) E71.out).mono ?_); rintro e W27 ⟨rfl, hd⟩; refine ⟨_, rfl, ?_⟩; have hb := Drawn0.below hd; clear hd; clear hk2_0 hk2_1; clear hk3_0 hk3_1 hk3_2 hk3_3; clear hk7_0 hk7_1; have nB2_ := Aside0.mk (blk_below BK2.out hb); have nB3_ := Aside0.mk (blk_below BK3.out hb); have nO19_ := Aside0.mk (Kd.S_below HO19.out hb); have nO22_ := Aside0.mk (Kd.R_below HO22.out hb); have nB7_ := Aside0.mk (blk_below BK7.out hb); have nO28_ := Aside0.mk (Kd.R_below HO28.out hb); have nO35_ := Aside0.mk (Kd.S_below HO35.out hb); have nO61_ := Aside0.mk (Kd.S_below HO61.out hb); have nO64_ := Aside0.mk (Kd.R_below HO64.out hb); have nHB_ := Aside0.mk (below_step HB.out hb); have nHT_ := Aside0.mk (Nat.le_trans HT.out hb.size); clear BK2 BK3 HO19 HO22 BK7 HO28 HO35 HO61 HO64 HB HT; have BK2 := nB2_; have BK3 := nB3_; have HO19 := nO19_; have HO22 := nO22_; have BK7 := nB7_; have HO28 := nO28_; have HO35 := nO35_; have HO61 := nO61_; have HO64 := nO64_; have HB := nHB_; have HT := nHT_; clear nB2_ nB3_ nO19_ nO22_ nB7_ nO28_ nO35_ nO61_ nO64_ nHB_ nHT_; clear hb; have hk2_0 : W27.cell? ⟨g2, 0, none⟩ = some (.int .i64 a0_0) := (blk_cell BK2.out 0).trans rfl; have hk2_1 : W27.cell? ⟨g2, 1, none⟩ = some (.slice A0_1 l0_1.length c0_1) := (blk_cell BK2.out 1).trans rfl; have hk3_0 : W27.cell? ⟨g3, 0, none⟩ = some (.int .i64 a1_0) := (blk_cell BK3.out 0).trans rfl; have hk3_1 : W27.cell? ⟨g3, 1, none⟩ = some (.int .i64 a1_1) := (blk_cell BK3.out 1).trans rfl; have hk3_2 : W27.cell? ⟨g3, 2, none⟩ = some (.int .i64 a1_2) := (blk_cell BK3.out 2).trans rfl; have hk3_3 : W27.cell? ⟨g3, 3, none⟩ = some (.int .i64 a1_3) := (blk_cell BK3.out 3).trans rfl; have hk7_0 : W27.cell? ⟨g7, 0, none⟩ = some (.int .i64 r24_0) := (blk_cell BK7.out 0).trans rfl; have hk7_1 : W27.cell? ⟨g7, 1, none⟩ = some (.slice Ao24 r24_1.length co24) := (blk_cell BK7.out 1).trans rfl))
  go_ret; exact ⟨rfl, HB.out⟩

end Go.Proofs.Ytngjaajcdbodeaa.All

/- Opening of arguments: what reads as data of a type is of its kind. No condition. -/
namespace Go.Proofs.Ytngjaajcdbodeaa.Op
open Go.Proofs.YtngjaajcdbodeaaW.PrintWords
open Go.Deep
set_option linter.unusedVariables false

/-- What reads as data of type t is of the kind d, and good. -/
def Opens {α : Type} (P : Program) (t : TypeId) (d : Kd α) (good : α → Prop) : Prop :=
  ∀ {H : Type} {enc : TypeId × Value → H} {w : World} {base : Nat} {spare : Nat → Bool} {held : Bool} {fuel : Nat} {cs : List Value} {x : DataW H × List MemPlace},
    DataW.trod enc P w base spare held fuel t cs = some x → ∃ y, d.K w y cs ∧ good y

def goodInt (n : Int) : Prop := -9223372036854775808 ≤ n ∧ n ≤ 9223372036854775807

theorem goodInt_of_wf {n : Int} (h : (Lit.int .i64 n).wf = true) : goodInt n := by
  simp [Lit.wf, IntKind.min, IntKind.max, IntKind.signed, IntKind.bits] at h
  unfold goodInt
  omega

theorem opens_int {P : Program} {t : TypeId} (ht : P.underlying t = some (.int .i64)) : Opens P t (Kd.int .i64) goodInt := by
  intro H enc w base spare held fuel cs x h
  obtain ⟨n, rfl, _, hw⟩ := DataW.trod_int ht h; exact ⟨n, rfl, goodInt_of_wf hw⟩

theorem opens_bool {P : Program} {t : TypeId} (ht : P.underlying t = some .bool) : Opens P t Kd.bool (fun _ => True) := by
  intro H enc w base spare held fuel cs x h
  obtain ⟨n, rfl, _⟩ := DataW.trod_bool ht h; exact ⟨n, rfl, trivial⟩

theorem opens_slice {α : Type} {P : Program} {t e : TypeId} {d : Kd α} {good : α → Prop} (ht : P.underlying t = some (.slice e)) (hC : P.cellsOf e = d.sz) (he : Opens P e d good) :
    Opens P t (Kd.slice e d) (fun xs => xs.length ≤ 9223372036854775807 ∧ ∀ y ∈ xs, good y) := by
  intro H enc w base spare held fuel cs x h
  rcases open_slice ht h with ⟨rfl, _⟩ | ⟨a, len, cap, m, n, D, Pl, rfl, hb, hl, hm, hmm, rfl, hx⟩
  · exact ⟨[], ⟨none, 0, rfl, Nat.le_refl _, ⟨rfl, by simp, fun h => absurd h (Nat.lt_irrefl 0)⟩⟩, by simp, by simp⟩
  · have hlm : len ≤ m := by rw [hmm]; split <;> omega
    have hex : ∀ i : Nat, ∃ y : α ⊕ Unit, i < len → ∃ z cs', y = .inl z ∧ d.K w z cs' ∧ good z ∧ w.cells? base (a.add (i * d.sz)) d.sz = some cs' := by
      intro i
      by_cases hi : i < len
      · obtain ⟨cs', h1, h2⟩ := hx i (by omega)
        obtain ⟨z, hz, hg⟩ := he h2; exact ⟨.inl z, fun _ => ⟨z, cs', rfl, hz, hg, by rw [← hC]; exact h1⟩⟩
      · exact ⟨.inr (), fun h => absurd h hi⟩
    obtain ⟨f, hf⟩ := Classical.axiomOfChoice hex
    have hlist : ∀ k, k ≤ len → ∃ ys : List α, ys.length = k ∧ ∀ i y, ys[i]? = some y → f i = .inl y := by
      intro k
      induction k with
      | zero => exact fun _ => ⟨[], rfl, fun i y h => by simp at h⟩
      | succ k ih =>
        intro hk
        obtain ⟨ys, hys, hall⟩ := ih (by omega); obtain ⟨z, cs', hz, _⟩ := hf k (by omega); refine ⟨ys ++ [z], by simp [hys], fun i y hy => ?_⟩
        rcases Nat.lt_or_ge i ys.length with hi | hi
        · rw [List.getElem?_append_left hi] at hy
          exact hall i y hy
        · have hik : i = k := by
            have := (List.getElem?_eq_some_iff.1 hy).1
            simp at this
            omega
          subst hik; rw [List.getElem?_append_right (by omega)] at hy
          simp [hys] at hy
          rw [hz, hy]
    obtain ⟨ys, hys, hall⟩ := hlist len (Nat.le_refl _)
    have hget : ∀ i y, ys[i]? = some y → ∃ cs', d.K w y cs' ∧ good y ∧ w.cells? base (a.add (i * d.sz)) d.sz = some cs' := by
      intro i y hy
      have hi : i < len := by rw [← hys]; exact (List.getElem?_eq_some_iff.1 hy).1
      obtain ⟨z, cs', hz, hK, hg, hc⟩ := hf i hi; have := hall i y hy; rw [hz] at this
      cases this
      exact ⟨cs', hK, hg, hc⟩
    subst hys; refine ⟨ys, ⟨some a, cap, rfl, hl, ⟨rfl, by unfold maxLen at hm; omega, fun _ => ⟨a, rfl, fun j p hp => ?_⟩⟩⟩, by unfold maxLen at hm; omega, fun y hy => ?_⟩
    · obtain ⟨cs', hK, _, hc⟩ := hget j p hp
      obtain ⟨_, hcl, hat⟩ := World.cells?_some hc; refine ⟨cs', hcl, hK, fun i u hu => ?_⟩
      have hi : i < d.sz := by rw [← hcl]; exact (List.getElem?_eq_some_iff.1 hu).1
      have := hat i hi; rw [← Go.Deep.add_add, this, hu]
    · obtain ⟨i, hi⟩ := List.getElem?_of_mem hy
      obtain ⟨_, _, hg, _⟩ := hget i y hi; exact hg

theorem opens_pair2 {α β γ : Type} {P : Program} {t : TypeId} {f0 f1 : Field} {d0 : Kd α} {d1 : Kd β} {g0 : α → Prop} {g1 : β → Prop} (f : γ → α × β) (mk : α → β → γ) (hmk : ∀ a b, f (mk a b) = (a, b))
    (ht : P.underlying t = some (.struct #[f0, f1])) (hc : P.cellsOf t = d0.sz + d1.sz) (ho0 : f0.offset = 0) (ho1 : f1.offset = d0.sz) (hc0 : P.cellsOf f0.type = d0.sz) (hc1 : P.cellsOf f1.type = d1.sz)
    (h0 : Opens P f0.type d0 g0) (h1 : Opens P f1.type d1 g1) : Opens P t (Kd.iso (Kd.pair d0 d1) f) (fun y => g0 (f y).1 ∧ g1 (f y).2) := by
  intro H enc w base spare held fuel cs x h
  obtain ⟨y0, y1, n, _, hl, ht0, ht1⟩ := ChangeShapes.trod_struct2 ht h; obtain ⟨a, ha, ga⟩ := h0 ht0; obtain ⟨b, hb, gb⟩ := h1 ht1; rw [ho0, hc0] at ha; rw [ho1, hc1] at hb; refine ⟨mk a b, ⟨_, _, ?_, by rw [hmk]; exact ha, by rw [hmk]; exact hb⟩, show g0 (f (mk a b)).1 ∧ g1 (f (mk a b)).2 by rw [hmk]; exact ⟨ga, gb⟩⟩; rw [List.drop_zero, List.take_of_length_le (l := List.drop d0.sz cs) (by rw [List.length_drop]; omega), List.take_append_drop]

def goodByte (n : Int) : Prop := 0 ≤ n ∧ n ≤ 255

theorem opens_byte {P : Program} {t : TypeId} (ht : P.underlying t = some (.int .u8)) : Opens P t (Kd.int .u8) goodByte := by
  intro H enc w base spare held fuel cs x h
  obtain ⟨n, rfl, _, hw⟩ := DataW.trod_int ht h; refine ⟨n, rfl, ?_⟩
  simp [Lit.wf, IntKind.min, IntKind.max, IntKind.signed, IntKind.bits] at hw
  unfold goodByte
  omega

theorem opens_int4 {γ : Type} {P : Program} {t : TypeId} {f0 f1 f2 f3 : Field} {g0 g1 g2 g3 : Int → Prop} (f : γ → Int × Int × Int × Int) (mk : Int → Int → Int → Int → γ) (hmk : ∀ a b c d, f (mk a b c d) = (a, b, c, d))
    (ht : P.underlying t = some (.struct #[f0, f1, f2, f3])) (hc : P.cellsOf t = 4) (ho0 : f0.offset = 0) (ho1 : f1.offset = 1) (ho2 : f2.offset = 2) (ho3 : f3.offset = 3)
    (hc0 : P.cellsOf f0.type = 1) (hc1 : P.cellsOf f1.type = 1) (hc2 : P.cellsOf f2.type = 1) (hc3 : P.cellsOf f3.type = 1)
    (h0 : Opens P f0.type (Kd.int .i64) g0) (h1 : Opens P f1.type (Kd.int .i64) g1) (h2 : Opens P f2.type (Kd.int .i64) g2) (h3 : Opens P f3.type (Kd.int .i64) g3) :
    Opens P t (Kd.iso (Kd.pair (Kd.int .i64) (Kd.pair (Kd.int .i64) (Kd.pair (Kd.int .i64) (Kd.int .i64)))) f) (fun y => g0 (f y).1 ∧ g1 (f y).2.1 ∧ g2 (f y).2.2.1 ∧ g3 (f y).2.2.2) := by
  intro H enc w base spare held fuel cs x h
  obtain ⟨xs, n, _, _, hl, hlen, hf⟩ := DataW.trod_struct ht h
  have hn : ∀ i, i < 4 → ∃ y, xs[i]? = some y := fun i hi => ⟨_, List.getElem?_eq_getElem (by rw [hlen]; exact hi)⟩
  obtain ⟨y0, e0⟩ := hn 0 (by omega); obtain ⟨y1, e1⟩ := hn 1 (by omega); obtain ⟨y2, e2⟩ := hn 2 (by omega); obtain ⟨y3, e3⟩ := hn 3 (by omega); obtain ⟨a, ha, ga⟩ := h0 ((hf 0 f0 rfl).trans e0); obtain ⟨b, hb, gb⟩ := h1 ((hf 1 f1 rfl).trans e1); obtain ⟨c, hcc, gc⟩ := h2 ((hf 2 f2 rfl).trans e2); obtain ⟨d, hd, gd⟩ := h3 ((hf 3 f3 rfl).trans e3); rw [ho0, hc0] at ha; rw [ho1, hc1] at hb; rw [ho2, hc2] at hcc; rw [ho3, hc3] at hd; rw [hc] at hl
  match cs, hl with
  | [v0, v1, v2, v3], _ =>
    have ea : v0 = .int .i64 a := by simpa [Kd.int, Kd.scalar] using ha
    have eb : v1 = .int .i64 b := by simpa [Kd.int, Kd.scalar] using hb
    have ec : v2 = .int .i64 c := by simpa [Kd.int, Kd.scalar] using hcc
    have ed : v3 = .int .i64 d := by simpa [Kd.int, Kd.scalar] using hd
    subst ea eb ec ed; refine ⟨mk a b c d, ?_, ?_⟩
    · show (Kd.pair (Kd.int .i64) (Kd.pair (Kd.int .i64) (Kd.pair (Kd.int .i64) (Kd.int .i64)))).K w (f (mk a b c d)) _
      rw [hmk]; exact ⟨[_], [_, _, _], rfl, rfl, ⟨[_], [_, _], rfl, rfl, ⟨[_], [_], rfl, rfl, rfl⟩⟩⟩
    · show g0 (f (mk a b c d)).1 ∧ g1 (f (mk a b c d)).2.1 ∧ g2 (f (mk a b c d)).2.2.1 ∧ g3 (f (mk a b c d)).2.2.2
      rw [hmk]; exact ⟨ga, gb, gc, gd⟩

end Go.Proofs.Ytngjaajcdbodeaa.Op

/- What reads as data of the laws' argument types is of their kinds. -/
namespace Go.Proofs.Ytngjaajcdbodeaa.Op
open Go.Proofs.Ytngjaajcdbodeaa.All Go.Proofs.YtngjaajcdbodeaaW.PrintWords
def good3 (n : Int) : Prop := goodInt n
theorem op3 : Opens Try.prog 3 (Kd.int .i64) good3 := opens_int Try.underlying3
def good4 (_ : Bool) : Prop := True
theorem op4 : Opens Try.prog 4 Kd.bool good4 := opens_bool Try.underlying4
def good24 (x : S24) : Prop := good3 x.f0 ∧ good3 x.f1 ∧ good3 x.f2 ∧ good3 x.f3
theorem op24 : Opens Try.prog 24 k24 good24 := opens_int4 (fun x : S24 => (x.f0, x.f1, x.f2, x.f3)) (fun a b c d => ⟨a, b, c, d⟩) (fun _ _ _ _ => rfl) Try.underlying24 (by kernel_rfl) rfl rfl rfl rfl (by kernel_rfl) (by kernel_rfl) (by kernel_rfl) (by kernel_rfl) op3 op3 op3 op3
def good122 (x : S122) : Prop := good3 x.f0 ∧ good24 x.f1
theorem op122 : Opens Try.prog 122 k122 good122 := opens_pair2 (d0 := (Kd.int .i64)) (d1 := k24) (fun x : S122 => (x.f0, x.f1)) (fun a b => ⟨a, b⟩) (fun _ _ => rfl) Try.underlying122 (by kernel_rfl) rfl rfl (by kernel_rfl) (by kernel_rfl) op3 op24
def good42 (xs : List (S122)) : Prop := xs.length ≤ 9223372036854775807 ∧ ∀ y ∈ xs, good122 y
theorem op42 : Opens Try.prog 42 (Kd.slice 122 k122) good42 := opens_slice Try.underlying42 (by kernel_rfl) op122
def good44 (x : S44) : Prop := good4 x.f0 ∧ good42 x.f1
theorem op44 : Opens Try.prog 44 k44 good44 := opens_pair2 (d0 := Kd.bool) (d1 := (Kd.slice 122 k122)) (fun x : S44 => (x.f0, x.f1)) (fun a b => ⟨a, b⟩) (fun _ _ => rfl) Try.underlying44 (by kernel_rfl) rfl rfl (by kernel_rfl) (by kernel_rfl) op4 op42
def good118 (x : S118) : Prop := good4 x.f0 ∧ good44 x.f1
theorem op118 : Opens Try.prog 118 k118 good118 := opens_pair2 (d0 := Kd.bool) (d1 := k44) (fun x : S118 => (x.f0, x.f1)) (fun a b => ⟨a, b⟩) (fun _ _ => rfl) Try.underlying118 (by kernel_rfl) rfl rfl (by kernel_rfl) (by kernel_rfl) op4 op44
def good39 (xs : List (S118)) : Prop := xs.length ≤ 9223372036854775807 ∧ ∀ y ∈ xs, good118 y
theorem op39 : Opens Try.prog 39 (Kd.slice 118 k118) good39 := opens_slice Try.underlying39 (by kernel_rfl) op118
def good41 (x : (Int × List (S118))) : Prop := good3 x.1 ∧ good39 x.2
theorem op41 : Opens Try.prog 41 (Kd.iso (Kd.pair (Kd.int .i64) (Kd.slice 118 k118)) (fun x : (Int × List (S118)) => x)) good41 := opens_pair2 (d0 := (Kd.int .i64)) (d1 := (Kd.slice 118 k118)) (fun x : (Int × List (S118)) => x) (fun a b => (a, b)) (fun _ _ => rfl) Try.underlying41 (by kernel_rfl) rfl rfl (by kernel_rfl) (by kernel_rfl) op3 op39
end Go.Proofs.Ytngjaajcdbodeaa.Op

/- Plain laws of the printed functions over lists of entries: what is made of a list. No condition. -/
namespace Go.Proofs.Ytngjaajcdbodeaa.Pure
open Go.RowKit Go.Proofs.Ytngjaajcdbodeaa.All Go.Proofs.YtngjaajcdbodeaaW.PrintWords Go.Proofs.YtngjaajcdbodeaaW.PrintLast Go.Proofs.Ytngjaajcdbodeaa.Sq
set_option linter.unusedVariables false

def big : Nat := 1152921504606846976
theorem wrap_small {a : Int} (h0 : -9223372036854775808 ≤ a) (h1 : a ≤ 9223372036854775807) : wrap64 a = a := by
  unfold wrap64
  omega
theorem wrap_succ {i n : Nat} (h : i < n) (hn : n ≤ big) : wrap64 ((i : Int) + 1) = ((i + 1 : Nat) : Int) := by
  unfold big at hn; rw [wrap_small (by omega) (by omega)]
  omega
/-- A loop, told from its end. -/
theorem down {P : Nat → Prop} : ∀ (n : Nat), (∀ i, i < n → P (i + 1) → P i) → P n → P 0
  | 0, _, h => h
  | n + 1, hs, h => down n (fun i hi => hs i (by omega)) (hs n (by omega) h)
/-- The same from i on. -/
theorem downFrom {P : Nat → Prop} (i : Nat) : ∀ (d : Nat), (∀ j, i ≤ j → j < i + d → P (j + 1) → P j) → P (i + d) → P i
  | 0, _, h => h
  | d + 1, hs, h => downFrom i d (fun j h0 hj => hs j h0 (by omega)) (hs (i + d) (by omega) (by omega) h)

theorem rdE_at (l : List En) (i : Nat) : rd_T103 l (i : Int) = l.getD i z103 := rfl
theorem rdB_at (l : List Bx) (i : Nat) : rd_T32 l (i : Int) = l.getD i z32 := rfl

/-- A loop that fills a row of the same length. -/
theorem fill_loop {α β : Type} {L : Nat → List α → List β → Int → Option (List β)} {f : α → β} {F : Nat → α → Option β} (d : α)
    (hstep : ∀ k (xs : List α) (acc : List β) (i : Nat), i < xs.length → acc.length = xs.length → L (k + 1) xs acc i = (F k (xs.getD i d)).bind fun y => L k xs (acc.set i y) (wrap64 ((i : Int) + 1)))
    (hstop : ∀ k (xs : List α) (acc : List β), L (k + 1) xs acc xs.length = some acc)
    (xs : List α) (hl : xs.length ≤ big) (hF : ∀ x ∈ xs, Evn (fun k => F k x) (f x)) (z : β) : Evn (fun k => L k xs (List.replicate xs.length z) 0) (xs.map f) := by
  have key : Evn (fun k => L k xs ((xs.take 0).map f ++ List.replicate (xs.length - 0) z) ((0 : Nat) : Int)) (xs.map f) := by
    refine down (P := fun i => Evn (fun k => L k xs ((xs.take i).map f ++ List.replicate (xs.length - i) z) (i : Int)) (xs.map f)) xs.length (fun i hi h => ?_) ?_
    · refine Evn.step (fun k => hstep k xs _ i hi (by simp; omega)) ?_
      refine Evn.bind (hF _ ?_) ?_
      · rw [List.getD_eq_getElem?_getD, List.getElem?_eq_getElem hi]
        exact List.getElem_mem hi
      · rw [wrap_succ hi hl]
        refine Evn.same h (fun k => ?_)
        congr 1
        have hi' : (List.map f (List.take i xs)).length = i := by simp; omega
        rw [List.set_append, if_neg (by omega), hi', Nat.sub_self]; obtain ⟨m, hm⟩ : ∃ m, xs.length - i = m + 1 := ⟨xs.length - i - 1, by omega⟩; rw [hm, show xs.length - (i + 1) = m from by omega, List.replicate_succ, List.set_cons_zero, List.take_succ_eq_append_getElem hi, List.map_append, List.append_assoc, List.getD_eq_getElem?_getD, List.getElem?_eq_getElem hi]
        rfl
    · refine Evn.step (fun k => ?_) (Evn.ret _)
      rw [hstop]
      simp
  simpa using key

def toB (b : LBx) : Bx := ⟨b.f0, b.f1, b.f2, b.f3⟩
def toE (e : LEn) : En := ⟨e.f0, toB e.f1⟩
theorem toEntryS_f (l : List LEn) (hl : l.length ≤ 1048576) : Evn (fun k => laws_toEntryS.f k l) (l.map toE) := by
  have h := fill_loop (L := laws_toEntryS.l0) (f := toE) (F := fun _ x => some (toE x)) z122 (fun k xs acc i hi ha => by
    simp only [laws_toEntryS.l0]
    rw [if_pos (by omega), if_pos (by omega)]
    simp only [laws_toEntry.f, laws_toBox.f, Option.bind_some]
    rw [if_pos (by omega)]
    rfl) (fun k xs acc => by simp only [laws_toEntryS.l0]; rw [if_neg (by omega)]) l (by unfold big; omega) (fun x _ => Evn.ret _) z103
  unfold laws_toEntryS.f; refine Evn.pos (by omega) (Evn.pos (by omega) ?_); exact h

/-- A loop that compares a row with itself. -/
theorem same_loop {α : Type} {L : Nat → List α → List α → Int → Option Bool}
    (hstep : ∀ k (xs : List α) (i : Nat), i < xs.length → L (k + 1) xs xs i = L k xs xs (wrap64 ((i : Int) + 1)))
    (hstop : ∀ k (xs : List α), L (k + 1) xs xs xs.length = some true) (xs : List α) (hl : xs.length ≤ big) : Evn (fun k => L k xs xs 0) true := by
  refine down (P := fun i => Evn (fun k => L k xs xs (i : Int)) true) xs.length (fun i hi h => ?_) (Evn.step (fun k => hstop k xs) (Evn.ret _)); refine Evn.step (fun k => hstep k xs i hi) ?_; rw [wrap_succ hi hl]; exact h
theorem eqBox_same (a b c d : Int) : laws_eqBox.f a b c d a b c d = some true := by simp [laws_eqBox.f]
theorem eqEntryS_same (l : List En) (hl : l.length ≤ big) : Evn (fun k => laws_eqEntryS.f k l l) true := by
  unfold laws_eqEntryS.f; refine Evn.pos rfl ?_; refine same_loop (L := laws_eqEntryS.l0) (fun k xs i hi => ?_) (fun k xs => ?_) l hl
  · simp only [laws_eqEntryS.l0]
    rw [if_pos (by omega), if_pos (by omega), if_pos (by omega)]
    simp only [laws_eqEntry.f, eqBox_same, Option.bind_some, if_true]
  · simp only [laws_eqEntryS.l0]
    rw [if_neg (by omega)]

/-- The count of what came in, and what it leaves of a bound. -/
theorem szEntryS_f (l : List LEn) (n : Int) (hn : 0 ≤ n ∧ n ≤ 1048576) (hl : l.length ≤ 9223372036854775807) : laws_szEntryS.f l n = some (if n < l.length then -1 else n - l.length) := by
  unfold laws_szEntryS.f; rw [wrap_small (by omega) (by omega)]
  by_cases h : n < l.length
  · rw [if_pos (by omega), if_pos h]
  · rw [if_neg (by omega), if_neg h]

def marks {α : Type} (f : Int → α) (s : Int) : Int → Nat → List α
  | _, 0 => []
  | n, m + 1 => f n :: marks f s (n + s) m
theorem marks_len {α : Type} (f : Int → α) (s : Int) : ∀ (n : Int) (m : Nat), (marks f s n m).length = m
  | _, 0 => rfl
  | n, m + 1 => by rw [marks, List.length_cons, marks_len f s (n + s) m]
theorem cost_succ (s n : Int) (m : Nat) : n + s * ((m + 1 : Nat) : Int) = n + s + s * (m : Int) := by
  rw [Int.natCast_succ, Int.mul_add, Int.mul_one]
  omega
theorem mark_loop {α : Type} {L : Nat → List α → Int → Int → Option (Int × List α)} {f : Int → α} {s : Int} (hs : 0 ≤ s)
    (hstep : ∀ k (done : List α) (a : α) (rest : List α) (n : Int), 0 ≤ n → n + s ≤ 4611686018427387904 → done.length ≤ 4611686018427387904 → L (k + 1) (done ++ a :: rest) n done.length = L k (done ++ f n :: rest) (n + s) ((done.length + 1 : Nat) : Int))
    (hstop : ∀ k (xs : List α) (n : Int), L (k + 1) xs n xs.length = some (n, xs)) :
    ∀ (rest done : List α) (n : Int), 0 ≤ n → n + s * rest.length ≤ 4611686018427387904 → done.length + rest.length ≤ 4611686018427387904 → Evn (fun k => L k (done ++ rest) n done.length) (n + s * rest.length, done ++ marks f s n rest.length)
  | [], done, n, _, _, _ => by
    refine Evn.step (fun k => ?_) (Evn.ret _); rw [List.append_nil, hstop]
    simp [marks]
  | a :: rest, done, n, hn, hb, hl => by
    rw [List.length_cons, cost_succ] at hb; rw [List.length_cons] at hl; have hp : 0 ≤ s * (rest.length : Int) := Int.mul_nonneg hs (by omega); have ih := mark_loop hs hstep hstop rest (done ++ [f n]) (n + s) (by omega) hb (by rw [List.length_append]; simp; omega); refine Evn.step (fun k => hstep k done a rest n hn (by omega) (by omega)) ?_; rw [List.length_cons, cost_succ, marks]
    simpa using ih
theorem held_loop {α : Type} {H : Nat → List α → Int → Int → Option Int} {f : Int → α} {s : Int} (hs : 0 ≤ s)
    (hstep : ∀ k (done rest : List α) (n : Int), 0 ≤ n → n + s ≤ 4611686018427387904 → done.length ≤ 4611686018427387904 → H (k + 1) (done ++ f n :: rest) n done.length = H k (done ++ f n :: rest) (n + s) ((done.length + 1 : Nat) : Int))
    (hstop : ∀ k (xs : List α) (n : Int), H (k + 1) xs n xs.length = some n) :
    ∀ (m : Nat) (done : List α) (n : Int), 0 ≤ n → n + s * m ≤ 4611686018427387904 → done.length + m ≤ 4611686018427387904 → Evn (fun k => H k (done ++ marks f s n m) n done.length) (n + s * m)
  | 0, done, n, _, _, _ => by
    refine Evn.step (fun k => ?_) (Evn.ret _); rw [marks, List.append_nil, hstop]
    simp
  | m + 1, done, n, hn, hb, hl => by
    rw [cost_succ] at hb; have hp : 0 ≤ s * (m : Int) := Int.mul_nonneg hs (by omega); have ih := held_loop hs hstep hstop m (done ++ [f n]) (n + s) (by omega) hb (by rw [List.length_append]; simp; omega); rw [marks]; refine Evn.step (fun k => hstep k done _ n hn (by omega) (by omega)) ?_; rw [cost_succ]
    simpa using ih
theorem getD_mid {α : Type} (done : List α) (a : α) (rest : List α) (z : α) : (done ++ a :: rest).getD done.length z = a := by
  rw [List.getD_eq_getElem?_getD, List.getElem?_append_right (Nat.le_refl _), Nat.sub_self]
  rfl
theorem set_mid {α : Type} (done : List α) (a b : α) (rest : List α) : (done ++ a :: rest).set done.length b = done ++ b :: rest := by
  rw [List.set_append, if_neg (by omega), Nat.sub_self, List.set_cons_zero]
theorem succ_small {n : Nat} (h : n ≤ 4611686018427387904) : wrap64 ((n : Int) + 1) = ((n + 1 : Nat) : Int) := by
  rw [wrap_small (by omega) (by omega)]
  omega
theorem mid_lt {α : Type} (done : List α) (a : α) (rest : List α) : (done.length : Int) < ((done ++ a :: rest).length : Int) := by
  rw [List.length_append, List.length_cons]
  omega

def mkI (n : Int) : S34 := ⟨n, ⟨n + 1, n + 2, n + 3, n + 4⟩⟩
theorem w1_upI {n : Int} (h0 : 0 ≤ n) (h1 : n + 1 ≤ 4611686018427387904) : wrap64 (n + 1) = n + 1 := wrap_small (by omega) (by omega)
theorem markItemS_f (l : List S34) (n : Int) (hn : 0 ≤ n) (hb : n + 5 * l.length ≤ 4611686018427387904) : Evn (fun k => laws_markItemS.f k l n) (n + 5 * l.length, marks mkI 5 n l.length) := by
  exact mark_loop (L := laws_markItemS.l0) (f := mkI) (s := 5) (by decide) (fun k done a rest n hn hb hl => by
    rw [laws_markItemS.l0, if_pos (mid_lt _ _ _), if_pos (by omega), Int.toNat_natCast, set_mid, succ_small hl]
    simp only [w1i]
    rw [w1_upI hn (by omega), w1_upI (show 0 ≤ n + 1 by omega) (by omega), w1_upI (show 0 ≤ n + 1 + 1 by omega) (by omega), w1_upI (show 0 ≤ n + 1 + 1 + 1 by omega) (by omega), w1_upI (show 0 ≤ n + 1 + 1 + 1 + 1 by omega) (by omega)]
    have e2 : n + 1 + 1 = n + 2 := by omega
    have e3 : n + 1 + 1 + 1 = n + 3 := by omega
    have e4 : n + 1 + 1 + 1 + 1 = n + 4 := by omega
    have e5 : n + 1 + 1 + 1 + 1 + 1 = n + 5 := by omega
    rw [e5, e4, e3, e2]
    rfl) (fun k xs n => by rw [laws_markItemS.l0, if_neg (by omega)]) l [] n hn hb (by simp; omega)
theorem heldItemS_f (m : Nat) (n : Int) (hn : 0 ≤ n) (hb : n + 5 * m ≤ 4611686018427387904) : Evn (fun k => laws_heldItemS.f k (marks mkI 5 n m) n) (n + 5 * m) := by
  exact held_loop (H := laws_heldItemS.l0) (f := mkI) (s := 5) (by decide) (fun k done rest n hn hb hl => by
    rw [laws_heldItemS.l0, if_pos (mid_lt _ _ _), if_pos (by omega), show rd_T34 (done ++ mkI n :: rest) (done.length : Int) = mkI n from getD_mid done (mkI n) rest _, succ_small hl]; rw [w1_upI hn (by omega), w1_upI (show 0 ≤ n + 1 by omega) (by omega), w1_upI (show 0 ≤ n + 1 + 1 by omega) (by omega), w1_upI (show 0 ≤ n + 1 + 1 + 1 by omega) (by omega), w1_upI (show 0 ≤ n + 1 + 1 + 1 + 1 by omega) (by omega)]
    rw [if_pos (show (mkI n).f0 = n from rfl), if_pos (show (mkI n).f1.f0 = n + 1 from rfl), if_pos (show (mkI n).f1.f1 = n + 1 + 1 by show n + 2 = _; omega), if_pos (show (mkI n).f1.f2 = n + 1 + 1 + 1 by show n + 3 = _; omega), if_pos (show (mkI n).f1.f3 = n + 1 + 1 + 1 + 1 by show n + 4 = _; omega), show n + 1 + 1 + 1 + 1 + 1 = n + 5 by omega]) (fun k xs n => by rw [laws_heldItemS.l0, if_neg (by omega)]) m [] n hn hb (by simp; omega)
theorem eqItemS_same (l : List S34) (hl : l.length ≤ big) : Evn (fun k => laws_eqItemS.f k l l) true := by
  unfold laws_eqItemS.f; refine Evn.pos rfl ?_; refine same_loop (L := laws_eqItemS.l0) (fun k xs i hi => ?_) (fun k xs => ?_) l hl
  · rw [laws_eqItemS.l0, if_pos (by omega), if_pos (by omega), if_pos (by omega)]
    simp only [laws_eqItem.f, eqBox_same, Option.bind_some, if_true]
  · rw [laws_eqItemS.l0, if_neg (by omega)]

abbrev LPg := S118
abbrev Pg := S90
abbrev Nd := S54
abbrev zPg : Pg := z90
def toPg (p : LPg) : Pg := ⟨p.f0, ⟨p.f1.f0, p.f1.f1.map toE⟩⟩
/-- How many entries the pages have together. -/
def heap (l : List LPg) : Nat := (l.map fun p => p.f1.f1.length).sum
theorem heap_snoc (l : List LPg) (i : Nat) (h : i < l.length) : heap (l.take (i + 1)) = heap (l.take i) + l[i].f1.f1.length := by
  unfold heap; rw [List.take_succ_eq_append_getElem h, List.map_append, List.sum_append]
  simp
theorem heap_le (l : List LPg) (i : Nat) : heap (l.take i) ≤ heap l := by
  unfold heap; rw [← List.take_append_drop i l, List.map_append, List.sum_append]
  simp
theorem heap_mem (l : List LPg) (p : LPg) (h : p ∈ l) : p.f1.f1.length ≤ heap l := by
  obtain ⟨i, hi, rfl⟩ := List.getElem_of_mem h; have h1 := heap_snoc l i hi; have h2 := heap_le l (i + 1)
  omega
theorem getD_LPg (l : List LPg) (i : Nat) (h : i < l.length) : l.getD i z118 = l[i] := by rw [List.getD_eq_getElem?_getD, List.getElem?_eq_getElem h]; rfl
theorem rdLPg_at (l : List LPg) (i : Nat) (h : i < l.length) : rd_T118 l (i : Int) = l[i] := getD_LPg l i h
theorem rdPg_at (l : List Pg) (i : Nat) (h : i < l.length) : rd_T90 l (i : Int) = l[i] := by
  show l.getD i zPg = l[i]
  rw [List.getD_eq_getElem?_getD, List.getElem?_eq_getElem h]; rfl

theorem szPage_f (a b : Bool) (l : List LEn) (n : Int) (hn : 0 ≤ n ∧ n ≤ 1048576) (hl : l.length ≤ 9223372036854775807) : laws_szPage.f a b l n = some (if n < l.length then -1 else n - l.length) := by
  unfold laws_szPage.f laws_szNode.f; rw [szEntryS_f l n hn hl]
  simp only [Option.bind_some]
  by_cases h : n < l.length
  · simp [if_pos h]
  · rw [if_neg h, if_neg (by omega)]
    simp only [Option.bind_some]
    rw [if_neg (by omega)]
/-- What is weighed: -1 where it is too much. -/
theorem szPageS_f (l : List LPg) (n : Int) (hn : 0 ≤ n ∧ n ≤ 1048576) (hl : l.length ≤ 9223372036854775807) (hp : ∀ p ∈ l, p.f1.f1.length ≤ 9223372036854775807) :
    Evn (fun k => laws_szPageS.f k l n) (if n < l.length + heap l then -1 else n - l.length - heap l) := by
  unfold laws_szPageS.f; rw [wrap_small (by omega) (by omega)]
  by_cases h0 : n - l.length < 0
  · rw [if_pos (show n < l.length + heap l by omega)]
    exact Evn.pos h0 (Evn.ret _)
  · refine Evn.neg h0 ?_
    have hb : l.length ≤ big := by unfold big; omega
    have key : ∀ i, ∀ hi : i < l.length, ∀ k (m : Int), 0 ≤ m → m ≤ 1048576 → laws_szPageS.l0 (k + 1) l m (i : Int) = if m < (l[i]'hi).f1.f1.length then some (-1) else laws_szPageS.l0 k l (m - (l[i]'hi).f1.f1.length) ((i + 1 : Nat) : Int) := by
      intro i hi k m hm0 hm1
      rw [laws_szPageS.l0, if_pos (by omega), if_pos (by omega), rdLPg_at l i hi, szPage_f _ _ _ _ ⟨hm0, hm1⟩ (hp _ (List.getElem_mem hi)), Option.bind_some, wrap_succ hi hb]
      by_cases hm : m < (l[i]).f1.f1.length
      · rw [if_pos hm, if_pos hm, if_pos (by omega)]
      · rw [if_neg hm, if_neg hm, if_neg (by omega)]
    have hend : ∀ k (m : Int), laws_szPageS.l0 (k + 1) l m (l.length : Int) = some m := fun k m => by rw [laws_szPageS.l0, if_neg (by omega)]
    by_cases hbig : n < l.length + heap l
    · rw [if_pos hbig]
      have := down (P := fun i => 0 ≤ n - l.length - heap (l.take i) → Evn (fun k => laws_szPageS.l0 k l (n - l.length - heap (l.take i)) (i : Int)) (-1)) l.length (fun i hi h hm => ?_) (fun hm => by rw [List.take_length] at hm; omega)
      · have h1 := this (by simp [heap]; omega)
        simpa [heap] using h1
      · refine Evn.step (fun k => key i hi k _ hm (by omega)) ?_
        by_cases hc : n - l.length - heap (l.take i) < (l[i]).f1.f1.length
        · exact Evn.pos hc (Evn.ret _)
        · refine Evn.neg hc ?_
          have hs := heap_snoc l i hi; rw [show n - l.length - heap (l.take i) - (l[i]).f1.f1.length = n - l.length - heap (l.take (i + 1)) by omega]; exact h (by omega)
    · rw [if_neg hbig]
      have := down (P := fun i => Evn (fun k => laws_szPageS.l0 k l (n - l.length - heap (l.take i)) (i : Int)) (n - l.length - heap l)) l.length (fun i hi h => ?_) (Evn.step (fun k => hend k _) (by rw [List.take_length]; exact Evn.ret _))
      · simpa [heap] using this
      · have hs := heap_snoc l i hi
        have hle := heap_le l (i + 1); refine Evn.step (fun k => key i hi k _ (by omega) (by omega)) (Evn.neg (by omega) ?_); rw [show n - l.length - heap (l.take i) - (l[i]).f1.f1.length = n - l.length - heap (l.take (i + 1)) by omega]; exact h
theorem szBook_f (a : Int) (l : List LPg) (n : Int) (hn : 0 ≤ n ∧ n ≤ 1048576) (hl : l.length ≤ 9223372036854775807) (hp : ∀ p ∈ l, p.f1.f1.length ≤ 9223372036854775807) :
    Evn (fun k => laws_szBook.f k a l n) (if n < l.length + heap l then -1 else n - l.length - heap l) := by
  unfold laws_szBook.f; refine Evn.bind (szPageS_f l n hn hl hp) ?_
  by_cases h : n < l.length + heap l
  · rw [if_pos h]
    exact Evn.ret _
  · rw [if_neg h, if_neg (by omega)]
    exact Evn.ret _

theorem toPage_f (p : LPg) (h : p.f1.f1.length ≤ 1048576) : Evn (fun k => laws_toPage.f k p.f0 p.f1.f0 p.f1.f1) (p.f0, p.f1.f0, p.f1.f1.map toE) := by
  unfold laws_toPage.f laws_toNode.f; exact Evn.bind (Evn.bind (toEntryS_f _ h) (Evn.ret _)) (Evn.ret _)
theorem toPageS_f (l : List LPg) (hl : l.length ≤ 1048576) (hp : ∀ p ∈ l, p.f1.f1.length ≤ 1048576) : Evn (fun k => laws_toPageS.f k l) (l.map toPg) := by
  have h := fill_loop (L := laws_toPageS.l0) (f := toPg) (F := fun k p => (laws_toPage.f k p.f0 p.f1.f0 p.f1.f1).bind fun t => some (⟨t.1, ⟨t.2.1, t.2.2⟩⟩ : Pg)) z118 (fun k xs acc i hi ha => by
    simp only [laws_toPageS.l0]
    rw [if_pos (by omega), if_pos (by omega), rdLPg_at xs i hi, getD_LPg xs i hi]
    cases laws_toPage.f k (xs[i]).f0 (xs[i]).f1.f0 (xs[i]).f1.f1 with
    | none => rfl
    | some t =>
      simp only [Option.bind_some]
      rw [if_pos (by omega)]
      rfl) (fun k xs acc => by simp only [laws_toPageS.l0]; rw [if_neg (by omega)]) l (by unfold big; omega) (fun x hx => Evn.bind (toPage_f x (hp x hx)) (Evn.ret _)) zPg
  unfold laws_toPageS.f; exact Evn.pos (by omega) (Evn.pos (by omega) h)
theorem toBook_f (a : Int) (l : List LPg) (hl : l.length ≤ 1048576) (hp : ∀ p ∈ l, p.f1.f1.length ≤ 1048576) : Evn (fun k => laws_toBook.f k a l) (a, l.map toPg) := by
  unfold laws_toBook.f; exact Evn.bind (toPageS_f l hl hp) (Evn.ret _)

theorem eqNode_same (b : Bool) (l : List En) (hl : l.length ≤ big) : Evn (fun k => laws_eqNode.f k b l b l) true := by
  unfold laws_eqNode.f; exact Evn.neg (by simp) (Evn.bind (eqEntryS_same l hl) (Evn.ret _))
theorem eqPageS_same (l : List Pg) (hl : l.length ≤ big) (hp : ∀ p ∈ l, p.f1.f1.length ≤ big) : Evn (fun k => laws_eqPageS.f k l l) true := by
  unfold laws_eqPageS.f; refine Evn.pos rfl ?_; refine down (P := fun i => Evn (fun k => laws_eqPageS.l0 k l l (i : Int)) true) l.length (fun i hi h => ?_) (Evn.step (fun k => by rw [laws_eqPageS.l0, if_neg (by omega)]) (Evn.ret _)); refine Evn.step (fun k => by rw [laws_eqPageS.l0, if_pos (by omega), if_pos (by omega), if_pos (by omega), rdPg_at l i hi, wrap_succ hi hl]) ?_; refine Evn.bind (a := true) ?_ (Evn.pos rfl h); unfold laws_eqPage.f; exact Evn.neg (by simp) (Evn.bind (eqNode_same _ _ (hp _ (List.getElem_mem hi))) (Evn.ret _))
theorem eqBook_same (a : Int) (l : List Pg) (hl : l.length ≤ big) (hp : ∀ p ∈ l, p.f1.f1.length ≤ big) : Evn (fun k => laws_eqBook.f k a l a l) true := by
  unfold laws_eqBook.f; exact Evn.pos rfl (Evn.bind (eqPageS_same l hl hp) (Evn.ret _))

/-- What a law over a book does: weigh it, make it, ask both, compare. -/
structure Small (l : List LPg) : Prop where
  len : l.length ≤ 1048576
  ent : ∀ p ∈ l, p.f1.f1.length ≤ 1048576
  sum : l.length + heap l ≤ 1048576
theorem Small.of (l : List LPg) (h : l.length + heap l ≤ 1048576) : Small l := ⟨by omega, fun p hp => by have := heap_mem l p hp; omega, h⟩
theorem Small.made (l : List LPg) (h : Small l) : (l.map toPg).length ≤ 1048576 ∧ ∀ p ∈ l.map toPg, p.f1.f1.length ≤ 1048576 := by
  refine ⟨by rw [List.length_map]; exact h.len, fun p hp => ?_⟩; obtain ⟨q, hq, rfl⟩ := List.mem_map.mp hp
  show (q.f1.f1.map toE).length ≤ _
  rw [List.length_map]; exact h.ent q hq
theorem big_of {n : Nat} (h : n ≤ 1048576) : n ≤ big := by unfold big; omega

end Go.Proofs.Ytngjaajcdbodeaa.Pure

namespace Go.Proofs.Ytngjaajcdbodeaa.All
open Go.RowKit Go.Proofs.YtngjaajcdbodeaaW.PrintWords Go.Proofs.YtngjaajcdbodeaaW.PrintLast Go.Proofs.YtngjaajcdbodeaaW.PrintMore Go.Proofs.Ytngjaajcdbodeaa.Sq
attribute [local go_sem] max2_int min2_int max_two min_two max_three min_three max_four min_four 
set_option linter.unusedVariables false
set_option linter.unusedSimpArgs false

/-! ### laws_heldEntryS: function 123 -/
def laws_heldEntryS.l0 : Nat → List (S103) → Int → Int → Option (Int)
  | 0, _, _, _ => none
  | k + 1, x0, x1, x5 => if x5 < (x0.length : Int) then (if 0 ≤ x5 then (if ((rd_T103 x0 x5).f0) = x1 then (if ((rd_T103 x0 x5).f1.f0) = (wrap64 (x1 + 1)) then (if ((rd_T103 x0 x5).f1.f1) = (wrap64 ((wrap64 (x1 + 1)) + 1)) then (if ((rd_T103 x0 x5).f1.f2) = (wrap64 ((wrap64 ((wrap64 (x1 + 1)) + 1)) + 1)) then (if ((rd_T103 x0 x5).f1.f3) = (wrap64 ((wrap64 ((wrap64 ((wrap64 (x1 + 1)) + 1)) + 1)) + 1)) then (laws_heldEntryS.l0 k x0 (wrap64 ((wrap64 ((wrap64 ((wrap64 ((wrap64 (x1 + 1)) + 1)) + 1)) + 1)) + 1)) (wrap64 (x5 + 1))) else (some (-1))) else (some (-1))) else (some (-1))) else (some (-1))) else (some (-1))) else (none)) else (some x1)
def laws_heldEntryS.f (k : Nat) (l0 : List (S103)) (a1 : Int) : Option (Int) := laws_heldEntryS.l0 k l0 a1 0
theorem laws_heldEntryS.mono_l : ∀ k, (∀ y0 y1 y2, LeO (laws_heldEntryS.l0 k y0 y1 y2) (laws_heldEntryS.l0 (k + 1) y0 y1 y2))
  | 0 => fun _ _ _ r h => by simp [laws_heldEntryS.l0] at h
  | k + 1 => by
    have ih0 := laws_heldEntryS.mono_l k
    · intro y0 y1 y2
      unfold laws_heldEntryS.l0
      repeat' first | (with_reducible first | exact ih0 _ _ _ | exact LeO.refl _ | exact LeO.none _ | refine LeO.ite ?_ ?_ | refine LeO.bind ?_ (fun _ => ?_)) | exact ih0 _ _ _ | exact LeO.none _ | refine LeO.ite ?_ ?_ | refine LeO.bind ?_ (fun _ => ?_)
theorem laws_heldEntryS.mono : ∀ a0 a1 k, LeO (laws_heldEntryS.f k a0 a1) (laws_heldEntryS.f (k + 1) a0 a1) := by
  intro a0 a1 k
  have ih0 := laws_heldEntryS.mono_l k; unfold laws_heldEntryS.f
  repeat' first | (with_reducible first | exact ih0 _ _ _ | exact LeO.refl _ | exact LeO.none _ | refine LeO.ite ?_ ?_ | refine LeO.bind ?_ (fun _ => ?_)) | exact ih0 _ _ _ | exact LeO.none _ | refine LeO.ite ?_ ?_ | refine LeO.bind ?_ (fun _ => ?_)
set_option maxHeartbeats 8000000 in
set_option maxRecDepth 100000 in
theorem laws_heldEntryS.calls (k : Nat) (A0 : Option Addr) (c0 : Nat) (l0 : List (S103)) (a1 : Int) (r : Int) (w : World) (hr0 : Kd.C k103 w A0 l0.length l0) (hc0 : l0.length ≤ c0) (h : laws_heldEntryS.f k l0 a1 = some r) :
    Calls Try.prog 123 #[.slice A0 l0.length c0, .int .i64 a1] w fun e w' => e = .returned (.int .i64 r) ∧ Drawn0 w w' := by
  have HR0 := Aside0.mk hr0; have HC0 := Aside0.mk hc0; clear hr0 hc0; have H : (laws_heldEntryS.l0 k l0 a1 0) = some r := h; clear h; have H' := Aside0.mk H; clear H
  go_enter Try.func123, Try.ntmps123
  go_wp2
  go_loopg [1, 5] k (fun kq v1 v5 w' => ∃ (x1_1 : Int) (x5_1 : Int), v1 = .int .i64 x1_1 ∧ v5 = .int .i64 x5_1 ∧ Aside0 (laws_heldEntryS.l0 kq l0 x1_1 x5_1 = some r) ∧ Aside0 (kq ≤ k) ∧ Drawn0 w w')
  case atStart => exact ⟨(a1), (0), az, az, H', ⟨Nat.le_refl _⟩, by repeat (first | exact Drawn0.refl _ | apply Drawn0.step)⟩
  case round =>
    clear H'; (try clear c1); (try clear p2); obtain ⟨x1_1, x5_1, rfl, rfl, HA, HK1, ⟨m1, rfl⟩⟩ := hrel
    cases gk with
    | zero => exact absurd HA.out (by simp [laws_heldEntryS.l0])
    | succ k1 =>
      have H := HA.out; clear HA
      simp only [laws_heldEntryS.l0] at H
      by_cases c3 : x5_1 < (l0.length : Int)
      · rw [if_pos c3] at H
        have c3b0 : decide (x5_1 < (l0.length : Int)) = true := decide_eq_true c3; clear c3
        by_cases c4 : 0 ≤ x5_1
        · rw [if_pos c4] at H
          have c4b0 : decide (0 ≤ x5_1) = true := decide_eq_true c4; clear c4
          by_cases c5 : ((rd_T103 l0 x5_1).f0) = x1_1
          · rw [if_pos c5] at H
            have c5b0 : (((rd_T103 l0 x5_1).f0) == x1_1) = true := beq_iff_eq.mpr c5; have c5b1 : (((rd_T103 l0 x5_1).f0) != x1_1) = false := bne_eq_false_iff_eq.mpr c5; clear c5
            by_cases c6 : ((rd_T103 l0 x5_1).f1.f0) = (wrap64 (x1_1 + 1))
            · rw [if_pos c6] at H
              have c6b0 : (((rd_T103 l0 x5_1).f1.f0) == (wrap64 (x1_1 + 1))) = true := beq_iff_eq.mpr c6; have c6b1 : (((rd_T103 l0 x5_1).f1.f0) != (wrap64 (x1_1 + 1))) = false := bne_eq_false_iff_eq.mpr c6; clear c6
              by_cases c7 : ((rd_T103 l0 x5_1).f1.f1) = (wrap64 ((wrap64 (x1_1 + 1)) + 1))
              · rw [if_pos c7] at H
                have c7b0 : (((rd_T103 l0 x5_1).f1.f1) == (wrap64 ((wrap64 (x1_1 + 1)) + 1))) = true := beq_iff_eq.mpr c7; have c7b1 : (((rd_T103 l0 x5_1).f1.f1) != (wrap64 ((wrap64 (x1_1 + 1)) + 1))) = false := bne_eq_false_iff_eq.mpr c7; clear c7
                by_cases c8 : ((rd_T103 l0 x5_1).f1.f2) = (wrap64 ((wrap64 ((wrap64 (x1_1 + 1)) + 1)) + 1))
                · rw [if_pos c8] at H
                  have c8b0 : (((rd_T103 l0 x5_1).f1.f2) == (wrap64 ((wrap64 ((wrap64 (x1_1 + 1)) + 1)) + 1))) = true := beq_iff_eq.mpr c8; have c8b1 : (((rd_T103 l0 x5_1).f1.f2) != (wrap64 ((wrap64 ((wrap64 (x1_1 + 1)) + 1)) + 1))) = false := bne_eq_false_iff_eq.mpr c8; clear c8
                  by_cases c9 : ((rd_T103 l0 x5_1).f1.f3) = (wrap64 ((wrap64 ((wrap64 ((wrap64 (x1_1 + 1)) + 1)) + 1)) + 1))
                  · rw [if_pos c9] at H
                    have c9b0 : (((rd_T103 l0 x5_1).f1.f3) == (wrap64 ((wrap64 ((wrap64 ((wrap64 (x1_1 + 1)) + 1)) + 1)) + 1))) = true := beq_iff_eq.mpr c9; have c9b1 : (((rd_T103 l0 x5_1).f1.f3) != (wrap64 ((wrap64 ((wrap64 ((wrap64 (x1_1 + 1)) + 1)) + 1)) + 1))) = false := bne_eq_false_iff_eq.mpr c9; clear c9; have H' := Aside0.mk H; clear H; have p377 : 0 ≤ (x5_1 : Int) := of_decide_eq_true uz; have q377 : x5_1 < (l0.length : Int) := of_decide_eq_true uz; obtain ⟨ad377, e377, hx377_0, hx377_1, hx377_2, hx377_3, hx377_4⟩ := at_T103 HR0.out x5_1 p377 q377
                    cases e377
                    replace p377 := eq_true p377; replace q377 := eq_true q377; have p378 : 0 ≤ (x5_1 : Int) := of_decide_eq_true uz; have q378 : x5_1 < (l0.length : Int) := of_decide_eq_true uz; obtain ⟨ad378, e378, hx378_0, hx378_1, hx378_2, hx378_3, hx378_4⟩ := at_T103 HR0.out x5_1 p378 q378; obtain rfl : ad377 = ad378 := (by injection e378); replace p378 := eq_true p378; replace q378 := eq_true q378; have p379 : 0 ≤ (x5_1 : Int) := of_decide_eq_true uz; have q379 : x5_1 < (l0.length : Int) := of_decide_eq_true uz; obtain ⟨ad379, e379, hx379_0, hx379_1, hx379_2, hx379_3, hx379_4⟩ := at_T103 HR0.out x5_1 p379 q379; obtain rfl : ad377 = ad379 := (by injection e379); replace p379 := eq_true p379; replace q379 := eq_true q379; have p380 : 0 ≤ (x5_1 : Int) := of_decide_eq_true uz; have q380 : x5_1 < (l0.length : Int) := of_decide_eq_true uz; obtain ⟨ad380, e380, hx380_0, hx380_1, hx380_2, hx380_3, hx380_4⟩ := at_T103 HR0.out x5_1 p380 q380; obtain rfl : ad377 = ad380 := (by injection e380); replace p380 := eq_true p380; replace q380 := eq_true q380; have p381 : 0 ≤ (x5_1 : Int) := of_decide_eq_true uz; have q381 : x5_1 < (l0.length : Int) := of_decide_eq_true uz; obtain ⟨ad381, e381, hx381_0, hx381_1, hx381_2, hx381_3, hx381_4⟩ := at_T103 HR0.out x5_1 p381 q381; obtain rfl : ad377 = ad381 := (by injection e381); replace p381 := eq_true p381; replace q381 := eq_true q381; go_wp2; go_roundg k1
                    case measure => have := HK1.out; omega
                    case rel => exact ⟨(wrap64 ((wrap64 ((wrap64 ((wrap64 ((wrap64 (x1_1 + 1)) + 1)) + 1)) + 1)) + 1)), (wrap64 (x5_1 + 1)), az, az, H', ⟨by have := HK1.out; omega⟩, by repeat (first | exact Drawn0.refl _ | apply Drawn0.step)⟩
                  · rw [if_neg c9] at H
                    have c9b0 : (((rd_T103 l0 x5_1).f1.f3) == (wrap64 ((wrap64 ((wrap64 ((wrap64 (x1_1 + 1)) + 1)) + 1)) + 1))) = false := beq_eq_false_iff_ne.mpr c9; have c9b1 : (((rd_T103 l0 x5_1).f1.f3) != (wrap64 ((wrap64 ((wrap64 ((wrap64 (x1_1 + 1)) + 1)) + 1)) + 1))) = true := bne_iff_ne.mpr c9; obtain rfl := Option.some.inj H; have p377 : 0 ≤ (x5_1 : Int) := of_decide_eq_true uz; have q377 : x5_1 < (l0.length : Int) := of_decide_eq_true uz; obtain ⟨ad377, e377, hx377_0, hx377_1, hx377_2, hx377_3, hx377_4⟩ := at_T103 HR0.out x5_1 p377 q377
                    cases e377
                    replace p377 := eq_true p377; replace q377 := eq_true q377; have p378 : 0 ≤ (x5_1 : Int) := of_decide_eq_true uz; have q378 : x5_1 < (l0.length : Int) := of_decide_eq_true uz; obtain ⟨ad378, e378, hx378_0, hx378_1, hx378_2, hx378_3, hx378_4⟩ := at_T103 HR0.out x5_1 p378 q378; obtain rfl : ad377 = ad378 := (by injection e378); replace p378 := eq_true p378; replace q378 := eq_true q378; have p379 : 0 ≤ (x5_1 : Int) := of_decide_eq_true uz; have q379 : x5_1 < (l0.length : Int) := of_decide_eq_true uz; obtain ⟨ad379, e379, hx379_0, hx379_1, hx379_2, hx379_3, hx379_4⟩ := at_T103 HR0.out x5_1 p379 q379; obtain rfl : ad377 = ad379 := (by injection e379); replace p379 := eq_true p379; replace q379 := eq_true q379; have p380 : 0 ≤ (x5_1 : Int) := of_decide_eq_true uz; have q380 : x5_1 < (l0.length : Int) := of_decide_eq_true uz; obtain ⟨ad380, e380, hx380_0, hx380_1, hx380_2, hx380_3, hx380_4⟩ := at_T103 HR0.out x5_1 p380 q380; obtain rfl : ad377 = ad380 := (by injection e380); replace p380 := eq_true p380; replace q380 := eq_true q380; have p381 : 0 ≤ (x5_1 : Int) := of_decide_eq_true uz; have q381 : x5_1 < (l0.length : Int) := of_decide_eq_true uz; obtain ⟨ad381, e381, hx381_0, hx381_1, hx381_2, hx381_3, hx381_4⟩ := at_T103 HR0.out x5_1 p381 q381; obtain rfl : ad377 = ad381 := (by injection e381); replace p381 := eq_true p381; replace q381 := eq_true q381; go_wp2; go_ret; exact ⟨by first | rfl | (simp; done) | (simp [*]; done), by repeat (first | exact Drawn0.refl _ | apply Drawn0.step)⟩
                · rw [if_neg c8] at H
                  have c8b0 : (((rd_T103 l0 x5_1).f1.f2) == (wrap64 ((wrap64 ((wrap64 (x1_1 + 1)) + 1)) + 1))) = false := beq_eq_false_iff_ne.mpr c8; have c8b1 : (((rd_T103 l0 x5_1).f1.f2) != (wrap64 ((wrap64 ((wrap64 (x1_1 + 1)) + 1)) + 1))) = true := bne_iff_ne.mpr c8; obtain rfl := Option.some.inj H; have p377 : 0 ≤ (x5_1 : Int) := of_decide_eq_true uz; have q377 : x5_1 < (l0.length : Int) := of_decide_eq_true uz; obtain ⟨ad377, e377, hx377_0, hx377_1, hx377_2, hx377_3, hx377_4⟩ := at_T103 HR0.out x5_1 p377 q377
                  cases e377
                  replace p377 := eq_true p377; replace q377 := eq_true q377; have p378 : 0 ≤ (x5_1 : Int) := of_decide_eq_true uz; have q378 : x5_1 < (l0.length : Int) := of_decide_eq_true uz; obtain ⟨ad378, e378, hx378_0, hx378_1, hx378_2, hx378_3, hx378_4⟩ := at_T103 HR0.out x5_1 p378 q378; obtain rfl : ad377 = ad378 := (by injection e378); replace p378 := eq_true p378; replace q378 := eq_true q378; have p379 : 0 ≤ (x5_1 : Int) := of_decide_eq_true uz; have q379 : x5_1 < (l0.length : Int) := of_decide_eq_true uz; obtain ⟨ad379, e379, hx379_0, hx379_1, hx379_2, hx379_3, hx379_4⟩ := at_T103 HR0.out x5_1 p379 q379; obtain rfl : ad377 = ad379 := (by injection e379); replace p379 := eq_true p379; replace q379 := eq_true q379; have p380 : 0 ≤ (x5_1 : Int) := of_decide_eq_true uz; have q380 : x5_1 < (l0.length : Int) := of_decide_eq_true uz; obtain ⟨ad380, e380, hx380_0, hx380_1, hx380_2, hx380_3, hx380_4⟩ := at_T103 HR0.out x5_1 p380 q380; obtain rfl : ad377 = ad380 := (by injection e380); replace p380 := eq_true p380; replace q380 := eq_true q380; go_wp2; go_ret; exact ⟨by first | rfl | (simp; done) | (simp [*]; done), by repeat (first | exact Drawn0.refl _ | apply Drawn0.step)⟩
              · rw [if_neg c7] at H
                have c7b0 : (((rd_T103 l0 x5_1).f1.f1) == (wrap64 ((wrap64 (x1_1 + 1)) + 1))) = false := beq_eq_false_iff_ne.mpr c7; have c7b1 : (((rd_T103 l0 x5_1).f1.f1) != (wrap64 ((wrap64 (x1_1 + 1)) + 1))) = true := bne_iff_ne.mpr c7; obtain rfl := Option.some.inj H; have p377 : 0 ≤ (x5_1 : Int) := of_decide_eq_true uz; have q377 : x5_1 < (l0.length : Int) := of_decide_eq_true uz; obtain ⟨ad377, e377, hx377_0, hx377_1, hx377_2, hx377_3, hx377_4⟩ := at_T103 HR0.out x5_1 p377 q377
                cases e377
                replace p377 := eq_true p377; replace q377 := eq_true q377; have p378 : 0 ≤ (x5_1 : Int) := of_decide_eq_true uz; have q378 : x5_1 < (l0.length : Int) := of_decide_eq_true uz; obtain ⟨ad378, e378, hx378_0, hx378_1, hx378_2, hx378_3, hx378_4⟩ := at_T103 HR0.out x5_1 p378 q378; obtain rfl : ad377 = ad378 := (by injection e378); replace p378 := eq_true p378; replace q378 := eq_true q378; have p379 : 0 ≤ (x5_1 : Int) := of_decide_eq_true uz; have q379 : x5_1 < (l0.length : Int) := of_decide_eq_true uz; obtain ⟨ad379, e379, hx379_0, hx379_1, hx379_2, hx379_3, hx379_4⟩ := at_T103 HR0.out x5_1 p379 q379; obtain rfl : ad377 = ad379 := (by injection e379); replace p379 := eq_true p379; replace q379 := eq_true q379; go_wp2; go_ret; exact ⟨by first | rfl | (simp; done) | (simp [*]; done), by repeat (first | exact Drawn0.refl _ | apply Drawn0.step)⟩
            · rw [if_neg c6] at H
              have c6b0 : (((rd_T103 l0 x5_1).f1.f0) == (wrap64 (x1_1 + 1))) = false := beq_eq_false_iff_ne.mpr c6; have c6b1 : (((rd_T103 l0 x5_1).f1.f0) != (wrap64 (x1_1 + 1))) = true := bne_iff_ne.mpr c6; obtain rfl := Option.some.inj H; have p377 : 0 ≤ (x5_1 : Int) := of_decide_eq_true uz; have q377 : x5_1 < (l0.length : Int) := of_decide_eq_true uz; obtain ⟨ad377, e377, hx377_0, hx377_1, hx377_2, hx377_3, hx377_4⟩ := at_T103 HR0.out x5_1 p377 q377
              cases e377
              replace p377 := eq_true p377; replace q377 := eq_true q377; have p378 : 0 ≤ (x5_1 : Int) := of_decide_eq_true uz; have q378 : x5_1 < (l0.length : Int) := of_decide_eq_true uz; obtain ⟨ad378, e378, hx378_0, hx378_1, hx378_2, hx378_3, hx378_4⟩ := at_T103 HR0.out x5_1 p378 q378; obtain rfl : ad377 = ad378 := (by injection e378); replace p378 := eq_true p378; replace q378 := eq_true q378; go_wp2; go_ret; exact ⟨by first | rfl | (simp; done) | (simp [*]; done), by repeat (first | exact Drawn0.refl _ | apply Drawn0.step)⟩
          · rw [if_neg c5] at H
            have c5b0 : (((rd_T103 l0 x5_1).f0) == x1_1) = false := beq_eq_false_iff_ne.mpr c5; have c5b1 : (((rd_T103 l0 x5_1).f0) != x1_1) = true := bne_iff_ne.mpr c5; obtain rfl := Option.some.inj H; have p377 : 0 ≤ (x5_1 : Int) := of_decide_eq_true uz; have q377 : x5_1 < (l0.length : Int) := of_decide_eq_true uz; obtain ⟨ad377, e377, hx377_0, hx377_1, hx377_2, hx377_3, hx377_4⟩ := at_T103 HR0.out x5_1 p377 q377
            cases e377
            replace p377 := eq_true p377; replace q377 := eq_true q377; go_wp2; go_ret; exact ⟨by first | rfl | (simp; done) | (simp [*]; done), by repeat (first | exact Drawn0.refl _ | apply Drawn0.step)⟩
        · rw [if_neg c4] at H
          exact absurd H (by simp)
      · rw [if_neg c3] at H
        have c3b0 : decide (x5_1 < (l0.length : Int)) = false := decide_eq_false c3; clear c3; obtain rfl := Option.some.inj H; go_wp2; go_ret; exact ⟨by first | rfl | (simp; done) | (simp [*]; done), by repeat (first | exact Drawn0.refl _ | apply Drawn0.step)⟩

end Go.Proofs.Ytngjaajcdbodeaa.All

/- Plain laws of the printed marks of entries. No condition. -/
namespace Go.Proofs.Ytngjaajcdbodeaa.Pure
open Go.RowKit Go.Proofs.Ytngjaajcdbodeaa.All Go.Proofs.YtngjaajcdbodeaaW.PrintWords Go.Proofs.YtngjaajcdbodeaaW.PrintLast Go.Proofs.Ytngjaajcdbodeaa.Sq
set_option linter.unusedVariables false

def mkE (n : Int) : S103 := ⟨n, ⟨n + 1, n + 2, n + 3, n + 4⟩⟩
theorem w1_up {n : Int} (h0 : 0 ≤ n) (h1 : n + 1 ≤ 4611686018427387904) : wrap64 (n + 1) = n + 1 := wrap_small (by omega) (by omega)
theorem markEntryS_f (l : List S103) (n : Int) (hn : 0 ≤ n) (hb : n + 5 * l.length ≤ 4611686018427387904) : Evn (fun k => laws_markEntryS.f k l n) (n + 5 * l.length, marks mkE 5 n l.length) := by
  exact mark_loop (L := laws_markEntryS.l0) (f := mkE) (s := 5) (by decide) (fun k done a rest n hn hb hl => by
    rw [laws_markEntryS.l0, if_pos (mid_lt _ _ _), if_pos (by omega), Int.toNat_natCast, set_mid, succ_small hl]
    simp only [w1]
    rw [w1_up hn (by omega), w1_up (show 0 ≤ n + 1 by omega) (by omega), w1_up (show 0 ≤ n + 1 + 1 by omega) (by omega), w1_up (show 0 ≤ n + 1 + 1 + 1 by omega) (by omega), w1_up (show 0 ≤ n + 1 + 1 + 1 + 1 by omega) (by omega)]
    have e2 : n + 1 + 1 = n + 2 := by omega
    have e3 : n + 1 + 1 + 1 = n + 3 := by omega
    have e4 : n + 1 + 1 + 1 + 1 = n + 4 := by omega
    have e5 : n + 1 + 1 + 1 + 1 + 1 = n + 5 := by omega
    rw [e5, e4, e3, e2]
    rfl) (fun k xs n => by rw [laws_markEntryS.l0, if_neg (by omega)]) l [] n hn hb (by simp; omega)
theorem heldEntryS_f (m : Nat) (n : Int) (hn : 0 ≤ n) (hb : n + 5 * m ≤ 4611686018427387904) : Evn (fun k => laws_heldEntryS.f k (marks mkE 5 n m) n) (n + 5 * m) := by
  exact held_loop (H := laws_heldEntryS.l0) (f := mkE) (s := 5) (by decide) (fun k done rest n hn hb hl => by
    rw [laws_heldEntryS.l0, if_pos (mid_lt _ _ _), if_pos (by omega), show rd_T103 (done ++ mkE n :: rest) (done.length : Int) = mkE n from getD_mid done (mkE n) rest _, succ_small hl]; rw [w1_up hn (by omega), w1_up (show 0 ≤ n + 1 by omega) (by omega), w1_up (show 0 ≤ n + 1 + 1 by omega) (by omega), w1_up (show 0 ≤ n + 1 + 1 + 1 by omega) (by omega), w1_up (show 0 ≤ n + 1 + 1 + 1 + 1 by omega) (by omega)]
    rw [if_pos (show (mkE n).f0 = n from rfl), if_pos (show (mkE n).f1.f0 = n + 1 from rfl), if_pos (show (mkE n).f1.f1 = n + 1 + 1 by show n + 2 = _; omega), if_pos (show (mkE n).f1.f2 = n + 1 + 1 + 1 by show n + 3 = _; omega), if_pos (show (mkE n).f1.f3 = n + 1 + 1 + 1 + 1 by show n + 4 = _; omega), show n + 1 + 1 + 1 + 1 + 1 = n + 5 by omega]) (fun k xs n => by rw [laws_heldEntryS.l0, if_neg (by omega)]) m [] n hn hb (by simp; omega)

/-- What the marks cost, and what they leave. -/
def bookCost : List Pg → Int
  | [] => 0
  | p :: t => 2 + 5 * p.f1.f1.length + bookCost t
def bookMarks : Int → List Pg → List Pg
  | _, [] => []
  | n, p :: t => ⟨m3 n, ⟨m3 (n + 1), marks mkE 5 (n + 2) p.f1.f1.length⟩⟩ :: bookMarks (n + 2 + 5 * p.f1.f1.length) t
theorem bookCost_nn : ∀ l, 0 ≤ bookCost l
  | [] => Int.le_refl _
  | p :: t => by
    have := bookCost_nn t; rw [bookCost]
    omega
theorem markPageS_f : ∀ (rest done : List Pg) (n : Int), 0 ≤ n → n + bookCost rest ≤ 4611686018427387904 → done.length + rest.length ≤ 4611686018427387904 → Evn (fun k => laws_markPageS.l0 k (done ++ rest) n done.length) (n + bookCost rest, done ++ bookMarks n rest)
  | [], done, n, _, _, _ => by
    refine Evn.step (fun k => ?_) (Evn.ret _); rw [List.append_nil, laws_markPageS.l0, if_neg (by omega)]
    simp [bookCost, bookMarks]
  | p :: rest, done, n, hn, hb, hl => by
    rw [bookCost] at hb; rw [List.length_cons] at hl; have hc := bookCost_nn rest; have h1 := markEntryS_f p.f1.f1 (n + 2) (by omega) (by omega); have ih := markPageS_f rest (done ++ [⟨m3 n, ⟨m3 (n + 1), marks mkE 5 (n + 2) p.f1.f1.length⟩⟩]) (n + 2 + 5 * p.f1.f1.length) (by omega) (by omega) (by rw [List.length_append]; simp; omega); have hrd : rd_T90 (done ++ p :: rest) (done.length : Int) = p := getD_mid done p rest _; refine Evn.step (g' := fun k => (laws_markEntryS.f k p.f1.f1 (n + 2)).bind fun t => laws_markPageS.l0 k (done ++ ⟨m3 n, ⟨m3 (n + 1), t.2⟩⟩ :: rest) t.1 ((done.length + 1 : Nat) : Int)) (fun k => ?_) (Evn.bind h1 ?_)
    · rw [laws_markPageS.l0, if_pos (mid_lt _ _ _), if_pos (by omega), hrd, succ_small (by omega), Int.toNat_natCast]
      simp only [w1]
      rw [w1_up hn (by omega), w1_up (show 0 ≤ n + 1 by omega) (by omega), show n + 1 + 1 = n + 2 by omega]
      simp only [set_mid]
    · rw [bookCost, bookMarks, show n + (2 + 5 * (p.f1.f1.length : Int) + bookCost rest) = n + 2 + 5 * (p.f1.f1.length : Int) + bookCost rest by omega]
      simpa using ih
theorem markBook_f (a : Int) (l : List Pg) (n : Int) (hn : 0 ≤ n) (hb : n + bookCost l ≤ 4611686018427387904) (hl : l.length ≤ 4611686018427387904) : Evn (fun k => laws_markBook.f k a l n) (n + bookCost l, bookMarks n l) :=
  markPageS_f l [] n hn hb (by simpa using hl)
theorem bookCost_le (b : Nat) : ∀ l : List Pg, (∀ p ∈ l, p.f1.f1.length ≤ b) → bookCost l ≤ l.length * (2 + 5 * b : Nat)
  | [], _ => by simp [bookCost]
  | p :: t, h => by
    have ih := bookCost_le b t (fun q hq => h q (List.mem_cons_of_mem _ hq)); have hp := h p (List.mem_cons_self ..); rw [bookCost, List.length_cons, Int.natCast_succ, Int.add_mul, Int.one_mul]
    omega
theorem bookCost_small (l : List Pg) (hl : l.length ≤ 1048576) (hp : ∀ p ∈ l, p.f1.f1.length ≤ 1048576) : bookCost l ≤ 6597069766656000 := by
  have h := bookCost_le 1048576 l hp; have h2 : (l.length : Int) * ((2 + 5 * 1048576 : Nat) : Int) ≤ 1048576 * ((2 + 5 * 1048576 : Nat) : Int) := Int.mul_le_mul_of_nonneg_right (by omega) (by omega)
  omega

theorem nodup_sub : ∀ (l u : List Int), l.Nodup → (∀ x ∈ l, x ∈ u) → l.length ≤ u.length
  | [], u, _, _ => Nat.zero_le _
  | a :: l, u, hn, hs => by
    rw [List.nodup_cons] at hn; have ha : a ∈ u := hs a (List.mem_cons_self ..)
    have h1 := nodup_sub l (u.erase a) hn.2 (fun x hx => by
      have hne : x ≠ a := fun e => hn.1 (e ▸ hx)
      exact (List.mem_erase_of_ne hne).2 (hs x (List.mem_cons_of_mem _ hx)))
    rw [List.length_erase_of_mem ha] at h1; have h2 := List.length_pos_of_mem ha
    simp only [List.length_cons]
    omega
theorem nodup_full (l u : List Int) (hn : l.Nodup) (hs : ∀ x ∈ l, x ∈ u) (hl : u.length ≤ l.length) : ∀ x ∈ u, x ∈ l := by
  intro x hx
  by_cases h : x ∈ l
  · exact h
  · have := nodup_sub (x :: l) u (List.nodup_cons.2 ⟨h, hn⟩) (fun y hy => by
      rcases List.mem_cons.1 hy with e | e
      · exact e ▸ hx
      · exact hs y e)
    simp only [List.length_cons] at this
    omega
def upto (n : Nat) : List Int := (List.range n).map fun (i : Nat) => (i : Int)
theorem upto_len (n : Nat) : (upto n).length = n := by simp [upto]
theorem mem_upto {n : Nat} {x : Int} : x ∈ upto n ↔ 0 ≤ x ∧ x < n := by
  unfold upto; rw [List.mem_map]
  constructor
  · rintro ⟨i, hi, rfl⟩
    rw [List.mem_range] at hi
    omega
  · intro h
    exact ⟨x.toNat, List.mem_range.2 (by omega), by omega⟩

/-- Pages that are there and used, each once. -/
def Once (ps : List Pg) (out : List Int) : Prop := out.Nodup ∧ ∀ i ∈ out, pgOk ps i
theorem Once.len {ps : List Pg} {out : List Int} (h : Once ps out) : out.length ≤ ps.length := by
  have := nodup_sub out (upto ps.length) h.1 (fun x hx => mem_upto.2 ⟨(h.2 x hx).1, (h.2 x hx).2.1⟩); rwa [upto_len] at this
theorem Once.nil (ps : List Pg) : Once ps [] := ⟨List.nodup_nil, fun _ h => absurd h (List.not_mem_nil)⟩
theorem Once.snoc {ps : List Pg} {out : List Int} (h : Once ps out) {i : Int} (hi : pgOk ps i) (hn : i ∉ out) : Once ps (out ++ [i]) := by
  refine ⟨?_, fun x hx => ?_⟩
  · rw [List.nodup_append]
    refine ⟨h.1, by simp, ?_⟩
    intro a ha b hb e
    rw [List.mem_singleton] at hb; subst hb; subst e; exact hn ha
  · rcases List.mem_append.1 hx with hx | hx
    · exact h.2 x hx
    · rw [List.mem_singleton] at hx
      exact hx ▸ hi

theorem walkL_ends (ps : List Pg) (n : Nat) (ih : ∀ out, Once ps out → ps.length ≤ out.length + n → ∀ i, ∃ r, Evn (fun k => walkM k ps i out) r ∧ Once ps r ∧ out.length ≤ r.length) (b : Bool) (es : List En) (he : es.length ≤ 1048576) :
    ∀ d x : Nat, x + d = es.length → ∀ o, Once ps o → ps.length ≤ o.length + n → ∃ r, Evn (fun k => walkL k ps b es o (x : Int)) r ∧ Once ps r ∧ o.length ≤ r.length
  | 0, x, hx, o, ho, hn => ⟨o, Evn.step (fun k => by rw [walkL, if_neg (by omega)]) (Evn.ret _), ho, Nat.le_refl _⟩
  | d + 1, x, hx, o, ho, hn => by
    cases b with
    | true => exact ⟨o, Evn.step (fun k => by rw [walkL, if_pos (by omega), if_pos rfl]) (Evn.ret _), ho, Nat.le_refl _⟩
    | false =>
      obtain ⟨r1, h1, o1, l1⟩ := ih o ho hn (rd_T103 es (x : Int)).f0; obtain ⟨r2, h2, o2, l2⟩ := walkL_ends ps n ih false es he d (x + 1) (by omega) r1 o1 (by omega)
      have hw : wrap64 ((x : Int) + 1) = ((x + 1 : Nat) : Int) := by
        unfold wrap64
        omega
      exact ⟨r2, Evn.step (fun k => by rw [walkL, if_pos (by omega), if_neg (by decide), if_pos (by omega), hw]) (Evn.bind h1 h2), o2, by omega⟩
theorem walk_ends (ps : List Pg) (hp : ps.length ≤ 1048576) (he : ∀ p ∈ ps, p.f1.f1.length ≤ 1048576) : ∀ n out, Once ps out → ps.length ≤ out.length + n → ∀ i, ∃ r, Evn (fun k => walkM k ps i out) r ∧ Once ps r ∧ out.length ≤ r.length := by
  intro n
  induction n with
  | zero =>
    intro out ho hn i
    have hl := ho.len
    by_cases h1 : pgOk ps i
    · by_cases h2 : i ∈ out
      · exact ⟨out, Evn.step (fun k => by rw [walkM, if_pos h1, if_pos (by omega), if_pos h2]) (Evn.ret _), ho, Nat.le_refl _⟩
      · have := (ho.snoc h1 h2).len
        rw [List.length_append, List.length_singleton] at this
        omega
    · exact ⟨out, Evn.step (fun k => by rw [walkM, if_neg h1]) (Evn.ret _), ho, Nat.le_refl _⟩
  | succ n ih =>
    intro out ho hn i
    have hl := ho.len
    by_cases h1 : pgOk ps i
    · by_cases h2 : i ∈ out
      · exact ⟨out, Evn.step (fun k => by rw [walkM, if_pos h1, if_pos (by omega), if_pos h2]) (Evn.ret _), ho, Nat.le_refl _⟩
      · have hes : (rd_T90 ps i).f1.f1.length ≤ 1048576 := by
          obtain ⟨m, rfl⟩ : ∃ m : Nat, i = (m : Int) := ⟨i.toNat, by have := h1.1; omega⟩
          have hm : m < ps.length := by have := h1.2.1; omega
          rw [rdPg_at ps m hm]; exact he _ (List.getElem_mem hm)
        obtain ⟨r, hr, h3, h4⟩ := walkL_ends ps n ih _ _ hes _ 0 (Nat.zero_add _) (out ++ [i]) (ho.snoc h1 h2) (by rw [List.length_append, List.length_singleton]; omega); refine ⟨r, Evn.step (fun k => by rw [walkM, if_pos h1, if_pos (by omega), if_neg h2]; rfl) hr, h3, ?_⟩; rw [List.length_append, List.length_singleton] at h4
        omega
    · exact ⟨out, Evn.step (fun k => by rw [walkM, if_neg h1]) (Evn.ret _), ho, Nat.le_refl _⟩
/-- What is reached from the root on. -/
theorem reach_ends (ps : List Pg) (hp : ps.length ≤ 1048576) (he : ∀ p ∈ ps, p.f1.f1.length ≤ 1048576) (i : Int) : ∃ r, Evn (fun k => walkM k ps i []) r ∧ Once ps r := by
  obtain ⟨r, h1, h2, _⟩ := walk_ends ps hp he ps.length [] (Once.nil ps) (by simp) i; exact ⟨r, h1, h2⟩

/-- The pages that an inner page names. -/
def kids (ps : List Pg) (i : Int) : List Int := if (rd_T90 ps i).f1.f0 = true then [] else (rd_T90 ps i).f1.f1.map (fun e => e.f0)
/-- Each page is the root, or is named by one ahead of it. -/
def Led (ps : List Pg) (root : Int) (l : List Int) : Prop := ∀ a j b, l = a ++ j :: b → j = root ∨ ∃ p ∈ a, j ∈ kids ps p
theorem Led.nil (ps : List Pg) (root : Int) : Led ps root [] := fun a j b h => by simp at h
theorem Led.snoc {ps : List Pg} {root : Int} {l : List Int} {i : Int} (h : Led ps root l) (hi : i = root ∨ ∃ p ∈ l, i ∈ kids ps p) : Led ps root (l ++ [i]) := by
  intro a j b e
  rcases List.eq_nil_or_concat b with hb | ⟨b', x, hb⟩
  · subst hb
    have := List.append_inj' e rfl; obtain ⟨rfl, h2⟩ := this
    injection h2 with h2
    subst h2; exact hi
  · subst hb
    have e2 : l ++ [i] = (a ++ j :: b') ++ [x] := by rw [e]; simp
    have := List.append_inj' e2 rfl; exact h a j b' this.1
theorem walkL_leaf' {k : Nat} {ps : List Pg} {es : List En} {o r : List Int} {x : Int} (h : walkL k ps true es o x = some r) : r = o := by
  cases k with
  | zero => simp [walkL] at h
  | succ k =>
    rw [walkL, if_pos rfl] at h
    split at h <;> exact (Option.some.inj h).symm
/-- What is new is closed. -/
def Shut (ps : List Pg) (out r : List Int) : Prop := ∀ j ∈ r, j ∈ out ∨ ∀ c ∈ kids ps j, pgOk ps c → c ∈ r
theorem walk_tree (ps : List Pg) (root : Int) (he : ∀ p ∈ ps, p.f1.f1.length ≤ 1048576) : ∀ k,
    (∀ i out r, Led ps root out → (i = root ∨ ∃ p ∈ out, i ∈ kids ps p) → walkM k ps i out = some r → Led ps root r ∧ (∀ j ∈ out, j ∈ r) ∧ (pgOk ps i → i ∈ r) ∧ Shut ps out r) ∧
    (∀ (j : Int) (out r : List Int) (x : Nat), Led ps root out → j ∈ out → pgOk ps j → (rd_T90 ps j).f1.f0 = false → walkL k ps false (rd_T90 ps j).f1.f1 out (x : Int) = some r →
      Led ps root r ∧ (∀ j ∈ out, j ∈ r) ∧ (∀ c ∈ (kids ps j).drop x, pgOk ps c → c ∈ r) ∧ Shut ps out r)
  | 0 => ⟨fun _ _ _ _ _ h => by simp [walkM] at h, fun _ _ _ _ _ _ _ _ h => by simp [walkL] at h⟩
  | k + 1 => by
    obtain ⟨ih1, ih2⟩ := walk_tree ps root he k
    constructor
    · intro i out r hl hi h
      rw [walkM] at h
      by_cases h1 : pgOk ps i
      · rw [if_pos h1] at h
        by_cases h3 : out.length < 17592186044415
        · rw [if_pos h3] at h
          by_cases h2 : i ∈ out
          · rw [if_pos h2] at h
            obtain rfl := Option.some.inj h; exact ⟨hl, fun _ h => h, fun _ => h2, fun j hj => .inl hj⟩
          · rw [if_neg h2] at h
            have hl2 := hl.snoc hi; have hin : i ∈ out ++ [i] := List.mem_append_right _ (List.mem_singleton.2 rfl)
            cases hb : (rd_T90 ps i).f1.f0 with
            | true =>
              rw [hb] at h; obtain rfl := walkL_leaf' h; refine ⟨hl2, fun j hj => List.mem_append_left _ hj, fun _ => hin, fun j hj => ?_⟩
              rcases List.mem_append.1 hj with hj | hj
              · exact .inl hj
              · rw [List.mem_singleton] at hj
                subst hj; refine .inr (fun c hc => ?_); unfold kids at hc; rw [if_pos hb] at hc; exact absurd hc List.not_mem_nil
            | false =>
              rw [hb] at h; obtain ⟨a1, a2, a3, a4⟩ := ih2 i (out ++ [i]) r 0 hl2 hin h1 hb h; refine ⟨a1, fun j hj => a2 j (List.mem_append_left _ hj), fun _ => a2 i hin, fun j hj => ?_⟩
              rcases a4 j hj with hj2 | hj2
              · rcases List.mem_append.1 hj2 with hj2 | hj2
                · exact .inl hj2
                · rw [List.mem_singleton] at hj2
                  subst hj2; exact .inr (fun c hc => a3 c (by rwa [List.drop_zero]))
              · exact .inr hj2
        · rw [if_neg h3] at h
          exact absurd h (by simp)
      · rw [if_neg h1] at h
        obtain rfl := Option.some.inj h; exact ⟨hl, fun _ h => h, fun h => absurd h h1, fun j hj => .inl hj⟩
    · intro j out r x hl hj hjo hb h
      have hes : (rd_T90 ps j).f1.f1.length ≤ 1048576 := by
        obtain ⟨m, rfl⟩ : ∃ m : Nat, j = (m : Int) := ⟨j.toNat, by have := hjo.1; omega⟩
        have hm : m < ps.length := by have := hjo.2.1; omega
        rw [rdPg_at ps m hm]; exact he _ (List.getElem_mem hm)
      have hk : kids ps j = (rd_T90 ps j).f1.f1.map (fun e => e.f0) := by
        unfold kids; rw [if_neg (by rw [hb]; decide)]
      rw [walkL] at h
      by_cases hx : x < (rd_T90 ps j).f1.f1.length
      · rw [if_pos (by omega), if_neg (by decide), if_pos (by omega)] at h
        obtain ⟨o, ho, h⟩ := Option.bind_eq_some_iff.mp h
        have hw : wrap64 ((x : Int) + 1) = ((x + 1 : Nat) : Int) := by
          unfold wrap64
          omega
        rw [hw] at h
        have hrd : (rd_T103 (rd_T90 ps j).f1.f1 (x : Int)).f0 = (kids ps j)[x]'(by rw [hk, List.length_map]; exact hx) := by
          have e0 : ∀ (l : List En) (h : x < l.length), (l.getD x z103).f0 = (l.map (fun e => e.f0))[x]'(by rw [List.length_map]; exact h) := fun l h => by
            rw [List.getD_eq_getElem?_getD, List.getElem?_eq_getElem h]
            simp
          simp only [hk]
          exact e0 _ hx
        rw [hrd] at ho; have hmem : (kids ps j)[x]'(by rw [hk, List.length_map]; exact hx) ∈ kids ps j := List.getElem_mem _; obtain ⟨a1, a2, a3, a4⟩ := ih1 _ out o hl (.inr ⟨j, hj, hmem⟩) ho; obtain ⟨b1, b2, b3, b4⟩ := ih2 j o r (x + 1) a1 (a2 j hj) hjo hb h; refine ⟨b1, fun q hq => b2 q (a2 q hq), fun c hc hco => ?_, fun q hq => ?_⟩
        · rw [List.drop_eq_getElem_cons (by rw [hk, List.length_map]; exact hx)] at hc
          rcases List.mem_cons.1 hc with hc | hc
          · subst hc
            exact b2 _ (a3 hco)
          · exact b3 c hc hco
        · rcases b4 q hq with hq | hq
          · rcases a4 q hq with hq | hq
            · exact .inl hq
            · exact .inr (fun c hc hco => b2 c (hq c hc hco))
          · exact .inr hq
      · rw [if_neg (by omega)] at h
        obtain rfl := Option.some.inj h; refine ⟨hl, fun _ h => h, fun c hc => ?_, fun q hq => .inl hq⟩; rw [List.drop_eq_nil_of_le (by rw [hk, List.length_map]; omega)] at hc; exact absurd hc List.not_mem_nil
/-- What is reached from the root on. -/
structure Reached (ps : List Pg) (root : Int) (r : List Int) : Prop where
  once : Once ps r
  led : Led ps root r
  shut : ∀ j ∈ r, ∀ c ∈ kids ps j, pgOk ps c → c ∈ r
  root_mem : pgOk ps root → root ∈ r
  none : ¬ pgOk ps root → r = []
theorem reached (ps : List Pg) (hp : ps.length ≤ 1048576) (he : ∀ p ∈ ps, p.f1.f1.length ≤ 1048576) (i : Int) : ∃ r, Evn (fun k => walkM k ps i []) r ∧ Reached ps i r := by
  obtain ⟨r, ⟨K, hK⟩, h2⟩ := reach_ends ps hp he i; obtain ⟨a1, a2, a3, a4⟩ := (walk_tree ps i he K).1 i [] r (Led.nil _ _) (.inl rfl) (hK K (Nat.le_refl _)); refine ⟨r, ⟨K, hK⟩, h2, a1, fun j hj => ?_, a3, fun hno => ?_⟩
  · rcases a4 j hj with h | h
    · exact absurd h List.not_mem_nil
    · exact h
  · have h : walkM (K + 1) ps i [] = some r := hK (K + 1) (by omega)
    rw [walkM, if_neg hno] at h; exact (Option.some.inj h).symm

theorem spec_l1In_f (a b c : Int) : spec_l1In.f a b c = some (decide (b ≤ a ∧ a ≤ c)) := by
  unfold spec_l1In.f
  split <;> simp_all
  omega
theorem impl_in_f (a b c : Int) : impl_in.f a b c = some (decide (b ≤ a ∧ a ≤ c)) := by
  unfold impl_in.f
  split <;> simp_all
  omega

def bok (a b c d : Int) : Bool := decide (0 ≤ a ∧ a ≤ c ∧ c ≤ 255 ∧ 0 ≤ b ∧ b ≤ d ∧ d ≤ 255)

theorem spec_BoxOk_f (a b c d : Int) : spec_BoxOk.f a b c d = some (bok a b c d) := by
  unfold spec_BoxOk.f bok
  simp only [spec_l1In_f, Option.bind_some]
  by_cases h0 : 0 ≤ a ∧ a ≤ 255
  · by_cases h1 : 0 ≤ b ∧ b ≤ 255
    · by_cases h2 : a ≤ c ∧ c ≤ 255
      · simp only [h0, h1, h2, and_self, decide_true, if_true]
        congr 1
        simp
      · simp only [h0, h1, h2, and_self, decide_true, decide_false, if_true]
        simp
        omega
    · simp only [h0, h1, and_self, decide_true, decide_false, if_true]
      simp
      omega
  · simp only [h0, decide_false]
    simp
    omega
theorem impl_BoxOk_f (a b c d : Int) : impl_BoxOk.f a b c d = some (bok a b c d) := by
  unfold impl_BoxOk.f bok
  simp only [impl_in_f, Option.bind_some]
  by_cases h0 : 0 ≤ a ∧ a ≤ c
  · by_cases h1 : 0 ≤ c ∧ c ≤ 255
    · by_cases h2 : 0 ≤ b ∧ b ≤ d
      · simp only [h0, h1, h2, and_self, decide_true, if_true]
        congr 1
        simp
        omega
      · simp only [h0, h1, h2, and_self, decide_true, decide_false, if_true]
        simp
        omega
    · simp only [h0, h1, and_self, decide_true, decide_false, if_true]
      simp
      omega
  · simp only [h0, decide_false]
    simp
    omega

/-- The place of the first entry of a number, from x on. -/
def idxE (es : List En) (n : Int) : Nat → Nat → Int
  | 0, _ => -1
  | d + 1, x => if (es.getD x z103).f0 = n then (x : Int) else idxE es n d (x + 1)
theorem entryAt_both (es : List En) (n : Int) (hl : es.length ≤ 1048576) : ∀ d x : Nat, x + d = es.length → Evn (fun k => spec_EntryAt.l0 k es n (x : Int)) (idxE es n d x) ∧ Evn (fun k => impl_EntryAt.l0 k es n (x : Int)) (idxE es n d x)
  | 0, x, hx => ⟨Evn.step (fun k => by rw [spec_EntryAt.l0, if_neg (by omega)]; rfl) (Evn.ret _), Evn.step (fun k => by rw [impl_EntryAt.l0, if_neg (by omega)]; rfl) (Evn.ret _)⟩
  | d + 1, x, hx => by
    have hw : wrap64 ((x : Int) + 1) = ((x + 1 : Nat) : Int) := by
      unfold wrap64
      omega
    have ih := entryAt_both es n hl d (x + 1) (by omega); rw [idxE]
    by_cases h : (es.getD x z103).f0 = n
    · rw [if_pos h]
      exact ⟨Evn.step (fun k => by rw [spec_EntryAt.l0, if_pos (by omega), if_pos (by omega), rdE_at, if_pos h]) (Evn.ret _), Evn.step (fun k => by rw [impl_EntryAt.l0, if_pos (by omega), if_pos (by omega), rdE_at, if_pos h]) (Evn.ret _)⟩
    · rw [if_neg h]
      exact ⟨Evn.step (fun k => by rw [spec_EntryAt.l0, if_pos (by omega), if_pos (by omega), rdE_at, if_neg h, hw]) ih.1, Evn.step (fun k => by rw [impl_EntryAt.l0, if_pos (by omega), if_pos (by omega), rdE_at, if_neg h, hw]) ih.2⟩
def entryAt (es : List En) (n : Int) : Int := idxE es n es.length 0
theorem spec_EntryAt_f (es : List En) (n : Int) (hl : es.length ≤ 1048576) : Evn (fun k => spec_EntryAt.f k es n) (entryAt es n) := (entryAt_both es n hl es.length 0 (by omega)).1
theorem impl_EntryAt_f (es : List En) (n : Int) (hl : es.length ≤ 1048576) : Evn (fun k => impl_EntryAt.f k es n) (entryAt es n) := (entryAt_both es n hl es.length 0 (by omega)).2
def numOk (lf : Bool) (n : Int) : Bool := if lf = true then decide (1 ≤ n ∧ n ≤ 999) else decide (0 ≤ n ∧ n ≤ 47)
/-- Entry x of a node is right. -/
def entOk (lf : Bool) (es : List En) (x : Nat) : Bool := bok (es.getD x z103).f1.f0 (es.getD x z103).f1.f1 (es.getD x z103).f1.f2 (es.getD x z103).f1.f3 && (decide (entryAt es (es.getD x z103).f0 = x) && numOk lf (es.getD x z103).f0)
def entsOk (lf : Bool) (es : List En) : Nat → Nat → Bool
  | 0, _ => true
  | d + 1, x => entOk lf es x && entsOk lf es d (x + 1)
def sizeOk (lf : Bool) (es : List En) : Bool := decide (es.length ≤ 4) && (lf || decide (0 < es.length))
def nodeOk (lf : Bool) (es : List En) : Bool := entsOk lf es es.length 0 && sizeOk lf es
theorem spec_node (lf : Bool) (es : List En) (hl : es.length ≤ 1048576) : ∀ d x : Nat, x + d = es.length → Evn (fun k => spec_NodeOk.l0 k (x : Int) lf es) (entsOk lf es d x && sizeOk lf es)
  | 0, x, hx => by
    refine Evn.step (fun k => ?_) (Evn.ret _); rw [spec_NodeOk.l0, if_neg (by omega), entsOk, Bool.true_and]; unfold sizeOk
    by_cases h : es.length ≤ 4
    · rw [if_pos (by omega), decide_eq_true h, Bool.true_and]
      cases lf with
      | true => rfl
      | false =>
        rw [if_neg (by decide), Bool.false_or]
        congr 1
        rw [decide_eq_decide]
        omega
    · rw [if_neg (by omega), decide_eq_false h, Bool.false_and]
  | d + 1, x, hx => by
    have ih := spec_node lf es hl d (x + 1) (by omega)
    have hw : wrap64 ((x : Int) + 1) = ((x + 1 : Nat) : Int) := by
      unfold wrap64
      omega
    refine Evn.step (fun k => by rw [spec_NodeOk.l0, if_pos (by omega), if_pos (by omega), rdE_at, spec_BoxOk_f, hw]) ?_; rw [entsOk]; unfold entOk
    generalize (es.getD x z103) = e
    refine Evn.bind (Evn.ret _) ?_
    cases bok e.f1.f0 e.f1.f1 e.f1.f2 e.f1.f3 with
    | false => exact Evn.neg (by decide) (Evn.ret _)
    | true =>
      refine Evn.pos rfl (Evn.bind (spec_EntryAt_f es e.f0 hl) ?_)
      by_cases h2 : entryAt es e.f0 = x
      · refine Evn.pos h2 ?_
        rw [decide_eq_true h2]
        simp only [Bool.true_and]
        unfold numOk
        cases lf with
        | true =>
          refine Evn.pos rfl ?_; rw [if_pos rfl]; refine Evn.bind (Evn.const fun _ => spec_l1In_f _ _ _) ?_
          by_cases h3 : 1 ≤ e.f0 ∧ e.f0 ≤ 999
          · rw [decide_eq_true h3, Bool.true_and]
            exact Evn.pos rfl ih
          · rw [decide_eq_false h3, Bool.false_and]
            exact Evn.neg (by decide) (Evn.ret _)
        | false =>
          refine Evn.neg (by decide) ?_; rw [if_neg (by decide)]; refine Evn.bind (Evn.const fun _ => spec_l1In_f _ _ _) ?_
          by_cases h3 : 0 ≤ e.f0 ∧ e.f0 ≤ 47
          · rw [decide_eq_true h3, Bool.true_and]
            exact Evn.pos rfl ih
          · rw [decide_eq_false h3, Bool.false_and]
            exact Evn.neg (by decide) (Evn.ret _)
      · rw [decide_eq_false h2]
        exact Evn.neg h2 (Evn.ret _)
theorem impl_node (lf : Bool) (es : List En) (hl : es.length ≤ 1048576) : ∀ d x : Nat, x + d = es.length → Evn (fun k => impl_NodeOk.l0 k es (es.length : Int) (x : Int) lf es) (entsOk lf es d x)
  | 0, x, hx => Evn.step (fun k => by rw [impl_NodeOk.l0, if_neg (by omega), entsOk]) (Evn.ret _)
  | d + 1, x, hx => by
    have ih := impl_node lf es hl d (x + 1) (by omega)
    have hw : wrap64 ((x : Int) + 1) = ((x + 1 : Nat) : Int) := by
      unfold wrap64
      omega
    refine Evn.step (fun k => by rw [impl_NodeOk.l0, if_pos (by omega), if_pos (by omega), if_pos (by omega), rdE_at, impl_BoxOk_f, hw]) ?_; rw [entsOk]; unfold entOk numOk
    generalize (es.getD x z103) = e
    cases lf with
    | true =>
      refine Evn.pos rfl (Evn.bind (Evn.const fun _ => impl_in_f _ _ _) ?_); rw [if_pos rfl]
      by_cases h3 : 1 ≤ e.f0 ∧ e.f0 ≤ 999
      · rw [decide_eq_true h3, Bool.and_true]
        refine Evn.pos rfl (Evn.bind (Evn.ret _) ?_)
        cases bok e.f1.f0 e.f1.f1 e.f1.f2 e.f1.f3 with
        | false => exact Evn.neg (by decide) (Evn.ret _)
        | true =>
          refine Evn.pos rfl (Evn.bind (impl_EntryAt_f es e.f0 hl) ?_)
          by_cases h2 : entryAt es e.f0 = x
          · rw [decide_eq_true h2]
            exact Evn.pos h2 ih
          · rw [decide_eq_false h2]
            exact Evn.neg h2 (Evn.ret _)
      · rw [decide_eq_false h3, Bool.and_false, Bool.and_false, Bool.false_and]
        exact Evn.neg (by decide) (Evn.ret _)
    | false =>
      refine Evn.neg (by decide) (Evn.bind (Evn.const fun _ => impl_in_f _ _ _) ?_); rw [if_neg (by decide)]
      by_cases h3 : 0 ≤ e.f0 ∧ e.f0 ≤ 47
      · rw [decide_eq_true h3, Bool.and_true]
        refine Evn.pos rfl (Evn.bind (Evn.ret _) ?_)
        cases bok e.f1.f0 e.f1.f1 e.f1.f2 e.f1.f3 with
        | false => exact Evn.neg (by decide) (Evn.ret _)
        | true =>
          refine Evn.pos rfl (Evn.bind (impl_EntryAt_f es e.f0 hl) ?_)
          by_cases h2 : entryAt es e.f0 = x
          · rw [decide_eq_true h2]
            exact Evn.pos h2 ih
          · rw [decide_eq_false h2]
            exact Evn.neg h2 (Evn.ret _)
      · rw [decide_eq_false h3, Bool.and_false, Bool.and_false, Bool.false_and]
        exact Evn.neg (by decide) (Evn.ret _)
theorem spec_NodeOk_f (lf : Bool) (es : List En) (hl : es.length ≤ 1048576) : Evn (fun k => spec_NodeOk.f k lf es) (nodeOk lf es) := spec_node lf es hl es.length 0 (by omega)
theorem impl_NodeOk_f (lf : Bool) (es : List En) (hl : es.length ≤ 1048576) : Evn (fun k => impl_NodeOk.f k lf es) (nodeOk lf es) := by
  have h := impl_node lf es hl es.length 0 (by omega); unfold impl_NodeOk.f nodeOk sizeOk
  have hf : ∀ b : Bool, Evn (fun k => impl_NodeOk.j0 k true lf es) false := fun b => Evn.step (fun k => by rw [impl_NodeOk.j0, if_pos rfl]) (Evn.ret _)
  have ht : Evn (fun k => impl_NodeOk.j0 k false lf es) (entsOk lf es es.length 0) := Evn.step (fun k => by rw [impl_NodeOk.j0, if_neg (by decide)]; rfl) h
  by_cases h4 : es.length ≤ 4
  · refine Evn.neg (by omega) ?_
    rw [decide_eq_true h4, Bool.true_and]
    cases lf with
    | true =>
      rw [Bool.true_or, Bool.and_true]; exact Evn.pos rfl ht
    | false =>
      refine Evn.neg (by decide) ?_; rw [Bool.false_or]
      by_cases h0 : 0 < es.length
      · rw [decide_eq_true h0, Bool.and_true, show ((es.length : Int) == 0) = false by rw [beq_eq_false_iff_ne]; omega]
        exact ht
      · rw [decide_eq_false h0, Bool.and_false, show ((es.length : Int) == 0) = true by rw [beq_iff_eq]; omega]
        exact hf true
  · rw [decide_eq_false h4, Bool.false_and, Bool.and_false]
    exact Evn.pos (by omega) (hf true)

theorem Evn.of_mono {α : Type} {g : Nat → Option α} {r : α} (hm : ∀ k, LeO (g k) (g (k + 1))) (k : Nat) (h : g k = some r) : Evn g r := by
  refine ⟨k, fun n hn => ?_⟩; obtain ⟨d, rfl⟩ := Nat.exists_eq_add_of_le hn
  induction d with
  | zero => exact h
  | succ d ih => exact hm _ r (ih (by omega))
theorem has_evn (l : List Int) (n : Int) (hl : l.length ≤ 4611686018427387904) : Evn (fun k => spec_l7Has.f k l n) (decide (n ∈ l)) := by
  obtain ⟨k, hk⟩ := has_f l n hl; exact Evn.of_mono (fun k => spec_l7Has.mono l n k) k hk
def pageOk (p : Pg) : Bool := if p.f0 = true then nodeOk p.f1.f0 p.f1.f1 else (!p.f1.f0 && decide (p.f1.f1.length = 0))
theorem wrapI {i : Nat} (h : i ≤ 4611686018427387904) : wrap64 ((i : Int) + 1) = ((i + 1 : Nat) : Int) := by
  unfold wrap64
  omega
theorem same_empty (b : Bool) (es : List En) : Evn (fun k => impl_SameNode.f k b es false []) (!b && decide (es.length = 0)) := by
  unfold impl_SameNode.f
  cases b with
  | true => exact Evn.neg (by decide) (Evn.ret _)
  | false =>
    refine Evn.pos (by decide) (Evn.bind (a := decide (es.length = 0)) ?_ (Evn.ret _)); unfold slices_Equal_Entry.f
    by_cases h : es.length = 0
    · rw [decide_eq_true h]
      refine Evn.pos (by rw [h]; rfl) (Evn.step (fun k => ?_) (Evn.ret _)); rw [slices_Equal_Entry.l0, if_neg (by omega)]
    · rw [decide_eq_false h]
      exact Evn.neg (by simp only [List.length_nil]; omega) (Evn.ret _)
theorem bokP_f (l : List Pg) (hl : l.length ≤ 1048576) (hp : ∀ p ∈ l, p.f1.f1.length ≤ 1048576) : ∀ d x : Nat, x + d = l.length → Evn (fun k => bokP k l (x : Int)) ((l.drop x).all pageOk)
  | 0, x, hx => by
    rw [List.drop_eq_nil_of_le (by omega)]; exact Evn.step (fun k => by rw [bokP, if_neg (by omega)]; rfl) (Evn.ret _)
  | d + 1, x, hx => by
    have ih := bokP_f l hl hp d (x + 1) (by omega)
    have hxl : x < l.length := by omega
    have hw : wrap64 ((x : Int) + 1) = ((x + 1 : Nat) : Int) := wrapI (by omega); rw [List.drop_eq_getElem_cons hxl, List.all_cons]; have hlen := hp _ (List.getElem_mem hxl); refine Evn.step (fun k => by rw [bokP, if_pos (by omega), if_pos (by omega), rdPg_at l x hxl, hw]) ?_
    generalize l[x] = p at hlen
    unfold pageOk
    by_cases hu : p.f0 = true
    · refine Evn.pos hu (Evn.bind (impl_NodeOk_f _ _ hlen) ?_)
      rw [if_pos hu]
      cases nodeOk p.f1.f0 p.f1.f1 with
      | true => exact Evn.pos rfl ih
      | false => exact Evn.neg (by decide) (Evn.ret _)
    · refine Evn.neg hu (Evn.bind (same_empty _ _) ?_)
      rw [if_neg hu]
      cases (!p.f1.f0 && decide (p.f1.f1.length = 0)) with
      | true => exact Evn.pos rfl ih
      | false => exact Evn.neg (by decide) (Evn.ret _)
theorem spec_pages (a : Int) (l : List Pg) (r : List Int) (b : Bool) (hl : l.length ≤ 1048576) (hp : ∀ p ∈ l, p.f1.f1.length ≤ 1048576) (hend : Evn (fun k => spec_BookOk.l1 k r 0 0 a l) b) : ∀ d x : Nat, x + d = l.length → Evn (fun k => spec_BookOk.l0 k r (x : Int) a l) ((l.drop x).all pageOk && b)
  | 0, x, hx => by
    rw [List.drop_eq_nil_of_le (by omega)]; exact Evn.step (fun k => by rw [spec_BookOk.l0, if_neg (by omega)]) hend
  | d + 1, x, hx => by
    have ih := spec_pages a l r b hl hp hend d (x + 1) (by omega)
    have hxl : x < l.length := by omega
    have hw : wrap64 ((x : Int) + 1) = ((x + 1 : Nat) : Int) := wrapI (by omega); rw [List.drop_eq_getElem_cons hxl, List.all_cons, Bool.and_assoc]; have hlen := hp _ (List.getElem_mem hxl); refine Evn.step (fun k => by rw [spec_BookOk.l0, if_pos (by omega), if_pos (by omega), rdPg_at l x hxl, hw]) ?_
    generalize l[x] = p at hlen
    unfold pageOk
    by_cases hu : p.f0 = true
    · refine Evn.pos hu (Evn.bind (spec_NodeOk_f _ _ hlen) ?_)
      rw [if_pos hu]
      cases nodeOk p.f1.f0 p.f1.f1 with
      | true => exact Evn.pos rfl (Evn.pos hu ih)
      | false => exact Evn.neg (by decide) (Evn.ret _)
    · refine Evn.neg hu (Evn.neg hu ?_)
      rw [if_neg hu]
      by_cases hb : p.f1.f0 = true
      · rw [hb]
        exact Evn.pos rfl (Evn.ret _)
      · refine Evn.neg hb ?_
        rw [Bool.not_eq_true] at hb; rw [hb]
        by_cases h0 : p.f1.f1.length = 0
        · rw [decide_eq_true h0]
          exact Evn.neg (by omega) ih
        · rw [decide_eq_false h0]
          exact Evn.pos (by omega) (Evn.ret _)
/-- Those that are told, behind told. -/
def tellE (ps : List Pg) (told : List Int) : List Int → Option (List Int)
  | [] => some told
  | c :: t => if pgOk ps c ∧ ¬ c ∈ told then tellE ps (told ++ [c]) t else none
def tellR (ps : List Pg) : List Int → List Int → Bool
  | _, [] => true
  | told, i :: t => match tellE ps told (kids ps i) with | none => false | some told' => tellR ps told' t
theorem tellE_once (ps : List Pg) : ∀ F told t, Once ps told → tellE ps told F = some t → Once ps t
  | [], told, t, ho, h => by
    rw [tellE] at h
    injection h with h
    exact h ▸ ho
  | c :: F, told, t, ho, h => by
    rw [tellE] at h
    by_cases hc : pgOk ps c ∧ ¬ c ∈ told
    · rw [if_pos hc] at h
      exact tellE_once ps F _ t (ho.snoc hc.1 hc.2) h
    · rw [if_neg hc] at h
      cases h
theorem bokE_f (ps : List Pg) (hl : ps.length ≤ 1048576) (es : List En) (he : es.length ≤ 1048576) : ∀ d y : Nat, y + d = es.length → ∀ told, Once ps told → Evn (fun k => bokE k ps es told (y : Int)) (tellE ps told ((es.drop y).map (fun e => e.f0)))
  | 0, y, hy, told, ho => by
    rw [List.drop_eq_nil_of_le (by omega)]; exact Evn.step (fun k => by rw [bokE, if_neg (by omega)]; rfl) (Evn.ret _)
  | d + 1, y, hy, told, ho => by
    have hyl : y < es.length := by omega
    have hw : wrap64 ((y : Int) + 1) = ((y + 1 : Nat) : Int) := wrapI (by omega); have hlen := ho.len
    have hrd : rd_T103 es (y : Int) = es[y] := by
      show es.getD y z103 = _
      rw [List.getD_eq_getElem?_getD, List.getElem?_eq_getElem hyl]
      rfl
    rw [List.drop_eq_getElem_cons hyl, List.map_cons, tellE]; refine Evn.step (fun k => by rw [bokE, if_pos (by omega), if_pos (by omega), if_pos (by omega), hrd, hw]) ?_
    by_cases hc : pgOk ps (es[y]).f0
    · refine Evn.pos hc ?_
      by_cases hm : (es[y]).f0 ∈ told
      · rw [if_neg (fun h => h.2 hm)]
        exact Evn.pos hm (Evn.ret _)
      · rw [if_pos ⟨hc, hm⟩]
        exact Evn.neg hm (bokE_f ps hl es he d (y + 1) (by omega) _ (ho.snoc hc hm))
    · rw [if_neg (fun h => hc h.1)]
      exact Evn.neg hc (Evn.ret _)
theorem bokR_f (ps : List Pg) (hl : ps.length ≤ 1048576) (hp : ∀ p ∈ ps, p.f1.f1.length ≤ 1048576) (r : List Int) (hr : ∀ i ∈ r, pgOk ps i) (hrl : r.length ≤ 1048576) : ∀ d x : Nat, x + d = r.length → ∀ told, Once ps told → Evn (fun k => bokR k ps r told (x : Int)) (tellR ps told (r.drop x))
  | 0, x, hx, told, ho => by
    rw [List.drop_eq_nil_of_le (by omega)]; exact Evn.step (fun k => by rw [bokR, if_neg (by omega)]; rfl) (Evn.ret _)
  | d + 1, x, hx, told, ho => by
    have hxl : x < r.length := by omega
    have hw : wrap64 ((x : Int) + 1) = ((x + 1 : Nat) : Int) := wrapI (by omega); have hg := hr _ (List.getElem_mem hxl)
    have hrd : rd r (x : Int) = r[x] := by
      show r.getD x 0 = _
      rw [List.getD_eq_getElem?_getD, List.getElem?_eq_getElem hxl]
      rfl
    have ih := bokR_f ps hl hp r hr hrl d (x + 1) (by omega); rw [List.drop_eq_getElem_cons hxl, tellR]; refine Evn.step (fun k => by rw [bokR, if_pos (by omega), if_pos (by omega), hrd, if_pos hg.1, if_pos hg.2.1, hw]) ?_
    generalize r[x] = i at hg
    unfold kids
    by_cases hb : (rd_T90 ps i).f1.f0 = true
    · rw [if_pos hb]
      exact Evn.pos hb (ih told ho)
    · rw [if_neg hb]
      have hes : (rd_T90 ps i).f1.f1.length ≤ 1048576 := by
        obtain ⟨m, rfl⟩ : ∃ m : Nat, i = (m : Int) := ⟨i.toNat, by have := hg.1; omega⟩
        have hm : m < ps.length := by have := hg.2.1; omega
        rw [rdPg_at ps m hm]; exact hp _ (List.getElem_mem hm)
      have hE := bokE_f ps hl _ hes _ 0 (Nat.zero_add _) told ho; rw [List.drop_zero] at hE; refine Evn.neg hb (Evn.bind hE ?_)
      cases ht : tellE ps told ((rd_T90 ps i).f1.f1.map (fun e => e.f0)) with
      | none => exact Evn.ret _
      | some t => exact ih t (tellE_once ps _ told t ho ht)
theorem tellE_some (ps : List Pg) : ∀ F told, told.Nodup → (∀ t, tellE ps told F = some t → t = told ++ F ∧ (∀ c ∈ F, pgOk ps c) ∧ (told ++ F).Nodup) ∧ ((∀ c ∈ F, pgOk ps c) → (told ++ F).Nodup → tellE ps told F = some (told ++ F))
  | [], told, hn => by
    refine ⟨fun t h => ?_, fun _ _ => by rw [tellE, List.append_nil]⟩; rw [tellE] at h
    injection h with h
    subst h
    simp [hn]
  | c :: F, told, hn => by
    have e : told ++ c :: F = (told ++ [c]) ++ F := by simp
    constructor
    · intro t h
      rw [tellE] at h
      by_cases hc : pgOk ps c ∧ ¬ c ∈ told
      · rw [if_pos hc] at h
        have hn2 : (told ++ [c]).Nodup := by
          rw [List.nodup_append]; refine ⟨hn, by simp, fun a ha b hb hab => ?_⟩; rw [List.mem_singleton] at hb; subst hb; subst hab; exact hc.2 ha
        obtain ⟨h1, h2, h3⟩ := (tellE_some ps F (told ++ [c]) hn2).1 t h; rw [e]; refine ⟨h1, fun q hq => ?_, h3⟩
        rcases List.mem_cons.1 hq with hq | hq
        · exact hq ▸ hc.1
        · exact h2 q hq
      · rw [if_neg hc] at h
        cases h
    · intro h1 h2
      have hcn : ¬ c ∈ told := by
        intro hin
        rw [List.nodup_append] at h2; exact h2.2.2 c hin c (List.mem_cons_self ..) rfl
      rw [tellE, if_pos ⟨h1 c (List.mem_cons_self ..), hcn⟩, e]; rw [e] at h2; exact (tellE_some ps F (told ++ [c]) (by rw [List.nodup_append] at h2; exact h2.1)).2 (fun q hq => h1 q (List.mem_cons_of_mem _ hq)) h2
theorem tellR_iff (ps : List Pg) : ∀ r told, told.Nodup → (tellR ps told r = true ↔ (∀ c ∈ r.flatMap (kids ps), pgOk ps c) ∧ (told ++ r.flatMap (kids ps)).Nodup)
  | [], told, hn => by simp [tellR, hn]
  | i :: r, told, hn => by
    obtain ⟨h1, h2⟩ := tellE_some ps (kids ps i) told hn; rw [tellR, List.flatMap_cons]
    constructor
    · intro h
      cases ht : tellE ps told (kids ps i) with
      | none =>
        rw [ht] at h
        cases h
      | some t =>
        rw [ht] at h; obtain ⟨rfl, h4, h5⟩ := h1 t ht; have h6 := (tellR_iff ps r _ h5).1 h; refine ⟨fun c hc => ?_, by rw [← List.append_assoc]; exact h6.2⟩
        rcases List.mem_append.1 hc with hc | hc
        · exact h4 c hc
        · exact h6.1 c hc
    · rintro ⟨h3, h4⟩
      rw [← List.append_assoc] at h4
      have h5 : (told ++ kids ps i).Nodup := by
        rw [List.nodup_append] at h4; exact h4.1
      rw [h2 (fun c hc => h3 c (List.mem_append_left _ hc)) h5]; exact (tellR_iff ps r _ h5).2 ⟨fun c hc => h3 c (List.mem_append_right _ hc), h4⟩
/-- The entries are all reached, none is the root, and with those that were counted they are one less than the pages. -/
def edgeB (r : List Int) (a : Int) (F : List Int) (e : Nat) : Bool := (F.all fun c => decide (c ∈ r) && decide (c ≠ a)) && decide (e + F.length + 1 = r.length)
theorem edgeB_out {r : List Int} {a c : Int} {F : List Int} {e : Nat} (h : ¬ c ∈ r) : edgeB r a (c :: F) e = false := by
  unfold edgeB; rw [List.all_cons, decide_eq_false h]
  rfl
theorem edgeB_root {r : List Int} {a c : Int} {F : List Int} {e : Nat} (h : c = a) : edgeB r a (c :: F) e = false := by
  unfold edgeB; rw [List.all_cons, decide_eq_false (fun hn : c ≠ a => hn h), Bool.and_false]
  rfl
theorem edgeB_next {r : List Int} {a c : Int} {F : List Int} {e : Nat} (h1 : c ∈ r) (h2 : ¬ c = a) : edgeB r a (c :: F) e = edgeB r a F (e + 1) := by
  unfold edgeB; rw [List.all_cons, decide_eq_true h1, decide_eq_true (show c ≠ a from h2), Bool.and_self, Bool.true_and, List.length_cons]
  congr 1
  rw [decide_eq_decide]
  omega
theorem edgeB_iff {r : List Int} {a : Int} {F : List Int} {e : Nat} : edgeB r a F e = true ↔ (∀ c ∈ F, c ∈ r ∧ c ≠ a) ∧ e + F.length + 1 = r.length := by
  unfold edgeB; rw [Bool.and_eq_true, List.all_eq_true, decide_eq_true_iff]
  constructor
  · rintro ⟨h1, h2⟩
    refine ⟨fun c hc => ?_, h2⟩; have := h1 c hc; rw [Bool.and_eq_true, decide_eq_true_iff, decide_eq_true_iff] at this; exact this
  · rintro ⟨h1, h2⟩
    refine ⟨fun c hc => ?_, h2⟩; rw [Bool.and_eq_true, decide_eq_true_iff, decide_eq_true_iff]; exact h1 c hc
/-- The reference's count of the entries, from page x of those that are reached on. -/
theorem small_e {e2 B y M M2 n : Nat} (h2 : e2 ≤ B + y) (hxb : B ≤ M2) (hM : M2 + M + M ≤ 4611686018427387904) (hy : y < n) (hes : n ≤ M) : e2 ≤ 4611686018427387904 := by omega
theorem small_y {y M M2 n : Nat} (hM : M2 + M + M ≤ 4611686018427387904) (hy : y < n) (hes : n ≤ M) : y ≤ 4611686018427387904 := by omega
theorem spec_edges (M : Nat) (hM : M * M + M + M ≤ 4611686018427387904) (a : Int) (l : List Pg) (r : List Int) (hp : ∀ p ∈ l, p.f1.f1.length ≤ M) (hr : ∀ i ∈ r, pgOk l i) (hrl : r.length ≤ M) :
    ∀ d x : Nat, x + d = r.length → ∀ e : Nat, e ≤ x * M → Evn (fun k => spec_BookOk.l1 k r (e : Int) (x : Int) a l) (edgeB r a ((r.drop x).flatMap (kids l)) e)
  | 0, x, hx, e, hE => by
    rw [List.drop_eq_nil_of_le (by omega)]; refine Evn.step (fun k => ?_) (Evn.ret _); rw [spec_BookOk.l1, if_neg (by omega), show wrap64 ((r.length : Int) - 1) = (r.length : Int) - 1 by unfold wrap64; omega]
    congr 1
    unfold edgeB; rw [List.flatMap_nil, List.all_nil, Bool.true_and, Bool.eq_iff_iff, beq_iff_eq, decide_eq_true_iff, List.length_nil]
    omega
  | d + 1, x, hx, e, hE => by
    have hxl : x < r.length := by omega
    have hw : wrap64 ((x : Int) + 1) = ((x + 1 : Nat) : Int) := wrapI (by omega); have hg := hr _ (List.getElem_mem hxl)
    have hrd : rd r (x : Int) = r[x] := by
      show r.getD x 0 = _
      rw [List.getD_eq_getElem?_getD, List.getElem?_eq_getElem hxl]
      rfl
    have ih0 := spec_edges M hM a l r hp hr hrl d (x + 1) (by omega)
    have ih : ∀ e : Nat, e ≤ x * M + M → Evn (fun k => spec_BookOk.l1 k r (e : Int) ((x + 1 : Nat) : Int) a l) (edgeB r a ((r.drop (x + 1)).flatMap (kids l)) e) := fun e he => ih0 e (Nat.le_trans he (Nat.le_of_eq (Nat.succ_mul x M).symm))
    clear ih0; rw [List.drop_eq_getElem_cons hxl, List.flatMap_cons]; refine Evn.step (fun k => by rw [spec_BookOk.l1, if_pos (by omega), if_pos (by omega), hrd, if_pos hg.1, if_pos hg.2.1]) ?_
    generalize r[x] = i at hg
    have hes : (rd_T90 l i).f1.f1.length ≤ M := by
      obtain ⟨m, rfl⟩ : ∃ m : Nat, i = (m : Int) := ⟨i.toNat, by have := hg.1; omega⟩
      have hm : m < l.length := by have := hg.2.1; omega
      rw [rdPg_at l m hm]; exact hp _ (List.getElem_mem hm)
    generalize (r.drop (x + 1)).flatMap (kids l) = F at ih
    have hxb : x * M ≤ M * M := Nat.mul_le_mul_right M (show x ≤ M by omega)
    generalize x * M = B at hE ih hxb
    generalize M * M = M2 at hxb hM
    unfold kids
    generalize (rd_T90 l i).f1.f1 = es at hes
    generalize (rd_T90 l i).f1.f0 = b
    cases b with
    | true =>
      rw [if_pos rfl, List.nil_append]; have h1 : Evn (fun k => spec_BookOk.j4 k r (e : Int) (x : Int) 0 false a l true es) (edgeB r a F e) := Evn.step (fun k => by rw [spec_BookOk.j4, if_neg (by decide), hw]) (ih e (by omega))
      by_cases h0 : (0 : Int) < (es.length : Int)
      · exact Evn.step (fun k => by rw [spec_BookOk.l2, if_pos h0]; rfl) h1
      · exact Evn.step (fun k => by rw [spec_BookOk.l2, if_neg h0]) h1
    | false =>
      rw [if_neg (by decide)]
      have key : ∀ d y : Nat, y + d = es.length → ∀ e2 : Nat, e2 ≤ B + y → Evn (fun k => spec_BookOk.l2 k r (e2 : Int) (x : Int) (y : Int) a l false es) (edgeB r a ((es.drop y).map (fun e => e.f0) ++ F) e2) := by
        intro d
        induction d with
        | zero =>
          intro y hy e2 h2
          rw [List.drop_eq_nil_of_le (by omega), List.map_nil, List.nil_append]; exact Evn.step (fun k => by rw [spec_BookOk.l2, if_neg (by omega)]) (Evn.step (fun k => by rw [spec_BookOk.j4, if_neg (by decide), hw]) (ih e2 (by omega)))
        | succ d ihd =>
          intro y hy e2 h2
          have hyl : y < es.length := by omega
          have hrd : rd_T103 es (y : Int) = es[y] := by
            show es.getD y z103 = _
            rw [List.getD_eq_getElem?_getD, List.getElem?_eq_getElem hyl]
            rfl
          have ih2 := ihd (y + 1) (by omega) (e2 + 1) (by omega); have hw1 : wrap64 ((y : Int) + 1) = ((y + 1 : Nat) : Int) := wrapI (small_y hM hyl hes); have hw2 : wrap64 ((e2 : Int) + 1) = ((e2 + 1 : Nat) : Int) := wrapI (small_e h2 hxb hM hyl hes); have hy0 : (0 : Int) ≤ (y : Int) := Int.natCast_nonneg y; have hy1 : (y : Int) < (es.length : Int) := Int.ofNat_lt.mpr hyl; rw [List.drop_eq_getElem_cons hyl, List.map_cons, List.cons_append]; refine Evn.step (fun k => by rw [spec_BookOk.l2, if_pos hy1]) (Evn.step (fun k => by rw [spec_BookOk.j4, if_pos (by decide), if_pos hy0, if_pos hy1, hrd, hw1, hw2]) ?_); refine Evn.bind (has_evn r _ (by omega)) ?_
          by_cases hm : (es[y]).f0 ∈ r
          · rw [decide_eq_true hm]
            refine Evn.pos rfl ?_
            by_cases ha : (es[y]).f0 = a
            · rw [edgeB_root ha]
              exact Evn.pos ha (Evn.ret _)
            · rw [edgeB_next hm ha]
              exact Evn.neg ha ih2
          · rw [decide_eq_false hm, edgeB_out hm]
            exact Evn.neg (by decide) (Evn.ret _)
      have h := key es.length 0 (by omega) e (by omega); rw [List.drop_zero] at h; exact h
/-- A list that has all of another one, which names nothing twice, and is no longer, names nothing twice itself. -/
theorem nodup_cover : ∀ (F u : List Int), u.Nodup → (∀ x ∈ u, x ∈ F) → F.length ≤ u.length → F.Nodup
  | [], u, _, _, _ => List.nodup_nil
  | c :: F, u, hu, hs, hl => by
    have hc : ¬ c ∈ F := by
      intro hin
      have := nodup_sub u F hu (fun x hx => by
        rcases List.mem_cons.1 (hs x hx) with h | h
        · exact h ▸ hin
        · exact h)
      rw [List.length_cons] at hl
      omega
    rw [List.nodup_cons]; refine ⟨hc, nodup_cover F (u.erase c) (hu.erase c) (fun x hx => ?_) ?_⟩
    · have hxu := List.mem_of_mem_erase hx
      rcases List.mem_cons.1 (hs x hxu) with h | h
      · exact absurd hx (h ▸ hu.not_mem_erase)
      · exact h
    · by_cases hcu : c ∈ u
      · rw [List.length_erase_of_mem hcu]
        rw [List.length_cons] at hl
        omega
      · rw [List.erase_of_not_mem hcu]
        rw [List.length_cons] at hl
        omega
theorem tree_iff {ps : List Pg} {root : Int} {r : List Int} (h : Reached ps root r) (hroot : pgOk ps root) : ((∀ c ∈ r.flatMap (kids ps), pgOk ps c) ∧ ([root] ++ r.flatMap (kids ps)).Nodup) ↔ ((∀ c ∈ r.flatMap (kids ps), c ∈ r ∧ c ≠ root) ∧ 0 + (r.flatMap (kids ps)).length + 1 = r.length) := by
  have hr := h.root_mem hroot; have hlen : (r.erase root).length = r.length - 1 := List.length_erase_of_mem hr; have hpos := List.length_pos_of_mem hr
  have hcov : ∀ x ∈ r.erase root, x ∈ r.flatMap (kids ps) := by
    intro x hx
    have hxr := List.mem_of_mem_erase hx
    have hne : x ≠ root := fun e => absurd hx (e ▸ h.once.1.not_mem_erase)
    obtain ⟨a, b, e⟩ := List.append_of_mem hxr
    rcases h.led a x b e with h1 | ⟨p, hp, hk⟩
    · exact absurd h1 hne
    · exact List.mem_flatMap.2 ⟨p, by rw [e]; exact List.mem_append_left _ hp, hk⟩
  constructor
  · rintro ⟨h1, h2⟩
    have hF : (r.flatMap (kids ps)).Nodup := by
      rw [List.nodup_append] at h2; exact h2.2.1
    have hne : ∀ c ∈ r.flatMap (kids ps), c ≠ root := by
      intro c hc e
      rw [List.nodup_append] at h2; exact h2.2.2 root (by simp) c hc e.symm
    have hin : ∀ c ∈ r.flatMap (kids ps), c ∈ r := by
      intro c hc
      obtain ⟨j, hj, hk⟩ := List.mem_flatMap.1 hc; exact h.shut j hj c hk (h1 c hc)
    refine ⟨fun c hc => ⟨hin c hc, hne c hc⟩, ?_⟩; have h3 := nodup_sub _ (r.erase root) hF (fun c hc => (List.mem_erase_of_ne (hne c hc)).2 (hin c hc)); have h4 := nodup_sub _ (r.flatMap (kids ps)) (h.once.1.erase root) hcov
    omega
  · rintro ⟨h1, h2⟩
    have hF := nodup_cover (r.flatMap (kids ps)) (r.erase root) (h.once.1.erase root) hcov (by omega); refine ⟨fun c hc => h.once.2 c (h1 c hc).1, ?_⟩; rw [List.nodup_append]; refine ⟨by simp, hF, fun a ha b hb e => ?_⟩; rw [List.mem_singleton] at ha; subst ha; exact (h1 b hb).2 e.symm
/-- A book is right: its pages are, and what is reached is a tree. -/
structure Right (l : List Pg) (a : Int) (r : List Int) : Prop where
  len : 1 ≤ l.length ∧ l.length ≤ 48
  root : pgOk l a
  pages : l.all pageOk = true
  tree : (∀ c ∈ r.flatMap (kids l), pgOk l c) ∧ ([a] ++ r.flatMap (kids l)).Nodup
instance (l : List Pg) (a : Int) (r : List Int) : Decidable (Right l a r) :=
  if h1 : 1 ≤ l.length ∧ l.length ≤ 48 then if h2 : pgOk l a then if h3 : l.all pageOk = true then if h4 : (∀ c ∈ r.flatMap (kids l), pgOk l c) ∧ ([a] ++ r.flatMap (kids l)).Nodup then isTrue ⟨h1, h2, h3, h4⟩ else isFalse fun h => h4 h.tree else isFalse fun h => h3 h.pages else isFalse fun h => h2 h.root else isFalse fun h => h1 h.len
theorem impl_bookOk (a : Int) (l : List Pg) (r : List Int) (hl : l.length ≤ 1048576) (hp : ∀ p ∈ l, p.f1.f1.length ≤ 1048576) (hw : Evn (fun k => walkM k l a []) r) (h : Reached l a r) : Evn (fun k => impl_BookOk.f k a l) (decide (Right l a r)) := by
  have hrl := h.once.len; unfold impl_BookOk.f
  by_cases h1 : 1 ≤ l.length ∧ l.length ≤ 48
  · refine Evn.pos (by omega) ?_
    by_cases h2 : pgOk l a
    · refine Evn.pos h2 ?_
      have h3 := bokP_f l hl hp l.length 0 (by omega); rw [List.drop_zero] at h3; refine Evn.bind h3 ?_
      by_cases h4 : l.all pageOk = true
      · rw [h4]
        refine Evn.pos rfl (Evn.bind (Evn.bind (a := r) hw (Evn.ret _)) ?_); have h5 := bokR_f l hl hp r h.once.2 (by omega) r.length 0 (by omega) [a] ((Once.nil l).snoc h2 List.not_mem_nil); rw [List.drop_zero] at h5
        have e : tellR l [a] r = decide (Right l a r) := by
          rw [Bool.eq_iff_iff, decide_eq_true_iff, tellR_iff l r [a] (by simp)]; exact ⟨fun ht => ⟨h1, h2, h4, ht⟩, fun ht => ht.tree⟩
        rw [← e]; exact h5
      · rw [decide_eq_false (fun ht : Right l a r => h4 ht.pages)]
        exact Evn.neg h4 (Evn.ret _)
    · rw [decide_eq_false (fun ht : Right l a r => h2 ht.root)]
      exact Evn.neg h2 (Evn.ret _)
  · rw [decide_eq_false (fun ht : Right l a r => h1 ht.len)]
    exact Evn.neg (by omega) (Evn.ret _)
theorem spec_bookOk (a : Int) (l : List Pg) (r : List Int) (hl : l.length ≤ 1048576) (hp : ∀ p ∈ l, p.f1.f1.length ≤ 1048576) (hw : Evn (fun k => walkM k l a []) r) (h : Reached l a r) : Evn (fun k => spec_BookOk.f k a l) (decide (Right l a r)) := by
  have hrl := h.once.len; unfold spec_BookOk.f; refine Evn.bind (a := r) hw (Evn.bind (Evn.const fun _ => spec_l1In_f _ _ _) ?_)
  by_cases h1 : 1 ≤ l.length ∧ l.length ≤ 48
  · rw [decide_eq_true (show 1 ≤ (l.length : Int) ∧ (l.length : Int) ≤ 48 by omega)]
    refine Evn.pos rfl ?_
    by_cases h2 : pgOk l a
    · have hpos := List.length_pos_of_mem (h.root_mem h2)
      rw [show ((r.length : Int) == 0) = false by rw [beq_eq_false_iff_ne]; omega]; refine Evn.step (fun k => by rw [spec_BookOk.j0, if_neg (by decide)]) ?_; have h3 := spec_edges 1048576 (by decide) a l r hp h.once.2 (by omega) r.length 0 (by omega) 0 (Nat.zero_le _); rw [List.drop_zero] at h3; have h5 := spec_pages a l r _ hl hp h3 l.length 0 (by omega); rw [List.drop_zero] at h5
      have e : (l.all pageOk && edgeB r a (r.flatMap (kids l)) 0) = decide (Right l a r) := by
        rw [Bool.eq_iff_iff, Bool.and_eq_true, edgeB_iff, decide_eq_true_iff, ← tree_iff h h2]; exact ⟨fun ht => ⟨h1, h2, ht.1, ht.2⟩, fun ht => ⟨ht.pages, ht.tree⟩⟩
      rw [← e]; exact h5
    · rw [decide_eq_false (fun ht : Right l a r => h2 ht.root), h.none h2]
      exact Evn.step (fun k => by rw [spec_BookOk.j0]; rfl) (Evn.ret _)
  · rw [decide_eq_false (show ¬ (1 ≤ (l.length : Int) ∧ (l.length : Int) ≤ 48) by omega), decide_eq_false (fun ht : Right l a r => h1 ht.len)]
    exact Evn.neg (by decide) (Evn.step (fun k => by rw [spec_BookOk.j0, if_pos rfl]) (Evn.ret _))
theorem bookOk_both (a : Int) (l : List Pg) (hl : l.length ≤ 1048576) (hp : ∀ p ∈ l, p.f1.f1.length ≤ 1048576) : ∃ b : Bool, Evn (fun k => spec_BookOk.f k a l) b ∧ Evn (fun k => impl_BookOk.f k a l) b := by
  obtain ⟨r, hw, hr⟩ := reached l hl hp a; exact ⟨_, spec_bookOk a l r hl hp hw hr, impl_bookOk a l r hl hp hw hr⟩

abbrev pgLeaf (l : List Pg) (i : Int) : Bool := (rd_T90 l i).f1.f0
abbrev pgL (l : List Pg) (i : Int) : List En := (rd_T90 l i).f1.f1
theorem pg_mem {l : List Pg} {i : Int} (h : pgOk l i) : rd_T90 l i ∈ l := by
  obtain ⟨m, rfl⟩ : ∃ m : Nat, i = (m : Int) := ⟨i.toNat, by have := h.1; omega⟩
  have hm : m < l.length := by have := h.2.1; omega
  rw [rdPg_at l m hm]; exact List.getElem_mem hm
theorem Right.len4 {l : List Pg} {a : Int} {r : List Int} (h : Right l a r) {i : Int} (hi : pgOk l i) : (pgL l i).length ≤ 4 := by
  have h1 := List.all_eq_true.1 h.pages _ (pg_mem hi); unfold pageOk at h1; rw [if_pos hi.2.2] at h1; unfold nodeOk sizeOk at h1; rw [Bool.and_eq_true, Bool.and_eq_true] at h1; exact of_decide_eq_true h1.2.1
theorem kids_leaf {l : List Pg} {i : Int} (h : pgLeaf l i = true) : kids l i = [] := if_pos h
theorem kids_inner {l : List Pg} {i : Int} (h : pgLeaf l i = false) : kids l i = (pgL l i).map (fun e => e.f0) := if_neg (by rw [show (rd_T90 l i).f1.f0 = false from h]; decide)
theorem kids_len {l : List Pg} {i : Int} : (kids l i).length ≤ (pgL l i).length := by
  cases h : pgLeaf l i with
  | true => rw [kids_leaf h]; exact Nat.zero_le _
  | false => rw [kids_inner h, List.length_map]; exact Nat.le_refl _
theorem Right.kid {l : List Pg} {a : Int} {r : List Int} (h : Right l a r) (hr : Reached l a r) {i c : Int} (hi : i ∈ r) (hc : c ∈ kids l i) : c ∈ r :=
  hr.shut i hi c hc (h.tree.1 c (List.mem_flatMap.2 ⟨i, hi, hc⟩))
/-- Who names a page is told by the page. -/
theorem flat_once {α : Type} (f : α → List Int) : ∀ (r : List α), (r.flatMap f).Nodup → ∀ p ∈ r, ∀ q ∈ r, ∀ c, c ∈ f p → c ∈ f q → p = q
  | [], _, p, hp, _, _, _, _, _ => absurd hp List.not_mem_nil
  | x :: t, h, p, hp, q, hq, c, h1, h2 => by
    rw [List.flatMap_cons, List.nodup_append] at h; obtain ⟨_, ht, hd⟩ := h
    rcases List.mem_cons.1 hp with hp2 | hp2
    · rcases List.mem_cons.1 hq with hq2 | hq2
      · rw [hp2, hq2]
      · rw [hp2] at h1
        exact absurd rfl (hd c h1 c (List.mem_flatMap.2 ⟨q, hq2, h2⟩))
    · rcases List.mem_cons.1 hq with hq2 | hq2
      · rw [hq2] at h2
        exact absurd rfl (hd c h2 c (List.mem_flatMap.2 ⟨p, hp2, h1⟩))
      · exact flat_once f t ht p hp2 q hq2 c h1 h2
theorem Right.behind {l : List Pg} {a : Int} {r : List Int} (h : Right l a r) (hr : Reached l a r) {i c : Int} (hi : i ∈ r) (hc : c ∈ kids l i) : r.idxOf i < r.idxOf c := by
  have hcr := h.kid hr hi hc; have htree := h.tree.2; rw [List.nodup_append] at htree
  have hca : c ≠ a := fun e => htree.2.2 a (by simp) c (List.mem_flatMap.2 ⟨i, hi, hc⟩) e.symm
  obtain ⟨s, t, e⟩ := List.append_of_mem hcr; have hn := hr.once.1
  rcases hr.led s c t e with h1 | ⟨p, hp, hk⟩
  · exact absurd h1 hca
  · have hpr : p ∈ r := by rw [e]; exact List.mem_append_left _ hp
    have hpi := flat_once (kids l) r htree.2.1 p hpr i hi c hk hc; subst hpi
    have hcs : c ∉ s := by
      intro hcs
      rw [e, List.nodup_append] at hn; exact hn.2.2 c hcs c (List.mem_cons_self) rfl
    rw [e, List.idxOf_append, List.idxOf_append, if_pos hp, if_neg hcs]; have := List.idxOf_lt_length_of_mem hp
    omega
/-- A number that goes down from a page to those it names. -/
def under (r : List Int) (i : Int) : Nat := r.length - r.idxOf i
theorem Right.down {l : List Pg} {a : Int} {r : List Int} (h : Right l a r) (hr : Reached l a r) {i c : Int} (hi : i ∈ r) (hc : c ∈ kids l i) : under r c < under r i := by
  have h1 := h.behind hr hi hc; have h2 := List.idxOf_lt_length_of_mem (h.kid hr hi hc); unfold under
  omega
theorem under_pos {r : List Int} {i : Int} (hi : i ∈ r) : 0 < under r i := by
  have h2 := List.idxOf_lt_length_of_mem hi; unfold under
  omega
theorem rdEnF (es : List En) (x : Nat) (h : x < es.length) : (rd_T103 es (x : Int)).f0 = (es.map (fun e => e.f0))[x]'(by rw [List.length_map]; exact h) := by
  show (es.getD x z103).f0 = _
  rw [List.getD_eq_getElem?_getD, List.getElem?_eq_getElem h]
  simp
/-- The same number of pages at most four times as many. -/
theorem flat_le (f : Int → List Int) (n : Nat) : ∀ (q : List Int), (∀ c ∈ q, (f c).length ≤ n) → (q.flatMap f).length ≤ q.length * n
  | [], _ => by simp
  | c :: q, h => by
    have h1 := h c (by simp); have h2 := flat_le f n q (fun d hd => h d (List.mem_cons_of_mem _ hd)); rw [List.flatMap_cons, List.length_append, List.length_cons, Nat.succ_mul]
    omega

end Go.Proofs.Ytngjaajcdbodeaa.Pure

namespace Go.Proofs.Ytngjaajcdbodeaa.All
open Go.RowKit Go.Proofs.YtngjaajcdbodeaaW.PrintWords Go.Proofs.YtngjaajcdbodeaaW.PrintLast Go.Proofs.YtngjaajcdbodeaaW.PrintMore Go.Proofs.Ytngjaajcdbodeaa.Sq
attribute [local go_sem] max2_int min2_int max_two min_two max_three min_three max_four min_four 
set_option linter.unusedVariables false
set_option linter.unusedSimpArgs false

/-! ### spec_Visited: function 47 -/
def spec_Visited.f (k : Nat) (a0_0 : Int) (l0_1 : List (S90)) (a1_0 : Int) (a1_1 : Int) (a1_2 : Int) (a1_3 : Int) : Option (Int) := (spec_BookOk.f k a0_0 l0_1).bind fun t848 => (if t848 = true then ((spec_l8Search.f k a0_0 l0_1 a0_0 a1_0 a1_1 a1_2 a1_3 1).bind fun bt849 => (some bt849.2)) else (some 0))
theorem spec_Visited.mono : ∀ a0 a1 a2 a3 a4 a5 k, LeO (spec_Visited.f k a0 a1 a2 a3 a4 a5) (spec_Visited.f (k + 1) a0 a1 a2 a3 a4 a5) := by
  intro a0 a1 a2 a3 a4 a5 k
  unfold spec_Visited.f
  repeat' first | (with_reducible first | exact spec_BookOk.mono _ _ _ | exact spec_l8Search.mono _ _ _ _ _ _ _ _ _ | exact LeO.refl _ | exact LeO.none _ | refine LeO.ite ?_ ?_ | refine LeO.bind ?_ (fun _ => ?_)) | exact spec_BookOk.mono _ _ _ | exact spec_l8Search.mono _ _ _ _ _ _ _ _ _ | exact LeO.none _ | refine LeO.ite ?_ ?_ | refine LeO.bind ?_ (fun _ => ?_)
set_option maxHeartbeats 8000000 in
set_option maxRecDepth 100000 in
theorem spec_Visited.calls (k : Nat) (a0_0 : Int) (A0_1 : Option Addr) (c0_1 : Nat) (l0_1 : List (S90)) (a1_0 : Int) (a1_1 : Int) (a1_2 : Int) (a1_3 : Int) (r : Int) (w : World) (hr0_1 : Kd.C k90 w A0_1 l0_1.length l0_1) (hc0_1 : l0_1.length ≤ c0_1) (h : spec_Visited.f k a0_0 l0_1 a1_0 a1_1 a1_2 a1_3 = some r) :
    Calls Try.prog 47 #[.agg #[.int .i64 a0_0, .slice A0_1 l0_1.length c0_1], .agg #[.int .i64 a1_0, .int .i64 a1_1, .int .i64 a1_2, .int .i64 a1_3]] w fun e w' => e = .returned (.int .i64 r) ∧ Below w.heap.size w w' := by
  have hu49 := Try.underlying49; have hu32 := Try.underlying32; have HR0_1 := Aside0.mk hr0_1; have HC0_1 := Aside0.mk hc0_1; clear hr0_1 hc0_1; have HB := Aside0.mk (Below.refl w.heap.size w); have H : ((spec_BookOk.f k a0_0 l0_1).bind fun t848 => (if t848 = true then ((spec_l8Search.f k a0_0 l0_1 a0_0 a1_0 a1_1 a1_2 a1_3 1).bind fun bt849 => (some bt849.2)) else (some 0))) = some r := h; clear h; replace H := Option.bind_eq_some_iff.mp H; obtain ⟨t848, A30, H⟩ := H; replace H : (if t848 = true then ((spec_l8Search.f k a0_0 l0_1 a0_0 a1_0 a1_1 a1_2 a1_3 1).bind fun bt849 => (some bt849.2)) else (some 0)) = some r := H; have A3 := Aside0.mk A30; clear A30
  by_cases c4 : t848 = true
  · subst c4
    replace H : ((spec_l8Search.f k a0_0 l0_1 a0_0 a1_0 a1_1 a1_2 a1_3 1).bind fun bt849 => (some bt849.2)) = some r := (by rw [if_pos rfl] at H; exact H); replace H := Option.bind_eq_some_iff.mp H; obtain ⟨⟨t849, t852⟩, A50, H⟩ := H; replace H : (some t852) = some r := H; have A5 := Aside0.mk A50; clear A50; obtain rfl := Option.some.inj H
    go_enter Try.func47, Try.ntmps47
    go_wp2_with (first | ((with_reducible refine gate_dst (N := 2) rfl ?_); refine box_event ?hg (N := 2) ?hd (cs := #[.int .i64 a0_0, .slice A0_1 l0_1.length c0_1]) (t := 49) ?hr ?_; (case hd => rfl); (case hg => rfl); (case hr => first | (go_simp; done) | (go_simp; rfl)); intro gb846 hg w6 hbox hb; have n0_ := Aside0.mk (below_step (bz HB.out) hb); have n1_ := Aside0.mk (hbox); have n2_ := Aside0.mk ((by rw [hg]; exact (below_size (bz HB.out)) : w.heap.size ≤ gb846)); have n3_ := Aside0.mk ((by rw [hg]; exact (below_size (bz HB.out)) : w.heap.size ≤ gb846)); clear HB; have HB := n0_; have BK846 := n1_; have GW846 := n2_; have GE846 := n3_; clear n0_ n1_ n2_ n3_; clear hb hbox hg) | ((with_reducible refine gate_dst (N := 3) rfl ?_); refine box_event ?hg (N := 3) ?hd (cs := #[.int .i64 a1_0, .int .i64 a1_1, .int .i64 a1_2, .int .i64 a1_3]) (t := 32) ?hr ?_; (case hd => rfl); (case hg => rfl); (case hr => first | (go_simp; done) | (go_simp; rfl)); intro gb847 hg w7 hbox hb; have n0_ := Aside0.mk (blk_below (g := gb846) (o := .cells #[.int .i64 a0_0, .slice A0_1 l0_1.length c0_1] 49 (0, 0)) (kz BK846.out) hb); have n1_ := Aside0.mk (below_step (b1 GE846.out HB.out) hb); have n2_ := Aside0.mk (hbox); have n3_ := Aside0.mk ((by rw [hg]; exact (below_size (b1 GE846.out HB.out)) : w.heap.size ≤ gb847)); have n4_ := Aside0.mk ((by rw [hg]; exact (below_size (b1 GE846.out HB.out)) : w.heap.size ≤ gb847)); have n5_ := Aside0.mk ((by rw [hg]; exact Nat.ne_of_lt (blk_lt (g := gb846) (o := .cells #[.int .i64 a0_0, .slice A0_1 l0_1.length c0_1] 49 (0, 0)) (kz BK846.out)) : gb846 ≠ gb847)); have n6_ := Aside0.mk ((by rw [hg]; exact Nat.ne_of_gt (blk_lt (g := gb846) (o := .cells #[.int .i64 a0_0, .slice A0_1 l0_1.length c0_1] 49 (0, 0)) (kz BK846.out)) : gb847 ≠ gb846)); clear BK846; clear HB; have BK846 := n0_; have HB := n1_; have BK847 := n2_; have GW847 := n3_; have GE847 := n4_; have NB846_847 := n5_; have NB847_846 := n6_; clear n0_ n1_ n2_ n3_ n4_ n5_ n6_; clear hb hbox hg; have hnb8 := NB846_847.out; have hnc8 := NB847_846.out; have hcz9_0 := fz BK846.out 0 (.int .i64 a0_0); have hcz9_1 := fz BK846.out 1 (.slice A0_1 l0_1.length c0_1); have hfz9_0 := blk_frozen BK846.out 0; have hfz9_1 := blk_frozen BK846.out 1) | ((with_reducible refine gate_callee (f := 41) rfl ?_); refine goesL_ (some 8) rfl rfl Try.func41 (by kernel_rfl) rfl #[.agg #[.int .i64 a0_0, .slice A0_1 l0_1.length c0_1]] rfl dz ?_; (with_reducible refine (spec_BookOk.calls k a0_0 _ _ l0_1 true _ ?side1 ?side2 A3.out).mono ?_); (case side1 => exact sz HR0_1.out HB.out); (case side2 => exact HC0_1.out); rintro e w10 ⟨rfl, hb⟩; refine ⟨_, rfl, ?_⟩; have n0_ := Aside0.mk (blk_below (g := gb846) (o := .cells #[.int .i64 a0_0, .slice A0_1 l0_1.length c0_1] 49 (0, 0)) (kz BK846.out) hb); have n1_ := Aside0.mk (blk_below (g := gb847) (o := .cells #[.int .i64 a1_0, .int .i64 a1_1, .int .i64 a1_2, .int .i64 a1_3] 32 (0, 0)) (kz BK847.out) hb); have n2_ := Aside0.mk (below_step (b2 GE846.out GE847.out HB.out) hb); clear BK846; clear BK847; clear HB; have BK846 := n0_; have BK847 := n1_; have HB := n2_; clear n0_ n1_ n2_; (try clear hb); (try clear hb2); (try clear hk); (try clear hi); have hcz11_0 := fz BK846.out 0 (.int .i64 a0_0); have hcz11_1 := fz BK846.out 1 (.slice A0_1 l0_1.length c0_1); have hfz11_0 := blk_frozen BK846.out 0; have hfz11_1 := blk_frozen BK846.out 1; have hcz12_0 := fz BK847.out 0 (.int .i64 a1_0); have hcz12_1 := fz BK847.out 1 (.int .i64 a1_1); have hcz12_2 := fz BK847.out 2 (.int .i64 a1_2); have hcz12_3 := fz BK847.out 3 (.int .i64 a1_3); have hfz12_0 := blk_frozen BK847.out 0; have hfz12_1 := blk_frozen BK847.out 1; have hfz12_2 := blk_frozen BK847.out 2; have hfz12_3 := blk_frozen BK847.out 3) | ((with_reducible refine gate_callee (f := 99) rfl ?_); refine goesL_ (some 15) rfl rfl Try.func99 (by kernel_rfl) rfl #[.agg #[.int .i64 a0_0, .slice A0_1 l0_1.length c0_1], .int .i64 a0_0, .agg #[.int .i64 a1_0, .int .i64 a1_1, .int .i64 a1_2, .int .i64 a1_3], .int .i64 1] rfl dz ?_; (with_reducible refine (spec_l8Search.calls k a0_0 _ _ l0_1 a0_0 a1_0 a1_1 a1_2 a1_3 1 t849 t852 _ ?side1 ?side2 A5.out).mono ?_); (case side1 => exact sz HR0_1.out HB.out); (case side2 => exact HC0_1.out); rintro e w13 ⟨v850, rfl, ho0, hb⟩; refine ⟨_, rfl, ?_⟩; have n0_ := Aside0.mk (Kd.R_lower ho0 (below_size (b2 GE846.out GE847.out HB.out))); have n1_ := Aside0.mk (blk_below (g := gb846) (o := .cells #[.int .i64 a0_0, .slice A0_1 l0_1.length c0_1] 49 (0, 0)) (kz BK846.out) hb); have n2_ := Aside0.mk (blk_below (g := gb847) (o := .cells #[.int .i64 a1_0, .int .i64 a1_1, .int .i64 a1_2, .int .i64 a1_3] 32 (0, 0)) (kz BK847.out) hb); have n3_ := Aside0.mk (below_step (b2 GE846.out GE847.out HB.out) hb); clear BK846; clear BK847; clear HB; have HO851 := n0_; have BK846 := n1_; have BK847 := n2_; have HB := n3_; clear n0_ n1_ n2_ n3_; (try clear hb); (try clear hb2); (try clear hk); (try clear hi); (try clear ho0)))
    go_ret; exact ⟨ez, b2 GE846.out GE847.out HB.out⟩
  · replace c4 := Bool.eq_false_iff.mpr c4
    subst c4; replace H : (some 0) = some r := (by rw [if_neg (show ¬ (false = true) by decide)] at H; exact H); obtain rfl := Option.some.inj H
    go_enter Try.func47, Try.ntmps47
    go_wp2_with (first | ((with_reducible refine gate_dst (N := 2) rfl ?_); refine box_event ?hg (N := 2) ?hd (cs := #[.int .i64 a0_0, .slice A0_1 l0_1.length c0_1]) (t := 49) ?hr ?_; (case hd => rfl); (case hg => rfl); (case hr => first | (go_simp; done) | (go_simp; rfl)); intro gb846 hg w14 hbox hb; have n0_ := Aside0.mk (below_step (bz HB.out) hb); have n1_ := Aside0.mk (hbox); have n2_ := Aside0.mk ((by rw [hg]; exact (below_size (bz HB.out)) : w.heap.size ≤ gb846)); have n3_ := Aside0.mk ((by rw [hg]; exact (below_size (bz HB.out)) : w.heap.size ≤ gb846)); clear HB; have HB := n0_; have BK846 := n1_; have GW846 := n2_; have GE846 := n3_; clear n0_ n1_ n2_ n3_; clear hb hbox hg) | ((with_reducible refine gate_dst (N := 3) rfl ?_); refine box_event ?hg (N := 3) ?hd (cs := #[.int .i64 a1_0, .int .i64 a1_1, .int .i64 a1_2, .int .i64 a1_3]) (t := 32) ?hr ?_; (case hd => rfl); (case hg => rfl); (case hr => first | (go_simp; done) | (go_simp; rfl)); intro gb847 hg w15 hbox hb; have n0_ := Aside0.mk (blk_below (g := gb846) (o := .cells #[.int .i64 a0_0, .slice A0_1 l0_1.length c0_1] 49 (0, 0)) (kz BK846.out) hb); have n1_ := Aside0.mk (below_step (b1 GE846.out HB.out) hb); have n2_ := Aside0.mk (hbox); have n3_ := Aside0.mk ((by rw [hg]; exact (below_size (b1 GE846.out HB.out)) : w.heap.size ≤ gb847)); have n4_ := Aside0.mk ((by rw [hg]; exact (below_size (b1 GE846.out HB.out)) : w.heap.size ≤ gb847)); have n5_ := Aside0.mk ((by rw [hg]; exact Nat.ne_of_lt (blk_lt (g := gb846) (o := .cells #[.int .i64 a0_0, .slice A0_1 l0_1.length c0_1] 49 (0, 0)) (kz BK846.out)) : gb846 ≠ gb847)); have n6_ := Aside0.mk ((by rw [hg]; exact Nat.ne_of_gt (blk_lt (g := gb846) (o := .cells #[.int .i64 a0_0, .slice A0_1 l0_1.length c0_1] 49 (0, 0)) (kz BK846.out)) : gb847 ≠ gb846)); clear BK846; clear HB; have BK846 := n0_; have HB := n1_; have BK847 := n2_; have GW847 := n3_; have GE847 := n4_; have NB846_847 := n5_; have NB847_846 := n6_; clear n0_ n1_ n2_ n3_ n4_ n5_ n6_; clear hb hbox hg; have hnb16 := NB846_847.out; have hnc16 := NB847_846.out; have hcz17_0 := fz BK846.out 0 (.int .i64 a0_0); have hcz17_1 := fz BK846.out 1 (.slice A0_1 l0_1.length c0_1); have hfz17_0 := blk_frozen BK846.out 0; have hfz17_1 := blk_frozen BK846.out 1) | ((with_reducible refine gate_callee (f := 41) rfl ?_); refine goesL_ (some 8) rfl rfl Try.func41 (by kernel_rfl) rfl #[.agg #[.int .i64 a0_0, .slice A0_1 l0_1.length c0_1]] rfl dz ?_; (with_reducible refine (spec_BookOk.calls k a0_0 _ _ l0_1 false _ ?side1 ?side2 A3.out).mono ?_); (case side1 => exact sz HR0_1.out HB.out); (case side2 => exact HC0_1.out); rintro e w18 ⟨rfl, hb⟩; refine ⟨_, rfl, ?_⟩; have n0_ := Aside0.mk (blk_below (g := gb846) (o := .cells #[.int .i64 a0_0, .slice A0_1 l0_1.length c0_1] 49 (0, 0)) (kz BK846.out) hb); have n1_ := Aside0.mk (blk_below (g := gb847) (o := .cells #[.int .i64 a1_0, .int .i64 a1_1, .int .i64 a1_2, .int .i64 a1_3] 32 (0, 0)) (kz BK847.out) hb); have n2_ := Aside0.mk (below_step (b2 GE846.out GE847.out HB.out) hb); clear BK846; clear BK847; clear HB; have BK846 := n0_; have BK847 := n1_; have HB := n2_; clear n0_ n1_ n2_; (try clear hb); (try clear hb2); (try clear hk); (try clear hi)))
    go_ret; exact ⟨ez, b2 GE846.out GE847.out HB.out⟩

attribute [local go_sem] max2_int min2_int max_two min_two max_three min_three max_four min_four 
set_option linter.unusedVariables false
set_option linter.unusedSimpArgs false

/-! ### impl_Visited: function 49 -/
def impl_Visited.f (k : Nat) (a0_0 : Int) (l0_1 : List (S90)) (a1_0 : Int) (a1_1 : Int) (a1_2 : Int) (a1_3 : Int) : Option (Int) := (impl_search.f k a0_0 l0_1 a1_0 a1_1 a1_2 a1_3).bind fun bt855 => (some bt855.2)
theorem impl_Visited.mono : ∀ a0 a1 a2 a3 a4 a5 k, LeO (impl_Visited.f k a0 a1 a2 a3 a4 a5) (impl_Visited.f (k + 1) a0 a1 a2 a3 a4 a5) := by
  intro a0 a1 a2 a3 a4 a5 k
  unfold impl_Visited.f
  repeat' first | (with_reducible first | exact impl_search.mono _ _ _ _ _ _ _ | exact LeO.refl _ | exact LeO.none _ | refine LeO.ite ?_ ?_ | refine LeO.bind ?_ (fun _ => ?_)) | exact impl_search.mono _ _ _ _ _ _ _ | exact LeO.none _ | refine LeO.ite ?_ ?_ | refine LeO.bind ?_ (fun _ => ?_)
set_option maxHeartbeats 8000000 in
set_option maxRecDepth 100000 in
theorem impl_Visited.calls (k : Nat) (a0_0 : Int) (A0_1 : Option Addr) (c0_1 : Nat) (l0_1 : List (S90)) (a1_0 : Int) (a1_1 : Int) (a1_2 : Int) (a1_3 : Int) (r : Int) (w : World) (hr0_1 : Kd.C k90 w A0_1 l0_1.length l0_1) (hc0_1 : l0_1.length ≤ c0_1) (h : impl_Visited.f k a0_0 l0_1 a1_0 a1_1 a1_2 a1_3 = some r) :
    Calls Try.prog 49 #[.agg #[.int .i64 a0_0, .slice A0_1 l0_1.length c0_1], .agg #[.int .i64 a1_0, .int .i64 a1_1, .int .i64 a1_2, .int .i64 a1_3]] w fun e w' => e = .returned (.int .i64 r) ∧ Below w.heap.size w w' := by
  have hu49 := Try.underlying49; have hu32 := Try.underlying32; have HR0_1 := Aside0.mk hr0_1; have HC0_1 := Aside0.mk hc0_1; clear hr0_1 hc0_1; have HB := Aside0.mk (Below.refl w.heap.size w); have H : ((impl_search.f k a0_0 l0_1 a1_0 a1_1 a1_2 a1_3).bind fun bt855 => (some bt855.2)) = some r := h; clear h; replace H := Option.bind_eq_some_iff.mp H; obtain ⟨⟨t855, t858⟩, A30, H⟩ := H; replace H : (some t858) = some r := H; have A3 := Aside0.mk A30; clear A30; obtain rfl := Option.some.inj H
  go_enter Try.func49, Try.ntmps49
  go_wp2_with (first | ((with_reducible refine gate_dst (N := 2) rfl ?_); refine box_event ?hg (N := 2) ?hd (cs := #[.int .i64 a0_0, .slice A0_1 l0_1.length c0_1]) (t := 49) ?hr ?_; (case hd => rfl); (case hg => rfl); (case hr => first | (go_simp; done) | (go_simp; rfl)); intro gb853 hg w4 hbox hb; have n0_ := Aside0.mk (below_step (bz HB.out) hb); have n1_ := Aside0.mk (hbox); have n2_ := Aside0.mk ((by rw [hg]; exact (below_size (bz HB.out)) : w.heap.size ≤ gb853)); have n3_ := Aside0.mk ((by rw [hg]; exact (below_size (bz HB.out)) : w.heap.size ≤ gb853)); clear HB; have HB := n0_; have BK853 := n1_; have GW853 := n2_; have GE853 := n3_; clear n0_ n1_ n2_ n3_; clear hb hbox hg) | ((with_reducible refine gate_dst (N := 3) rfl ?_); refine box_event ?hg (N := 3) ?hd (cs := #[.int .i64 a1_0, .int .i64 a1_1, .int .i64 a1_2, .int .i64 a1_3]) (t := 32) ?hr ?_; (case hd => rfl); (case hg => rfl); (case hr => first | (go_simp; done) | (go_simp; rfl)); intro gb854 hg w5 hbox hb; have n0_ := Aside0.mk (blk_below (g := gb853) (o := .cells #[.int .i64 a0_0, .slice A0_1 l0_1.length c0_1] 49 (0, 0)) (kz BK853.out) hb); have n1_ := Aside0.mk (below_step (b1 GE853.out HB.out) hb); have n2_ := Aside0.mk (hbox); have n3_ := Aside0.mk ((by rw [hg]; exact (below_size (b1 GE853.out HB.out)) : w.heap.size ≤ gb854)); have n4_ := Aside0.mk ((by rw [hg]; exact (below_size (b1 GE853.out HB.out)) : w.heap.size ≤ gb854)); have n5_ := Aside0.mk ((by rw [hg]; exact Nat.ne_of_lt (blk_lt (g := gb853) (o := .cells #[.int .i64 a0_0, .slice A0_1 l0_1.length c0_1] 49 (0, 0)) (kz BK853.out)) : gb853 ≠ gb854)); have n6_ := Aside0.mk ((by rw [hg]; exact Nat.ne_of_gt (blk_lt (g := gb853) (o := .cells #[.int .i64 a0_0, .slice A0_1 l0_1.length c0_1] 49 (0, 0)) (kz BK853.out)) : gb854 ≠ gb853)); clear BK853; clear HB; have BK853 := n0_; have HB := n1_; have BK854 := n2_; have GW854 := n3_; have GE854 := n4_; have NB853_854 := n5_; have NB854_853 := n6_; clear n0_ n1_ n2_ n3_ n4_ n5_ n6_; clear hb hbox hg; have hnb6 := NB853_854.out; have hnc6 := NB854_853.out; have hcz7_0 := fz BK853.out 0 (.int .i64 a0_0); have hcz7_1 := fz BK853.out 1 (.slice A0_1 l0_1.length c0_1); have hfz7_0 := blk_frozen BK853.out 0; have hfz7_1 := blk_frozen BK853.out 1; have hcz8_0 := fz BK854.out 0 (.int .i64 a1_0); have hcz8_1 := fz BK854.out 1 (.int .i64 a1_1); have hcz8_2 := fz BK854.out 2 (.int .i64 a1_2); have hcz8_3 := fz BK854.out 3 (.int .i64 a1_3); have hfz8_0 := blk_frozen BK854.out 0; have hfz8_1 := blk_frozen BK854.out 1; have hfz8_2 := blk_frozen BK854.out 2; have hfz8_3 := blk_frozen BK854.out 3) | ((with_reducible refine gate_callee (f := 100) rfl ?_); refine goesL_ (some 10) rfl rfl Try.func100 (by kernel_rfl) rfl #[.agg #[.int .i64 a0_0, .slice A0_1 l0_1.length c0_1], .agg #[.int .i64 a1_0, .int .i64 a1_1, .int .i64 a1_2, .int .i64 a1_3]] rfl dz ?_; (with_reducible refine (impl_search.calls k a0_0 _ _ l0_1 a1_0 a1_1 a1_2 a1_3 t855 t858 _ ?side1 ?side2 A3.out).mono ?_); (case side1 => exact sz HR0_1.out HB.out); (case side2 => exact HC0_1.out); rintro e w9 ⟨v856, rfl, ho0, hb⟩; refine ⟨_, rfl, ?_⟩; have n0_ := Aside0.mk (Kd.R_lower ho0 (below_size (b2 GE853.out GE854.out HB.out))); have n1_ := Aside0.mk (blk_below (g := gb853) (o := .cells #[.int .i64 a0_0, .slice A0_1 l0_1.length c0_1] 49 (0, 0)) (kz BK853.out) hb); have n2_ := Aside0.mk (blk_below (g := gb854) (o := .cells #[.int .i64 a1_0, .int .i64 a1_1, .int .i64 a1_2, .int .i64 a1_3] 32 (0, 0)) (kz BK854.out) hb); have n3_ := Aside0.mk (below_step (b2 GE853.out GE854.out HB.out) hb); clear BK853; clear BK854; clear HB; have HO857 := n0_; have BK853 := n1_; have BK854 := n2_; have HB := n3_; clear n0_ n1_ n2_ n3_; (try clear hb); (try clear hb2); (try clear hk); (try clear hi); (try clear ho0)))
  go_ret; exact ⟨ez, b2 GE853.out GE854.out HB.out⟩

end Go.Proofs.Ytngjaajcdbodeaa.All

/- Plain law of search, the program's and the reference's: both gather the same items and count the same pages. No condition. -/
namespace Go.Proofs.Ytngjaajcdbodeaa.Pure
open Go.RowKit Go.Proofs.Ytngjaajcdbodeaa.All Go.Proofs.YtngjaajcdbodeaaW.PrintWords Go.Proofs.YtngjaajcdbodeaaW.PrintLast Go.Proofs.Ytngjaajcdbodeaa.Sq
set_option linter.unusedVariables false

/-- Two rectangles meet. -/
def mt (a0 a1 a2 a3 m0 m1 m2 m3 : Int) : Bool := bok a0 a1 a2 a3 && (bok m0 m1 m2 m3 && (decide (a0 ≤ m2) && (decide (m0 ≤ a2) && (decide (a1 ≤ m3) && decide (m1 ≤ a3)))))
theorem spec_mt (a0 a1 a2 a3 m0 m1 m2 m3 : Int) : spec_Meets.f a0 a1 a2 a3 m0 m1 m2 m3 = some (mt a0 a1 a2 a3 m0 m1 m2 m3) := by
  unfold spec_Meets.f mt
  simp only [spec_BoxOk_f, Option.bind_some]
  cases bok a0 a1 a2 a3 <;> cases bok m0 m1 m2 m3 <;> by_cases h1 : a0 ≤ m2 <;> by_cases h2 : m0 ≤ a2 <;> by_cases h3 : a1 ≤ m3 <;> simp [h1, h2, h3]
theorem impl_mt (a0 a1 a2 a3 m0 m1 m2 m3 : Int) : impl_Meets.f a0 a1 a2 a3 m0 m1 m2 m3 = some (mt a0 a1 a2 a3 m0 m1 m2 m3) := by
  unfold impl_Meets.f mt
  simp only [impl_BoxOk_f, Option.bind_some]
  cases bok a0 a1 a2 a3 <;> cases bok m0 m1 m2 m3 <;> by_cases h1 : a0 ≤ m2 <;> by_cases h2 : m0 ≤ a2 <;> by_cases h3 : a1 ≤ m3 <;> simp [h1, h2, h3]
/-- What is counted and found, one part after another. -/
def gath (f : En → Nat × List It) : List En → Nat × List It
  | [] => (0, [])
  | e :: t => ((f e).1 + (gath f t).1, (f e).2 ++ (gath f t).2)
theorem gath_le (f : En → Nat × List It) (P : Nat) (h : ∀ e, (f e).1 ≤ P ∧ (f e).2.length ≤ P) : ∀ l : List En, (gath f l).1 ≤ l.length * P ∧ (gath f l).2.length ≤ l.length * P
  | [] => ⟨Nat.zero_le _, Nat.zero_le _⟩
  | e :: t => by
    have h1 := h e; have h2 := gath_le f P h t; rw [List.length_cons, Nat.succ_mul, gath, List.length_append]; rw [Nat.add_comm (t.length * P)]; exact ⟨Nat.add_le_add h1.1 h2.1, Nat.add_le_add h1.2 h2.2⟩
section
variable (l : List Pg) (m0 m1 m2 m3 : Int)
/-- What is counted and found from a page on, n steps down at most. -/
def srT : Nat → Int → Nat × List It
  | 0, _ => (0, [])
  | n + 1, i => (1 + (gath (fun e => if mt e.f1.f0 e.f1.f1 e.f1.f2 e.f1.f3 m0 m1 m2 m3 = true then (if pgLeaf l i = true then (0, [itE e]) else srT n e.f0) else (0, [])) (pgL l i)).1,
      (gath (fun e => if mt e.f1.f0 e.f1.f1 e.f1.f2 e.f1.f3 m0 m1 m2 m3 = true then (if pgLeaf l i = true then (0, [itE e]) else srT n e.f0) else (0, [])) (pgL l i)).2)
def one (n : Nat) (lf : Bool) (e : En) : Nat × List It := if mt e.f1.f0 e.f1.f1 e.f1.f2 e.f1.f3 m0 m1 m2 m3 = true then (if lf = true then (0, [itE e]) else srT l m0 m1 m2 m3 n e.f0) else (0, [])
theorem srT_succ (n : Nat) (i : Int) : srT l m0 m1 m2 m3 (n + 1) i = (1 + (gath (one l m0 m1 m2 m3 n (pgLeaf l i)) (pgL l i)).1, (gath (one l m0 m1 m2 m3 n (pgLeaf l i)) (pgL l i)).2) := rfl
end
theorem one_le (l : List Pg) (m0 m1 m2 m3 : Int) (n P : Nat) (hP : 1 ≤ P) (lf : Bool) (h : ∀ i, (srT l m0 m1 m2 m3 n i).1 ≤ P ∧ (srT l m0 m1 m2 m3 n i).2.length ≤ P) (e : En) : (one l m0 m1 m2 m3 n lf e).1 ≤ P ∧ (one l m0 m1 m2 m3 n lf e).2.length ≤ P := by
  unfold one
  split
  · split
    · exact ⟨Nat.zero_le _, hP⟩
    · exact h _
  · exact ⟨Nat.zero_le _, Nat.zero_le _⟩
theorem cr1 {s z P : Nat} (hP : 1 ≤ P) (h2 : z ≤ 4 * P) (h1 : s ≤ z) : 1 + s ≤ P * 5 := by omega
theorem cr2 {s z P : Nat} (h2 : z ≤ 4 * P) (h1 : s ≤ z) : s ≤ P * 5 := by omega
/-- Entries of pages that are not there count for nothing; those of right pages are four at most. -/
theorem srT_le (l : List Pg) (m0 m1 m2 m3 : Int) (h4 : ∀ i, (pgL l i).length ≤ 4) : ∀ n i, (srT l m0 m1 m2 m3 n i).1 ≤ 5 ^ n ∧ (srT l m0 m1 m2 m3 n i).2.length ≤ 5 ^ n
  | 0, i => ⟨Nat.zero_le _, Nat.zero_le _⟩
  | n + 1, i => by
    have hP : 1 ≤ 5 ^ n := Nat.pow_pos (by omega); have h1 := gath_le (one l m0 m1 m2 m3 n (pgLeaf l i)) (5 ^ n) (one_le l m0 m1 m2 m3 n _ hP _ (srT_le l m0 m1 m2 m3 h4 n)) (pgL l i); have h2 := Nat.mul_le_mul_right (5 ^ n) (h4 i); rw [srT_succ, Nat.pow_succ]; exact ⟨cr1 hP h2 h1.1, cr2 h2 h1.2⟩
theorem five {n : Nat} (h : n ≤ 12) : 5 ^ n ≤ 244140625 := by
  have := Nat.pow_le_pow_right (n := 5) (by omega) h; exact this
/-- Right pages, and pages that are not there, name four at most. -/
theorem Right.all4 {l : List Pg} {a : Int} {r : List Int} (h : Right l a r) (i : Int) : (pgL l i).length ≤ 4 := by
  have key : ∀ p ∈ l, p.f1.f1.length ≤ 4 := by
    intro p hp
    have h1 := List.all_eq_true.1 h.pages _ hp; unfold pageOk at h1
    split at h1
    · unfold nodeOk sizeOk at h1
      rw [Bool.and_eq_true, Bool.and_eq_true] at h1; exact of_decide_eq_true h1.2.1
    · rw [Bool.and_eq_true] at h1
      have := of_decide_eq_true h1.2
      omega
  show (l.getD i.toNat z90).f1.f1.length ≤ 4
  rw [List.getD_eq_getElem?_getD]
  cases hg : l[i.toNat]? with
  | none => exact Nat.zero_le _
  | some p => exact key p (List.mem_of_getElem? hg)
theorem ar1 {o s x P : Nat} (h : o ≤ x * P) (hs : s ≤ P) : o + s ≤ (x + 1) * P := by
  rw [Nat.succ_mul]
  omega
theorem ar2 {c s x P : Nat} (h : c ≤ 1 + x * P) (hs : s ≤ P) : c + s ≤ 1 + (x + 1) * P := by
  rw [Nat.succ_mul]
  omega
theorem ar3 {o s x P : Nat} (h : o ≤ x * P) (hs : s ≤ P) (hx : x ≤ 4) (hP : P ≤ 244140625) : o + s < 3518437208883 := by
  have h1 : x * P ≤ 4 * P := Nat.mul_le_mul_right P hx
  omega
theorem ar4 {c s x P : Nat} (h : c ≤ 1 + x * P) (hs : s ≤ P) (hx : x ≤ 4) (hP : P ≤ 244140625) : wrap64 ((c : Int) + (s : Int)) = ((c + s : Nat) : Int) := by
  have h1 : x * P ≤ 4 * P := Nat.mul_le_mul_right P hx; rw [wrap_small (by omega) (by omega)]
  omega
theorem lenS {α : Type} (o s : List α) (n : Nat) (h : o.length + s.length ≤ n) : (o ++ s).length ≤ n := by rw [List.length_append]; exact h
theorem rdEnS (es : List En) (x : Nat) (h : x < es.length) : rd_T103 es (x : Int) = es[x] := by
  show es.getD x z103 = _
  rw [List.getD_eq_getElem?_getD, List.getElem?_eq_getElem h]
  rfl
abbrev mtE (m0 m1 m2 m3 : Int) (e : En) : Bool := mt e.f1.f0 e.f1.f1 e.f1.f2 e.f1.f3 m0 m1 m2 m3
theorem i1 {x n : Nat} (h : x < n) : (x : Int) < (n : Int) := by omega
theorem i2 {x n : Nat} (h : n ≤ x) : ¬ (x : Int) < (n : Int) := by omega
theorem i3 (x : Nat) : (0 : Int) ≤ (x : Int) := by omega
theorem i4 {x n : Nat} (h : x < n) (h4 : n ≤ 4) : wrap64 ((x : Int) + 1) = ((x + 1 : Nat) : Int) := wrapI (by omega)
theorem spec_key (a : Int) (l : List Pg) (m0 m1 m2 m3 deep : Int) (lf : Bool) (es : List En) (f : En → Nat × List It) (P : Nat) (hP : 1 ≤ P) (h4 : es.length ≤ 4) (hPs : P ≤ 244140625) (hle : ∀ e, (f e).1 ≤ P ∧ (f e).2.length ≤ P) (hwD : wrap64 (deep + 1) = deep + 1)
    (hf1 : ∀ e ∈ es, mtE m0 m1 m2 m3 e = true → lf = true → f e = (0, [itE e])) (hf0 : ∀ e ∈ es, ¬ mtE m0 m1 m2 m3 e = true → f e = (0, []))
    (hrec : ∀ e ∈ es, mtE m0 m1 m2 m3 e = true → ¬ lf = true → Evn (fun k => spec_l8Search.f k a l e.f0 m0 m1 m2 m3 (deep + 1)) ((f e).2, ((f e).1 : Int))) :
    ∀ d x : Nat, x + d = es.length → ∀ (out : List It) (cnt : Nat), out.length ≤ x * P → cnt ≤ 1 + x * P → Evn (fun k => spec_l8Search.l0 k deep out (cnt : Int) (x : Int) a l m0 m1 m2 m3 lf es) (out ++ (gath f (es.drop x)).2, ((cnt + (gath f (es.drop x)).1 : Nat) : Int)) := by
  intro d
  induction d with
  | zero =>
    intro x hx out cnt ho2 hc2
    have hge : es.length ≤ x := Nat.le_of_eq hx.symm; rw [List.drop_eq_nil_of_le hge]; refine Evn.step (fun k => by rw [spec_l8Search.l0, if_neg (i2 hge)]) ?_; rw [gath, List.append_nil]; exact Evn.ret _
  | succ d ihd =>
    intro x hx out cnt ho2 hc2
    have hxl : x < es.length := by clear ihd hle hf1 hf0 hrec; omega
    have hx4 : x ≤ 4 := Nat.le_trans (Nat.le_of_lt hxl) h4
    have hx1 : x + 1 + d = es.length := by clear ihd hle hf1 hf0 hrec; omega
    refine Evn.step (fun k => by rw [spec_l8Search.l0, if_pos (i1 hxl), if_pos (i3 x), rdEnS es x hxl, i4 hxl h4, hwD, spec_mt, Option.bind_some]) ?_; have ih := ihd (x + 1) hx1; have hle1 := hle es[x]; have hf1 := hf1 _ (List.getElem_mem hxl); have hf0 := hf0 _ (List.getElem_mem hxl); have hrec := hrec _ (List.getElem_mem hxl); rw [List.drop_eq_getElem_cons hxl, gath]
    generalize gath f (es.drop (x + 1)) = g at ih
    generalize es[x] = e at hle1 hf1 hf0 hrec
    clear ihd hle; obtain ⟨gc, gl⟩ := g
    by_cases ht : mtE m0 m1 m2 m3 e = true
    · refine Evn.pos ht ?_
      by_cases hf : lf = true
      · rw [hf1 ht hf] at hle1 ⊢
        refine Evn.pos hf (Evn.pos (ar3 (s := 0) ho2 (Nat.zero_le _) hx4 hPs) ?_); have := ih (out ++ [itE e]) cnt (lenS _ _ _ (ar1 ho2 hle1.2)) (ar2 (s := 0) hc2 (Nat.zero_le _)); rw [List.append_assoc] at this
        dsimp only
        rw [Nat.zero_add]; exact this
      · refine Evn.neg hf (Evn.bind (hrec ht hf) ?_)
        generalize f e = s at hle1
        obtain ⟨sc, sl⟩ := s
        dsimp only at hle1 ⊢
        refine Evn.pos (ar3 ho2 hle1.2 hx4 hPs) ?_; rw [ar4 hc2 hle1.1 hx4 hPs]; have := ih (out ++ sl) (cnt + sc) (lenS _ _ _ (ar1 ho2 hle1.2)) (ar2 hc2 hle1.1); rw [List.append_assoc, Nat.add_assoc] at this; exact this
    · refine Evn.neg ht ?_
      rw [hf0 ht]; have := ih out cnt (ar1 (s := 0) ho2 (Nat.zero_le _)) (ar2 (s := 0) hc2 (Nat.zero_le _))
      dsimp only
      rw [List.nil_append, Nat.zero_add]; exact this
theorem d13 {deep : Int} {n : Nat} (hd : deep + (n + 1 : Nat) = 13) (h1 : 1 ≤ deep) : ¬ deep > 12 ∧ wrap64 (deep + 1) = deep + 1 ∧ deep + 1 + (n : Nat) = 13 ∧ 1 ≤ deep + 1 ∧ n ≤ 12 := by
  refine ⟨by omega, wrap_small (by omega) (by omega), by omega, by omega, by omega⟩
theorem inL {i : Int} {n : Nat} (h0 : 0 ≤ i) (h1 : i < n) (hn : n ≤ 48) : decide (0 ≤ i ∧ i ≤ wrap64 ((n : Int) - 1)) = true := by
  rw [wrap_small (by omega) (by omega)]; exact decide_eq_true (by omega)
theorem one_leaf (l : List Pg) (m0 m1 m2 m3 : Int) (n : Nat) (lf : Bool) (e : En) (ht : mtE m0 m1 m2 m3 e = true) (hf : lf = true) : one l m0 m1 m2 m3 n lf e = (0, [itE e]) := by
  unfold one; rw [if_pos ht, if_pos hf]
theorem one_in (l : List Pg) (m0 m1 m2 m3 : Int) (n : Nat) (lf : Bool) (e : En) (ht : mtE m0 m1 m2 m3 e = true) (hf : ¬ lf = true) : one l m0 m1 m2 m3 n lf e = srT l m0 m1 m2 m3 n e.f0 := by
  unfold one; rw [if_pos ht, if_neg hf]
theorem one_out (l : List Pg) (m0 m1 m2 m3 : Int) (n : Nat) (lf : Bool) (e : En) (ht : ¬ mtE m0 m1 m2 m3 e = true) : one l m0 m1 m2 m3 n lf e = (0, []) := by
  unfold one; rw [if_neg ht]
theorem Right.ent {l : List Pg} {a : Int} {r : List Int} (h : Right l a r) (hr : Reached l a r) {i : Int} (hi : i ∈ r) (hf : ¬ pgLeaf l i = true) {e : En} (he : e ∈ pgL l i) : e.f0 ∈ r := by
  refine h.kid hr hi ?_; rw [kids_inner (by simpa using hf)]; exact List.mem_map.2 ⟨_, he, rfl⟩
theorem spec_sr {l : List Pg} {a : Int} {r : List Int} (h : Right l a r) (hr : Reached l a r) (m0 m1 m2 m3 : Int) : ∀ (n : Nat) (i deep : Int), i ∈ r → deep + n = 13 → 1 ≤ deep → Evn (fun k => spec_l8Search.f k a l i m0 m1 m2 m3 deep) ((srT l m0 m1 m2 m3 n i).2, ((srT l m0 m1 m2 m3 n i).1 : Int)) := by
  intro n
  induction n with
  | zero =>
    intro i deep hi hd h1
    have hd' : deep > 12 := by omega
    exact Evn.step (fun k => by rw [spec_l8Search.f, Option.bind_some, if_pos hd']) (Evn.step (fun k => by rw [spec_l8Search.j0, if_pos rfl]; rfl) (Evn.ret _))
  | succ n ih =>
    intro i deep hi hd h1
    obtain ⟨e1, e2, e3, e4, e5⟩ := d13 hd h1; have ho := hr.once.2 i hi; refine Evn.step (fun k => by rw [spec_l8Search.f, Option.bind_some, if_neg e1]) ?_; refine Evn.bind (Evn.const fun _ => spec_l1In_f _ _ _) ?_; rw [inL ho.1 ho.2.1 h.len.2]; refine Evn.pos rfl (Evn.pos ho.1 (Evn.pos ho.2.1 ?_)); rw [ho.2.2]; refine Evn.step (fun k => by rw [spec_l8Search.j0, if_neg (by decide), if_pos ho.1, if_pos ho.2.1]) ?_
    have key := spec_key a l m0 m1 m2 m3 deep (pgLeaf l i) (pgL l i) (one l m0 m1 m2 m3 n (pgLeaf l i)) (5 ^ n) (Nat.pow_pos (by decide)) (h.len4 ho) (five e5) (one_le l m0 m1 m2 m3 n _ (Nat.pow_pos (by decide)) _ (srT_le l m0 m1 m2 m3 h.all4 n)) e2
      (fun e _ ht hf => one_leaf l m0 m1 m2 m3 n _ e ht hf) (fun e _ ht => one_out l m0 m1 m2 m3 n _ e ht)
      (fun e he ht hf => by rw [one_in l m0 m1 m2 m3 n _ e ht hf]; exact ih _ (deep + 1) (h.ent hr hi hf he) e3 e4) _ 0 (Nat.zero_add _) [] 1 (Nat.zero_le _) (Nat.le_add_right _ _)
    rw [List.drop_zero, List.nil_append] at key; rw [srT_succ]; exact key
theorem br1 {c s d P M : Nat} (h : c + (d + 1) * P ≤ M) (hs : s ≤ P) : c + s + d * P ≤ M := by
  rw [Nat.succ_mul] at h
  omega
theorem br2 {c d P : Nat} (h : c + (d + 1) * P ≤ 1099511627776) : c + P ≤ 1099511627776 ∧ c < 3518437208883 := by
  rw [Nat.succ_mul] at h
  generalize d * P = z at h
  omega
theorem br3 {c n P : Nat} (h : c + P * 5 ≤ 1099511627776) (hP : 1 ≤ P) (h4 : n ≤ 4) : c + 1 + n * P ≤ 1099511627776 ∧ c + n * P ≤ 1099511627776 := by
  have h1 : n * P ≤ 4 * P := Nat.mul_le_mul_right P h4
  generalize n * P = z at h1 ⊢
  omega
theorem br4 {c P : Nat} (h : c + P * 5 ≤ 1099511627776) : wrap64 ((c : Int) + 1) = ((c + 1 : Nat) : Int) := wrapI (by omega)
theorem impl_key (l : List Pg) (m0 m1 m2 m3 deep : Int) (lf : Bool) (es : List En) (f : En → Nat × List It) (P : Nat) (hP : 1 ≤ P) (h4 : es.length ≤ 4) (hle : ∀ e, (f e).1 ≤ P ∧ (f e).2.length ≤ P) (hwD : wrap64 (deep + 1) = deep + 1)
    (hf1 : ∀ e ∈ es, mtE m0 m1 m2 m3 e = true → lf = true → f e = (0, [itE e])) (hf0 : ∀ e ∈ es, ¬ mtE m0 m1 m2 m3 e = true → f e = (0, []))
    (hrec : ∀ e ∈ es, mtE m0 m1 m2 m3 e = true → ¬ lf = true → ∀ (cnt : Nat) (out : List It), cnt + P ≤ 1099511627776 → out.length + P ≤ 1099511627776 → Evn (fun k => srM k l m0 m1 m2 m3 e.f0 (deep + 1) (cnt : Int) out) (((cnt + (f e).1 : Nat) : Int), out ++ (f e).2)) :
    ∀ d x : Nat, x + d = es.length → ∀ (out : List It) (cnt : Nat), cnt + d * P ≤ 1099511627776 → out.length + d * P ≤ 1099511627776 → Evn (fun k => srL k l m0 m1 m2 m3 lf es deep (cnt : Int) out (x : Int)) (((cnt + (gath f (es.drop x)).1 : Nat) : Int), out ++ (gath f (es.drop x)).2) := by
  intro d
  induction d with
  | zero =>
    intro x hx out cnt hc2 ho2
    have hge : es.length ≤ x := Nat.le_of_eq hx.symm; rw [List.drop_eq_nil_of_le hge]; refine Evn.step (fun k => by rw [srL, if_neg (i2 hge)]) ?_; rw [gath, List.append_nil]; exact Evn.ret _
  | succ d ihd =>
    intro x hx out cnt hc2 ho2
    have hxl : x < es.length := by clear ihd hle hf1 hf0 hrec hc2 ho2; omega
    have hx1 : x + 1 + d = es.length := by clear ihd hle hf1 hf0 hrec hc2 ho2; omega
    refine Evn.step (fun k => by rw [srL, if_pos (i1 hxl), if_pos (i3 x), rdEnS es x hxl, i4 hxl h4, hwD, impl_mt, Option.bind_some]) ?_; have ih := ihd (x + 1) hx1; have hle1 := hle es[x]; have hf1 := hf1 _ (List.getElem_mem hxl); have hf0 := hf0 _ (List.getElem_mem hxl); have hrec := hrec _ (List.getElem_mem hxl); rw [List.drop_eq_getElem_cons hxl, gath]
    generalize gath f (es.drop (x + 1)) = g at ih
    generalize es[x] = e at hle1 hf1 hf0 hrec
    clear ihd hle; obtain ⟨gc, gl⟩ := g
    by_cases ht : mtE m0 m1 m2 m3 e = true
    · refine Evn.pos ht ?_
      by_cases hf : lf = true
      · rw [hf1 ht hf] at hle1 ⊢
        refine Evn.pos hf (Evn.pos (br2 ho2).2 ?_); have := ih (out ++ [itE e]) cnt (br1 (s := 0) hc2 (Nat.zero_le _)) (by rw [List.length_append]; exact br1 ho2 hle1.2); rw [List.append_assoc] at this
        dsimp only
        rw [Nat.zero_add]; exact this
      · refine Evn.neg hf (Evn.bind (hrec ht hf cnt out (br2 hc2).1 (br2 ho2).1) ?_)
        generalize f e = s at hle1
        obtain ⟨sc, sl⟩ := s
        dsimp only at hle1 ⊢
        have := ih (out ++ sl) (cnt + sc) (br1 hc2 hle1.1) (by rw [List.length_append]; exact br1 ho2 hle1.2); rw [List.append_assoc, Nat.add_assoc] at this; exact this
    · refine Evn.neg ht ?_
      rw [hf0 ht]; have := ih out cnt (br1 (s := 0) hc2 (Nat.zero_le _)) (br1 (s := 0) ho2 (Nat.zero_le _))
      dsimp only
      rw [List.nil_append, Nat.zero_add]; exact this
theorem impl_sr {l : List Pg} {a : Int} {r : List Int} (h : Right l a r) (hr : Reached l a r) (m0 m1 m2 m3 : Int) : ∀ (n : Nat) (i deep : Int), i ∈ r → deep + n = 13 → 1 ≤ deep → ∀ (cnt : Nat) (out : List It), cnt + 5 ^ n ≤ 1099511627776 → out.length + 5 ^ n ≤ 1099511627776 →
      Evn (fun k => srM k l m0 m1 m2 m3 i deep (cnt : Int) out) (((cnt + (srT l m0 m1 m2 m3 n i).1 : Nat) : Int), out ++ (srT l m0 m1 m2 m3 n i).2) := by
  intro n
  induction n with
  | zero =>
    intro i deep hi hd h1 cnt out hc ho2
    have hd' : deep > 12 := by clear hc ho2; omega
    refine Evn.step (fun k => by rw [srM, if_pos hd']) ?_; rw [srT, List.append_nil]; exact Evn.ret _
  | succ n ih =>
    intro i deep hi hd h1 cnt out hc ho2
    rw [Nat.pow_succ] at hc ho2; obtain ⟨e1, e2, e3, e4, e5⟩ := d13 hd h1; have ho := hr.once.2 i hi; have hP : 1 ≤ 5 ^ n := Nat.pow_pos (by decide); refine Evn.step (fun k => by rw [srM, if_neg e1, if_pos ho.1, if_pos ho.2.1, br4 hc]) ?_
    have key := impl_key l m0 m1 m2 m3 deep (pgLeaf l i) (pgL l i) (one l m0 m1 m2 m3 n (pgLeaf l i)) (5 ^ n) hP (h.len4 ho) (one_le l m0 m1 m2 m3 n _ hP _ (srT_le l m0 m1 m2 m3 h.all4 n)) e2
      (fun e _ ht hf => one_leaf l m0 m1 m2 m3 n _ e ht hf) (fun e _ ht => one_out l m0 m1 m2 m3 n _ e ht)
      (fun e he ht hf cnt out hc ho2 => by rw [one_in l m0 m1 m2 m3 n _ e ht hf]; exact ih _ (deep + 1) (h.ent hr hi hf he) e3 e4 cnt out hc ho2) _ 0 (Nat.zero_add _) out (cnt + 1) (br3 hc hP (h.len4 ho)).1 (br3 ho2 hP (h.len4 ho)).2
    rw [List.drop_zero, Nat.add_assoc] at key; rw [srT_succ]; exact key
theorem search_both (a : Int) (l : List Pg) (m0 m1 m2 m3 : Int) (hl : l.length ≤ 1048576) (hp : ∀ p ∈ l, p.f1.f1.length ≤ 1048576) : ∃ (q : List It) (n : Int), q.length ≤ 1099511627776 ∧ Evn (fun k => spec_Search.f k a l m0 m1 m2 m3) q ∧ Evn (fun k => impl_Search.f k a l m0 m1 m2 m3) q ∧ Evn (fun k => spec_Visited.f k a l m0 m1 m2 m3) n ∧ Evn (fun k => impl_Visited.f k a l m0 m1 m2 m3) n := by
  obtain ⟨r, hw, hr⟩ := reached l hl hp a; have h1 := spec_bookOk a l r hl hp hw hr; have h2 := impl_bookOk a l r hl hp hw hr
  by_cases h : Right l a r
  · rw [decide_eq_true h] at h1 h2
    have har := hr.root_mem h.root; have h12 := five (n := 12) (Nat.le_refl _); have hle := srT_le l m0 m1 m2 m3 h.all4 12 a; have hs := spec_sr h hr m0 m1 m2 m3 12 a 1 har (by decide) (by decide); have hi := impl_sr h hr m0 m1 m2 m3 12 a 1 har (by decide) (by decide) 0 [] (by decide) (by decide); rw [Nat.zero_add, List.nil_append] at hi
    have hi2 : Evn (fun k => impl_search.f k a l m0 m1 m2 m3) ((srT l m0 m1 m2 m3 12 a).2, ((srT l m0 m1 m2 m3 12 a).1 : Int)) := by
      unfold impl_search.f; exact Evn.bind h2 (Evn.pos rfl (Evn.bind hi (Evn.ret _)))
    refine ⟨(srT l m0 m1 m2 m3 12 a).2, ((srT l m0 m1 m2 m3 12 a).1 : Int), Nat.le_trans hle.2 (by decide), ?_, ?_, ?_, ?_⟩
    · unfold spec_Search.f
      exact Evn.bind h1 (Evn.pos rfl (Evn.bind hs (Evn.ret _)))
    · unfold impl_Search.f
      exact Evn.bind hi2 (Evn.ret _)
    · unfold spec_Visited.f
      exact Evn.bind h1 (Evn.pos rfl (Evn.bind hs (Evn.ret _)))
    · unfold impl_Visited.f
      exact Evn.bind hi2 (Evn.ret _)
  · rw [decide_eq_false h] at h1 h2
    have hi2 : Evn (fun k => impl_search.f k a l m0 m1 m2 m3) (([] : List It), (0 : Int)) := by
      unfold impl_search.f; exact Evn.bind h2 (Evn.neg (by decide) (Evn.ret _))
    refine ⟨[], 0, by simp, ?_, ?_, ?_, ?_⟩
    · exact Evn.bind h1 (Evn.neg (by decide) (Evn.ret _))
    · unfold impl_Search.f
      exact Evn.bind hi2 (Evn.ret _)
    · exact Evn.bind h1 (Evn.neg (by decide) (Evn.ret _))
    · unfold impl_Visited.f
      exact Evn.bind hi2 (Evn.ret _)

end Go.Proofs.Ytngjaajcdbodeaa.Pure

/- The program's Search returns what the reference's returns, for all arguments. No condition. -/
namespace Go.Proofs.Ytngjaajcdbodeaa.Pure
open Go.RowKit Go.Proofs.Ytngjaajcdbodeaa.All Go.Proofs.Ytngjaajcdbodeaa.Op Go.Proofs.Ytngjaajcdbodeaa.Sq
set_option linter.unusedVariables false

theorem FnExactSearch (y0 : Int × List LPg) (y1 : LBx) (hg0 : good41 y0) (hg1 : good24 y1) : ∃ k, laws_FnExactSearch.f k y0.1 y0.2 y1.f0 y1.f1 y1.f2 y1.f3 = some true := by
  obtain ⟨a, l⟩ := y0; have hg : l.length ≤ 9223372036854775807 ∧ ∀ p ∈ l, p.f1.f1.length ≤ 9223372036854775807 := ⟨hg0.2.1, fun p hp => (hg0.2.2 p hp).2.2.1⟩
  apply Evn.some_k
  unfold laws_FnExactSearch.f; refine Evn.bind (szBook_f a l 1048576 (by omega) hg.1 hg.2) ?_
  by_cases h : (1048576 : Int) < l.length + heap l
  · rw [if_pos h]
    exact Evn.ret _
  · rw [if_neg h]
    refine Evn.neg (by omega) ?_; have hs : Small l := Small.of l (by omega); have hm := hs.made; have hc := bookCost_small _ hm.1 hm.2; have hn := bookCost_nn (l.map toPg); obtain ⟨r, n, hr, h1, h2, _, _⟩ := search_both a (l.map toPg) y1.f0 y1.f1 y1.f2 y1.f3 hm.1 hm.2; have hX : Evn (fun _ => laws_toBox.f y1.f0 y1.f1 y1.f2 y1.f3) (y1.f0, y1.f1, y1.f2, y1.f3) := Evn.ret _; have hB := toBook_f a l hs.len hs.ent; have hq := eqItemS_same r (by unfold big; omega); have hM := markBook_f a (l.map toPg) 1 (by decide) (by omega) (by omega); have hI := markItemS_f r 1 (by decide) (by omega); have hH := heldItemS_f r.length 1 (by decide) (by omega); refine Evn.bind hB (Evn.bind hX (Evn.bind (a := r) h1 (Evn.bind hB (Evn.bind hX (Evn.bind (a := r) h2 (Evn.bind hq (Evn.pos rfl ?_))))))); refine Evn.bind hB (Evn.bind (eqBook_same a _ (big_of hm.1) fun p hp => big_of (hm.2 p hp)) (Evn.pos rfl ?_)); refine Evn.bind hM (Evn.bind hq (Evn.pos (by omega) (Evn.pos rfl ?_))); refine Evn.bind hI (Evn.bind hH (Evn.pos (by omega) (Evn.pos rfl ?_))); exact Evn.bind hB (Evn.bind hX (Evn.bind (a := r) h2 (Evn.bind hq (Evn.pos rfl (Evn.bind hH (Evn.pos (by omega) (Evn.pos rfl (Evn.ret _))))))))

end Go.Proofs.Ytngjaajcdbodeaa.Pure
