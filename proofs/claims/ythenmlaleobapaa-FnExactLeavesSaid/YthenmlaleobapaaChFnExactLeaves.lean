/- The law FnExactLeaves as a chain over the contracts of what it calls. No condition. -/
import Derived.Test.YthenmlaleobapaaAllx21
import Derived.Test.YthenmlaleobapaaAllx25
import Derived.Test.YthenmlaleobapaaAllx29
import Derived.Test.YthenmlaleobapaaAllx42
import Derived.Test.YthenmlaleobapaaAllx45
import Derived.Test.YthenmlaleobapaaAllx46
import Derived.Test.YthenmlaleobapaaAllx48
import Derived.Test.YthenmlaleobapaaAllx49
import Derived.Test.YthenmlaleobapaaHMarkBook
import Derived.Test.YthenmlaleobapaaLawKit
namespace Go.Proofs.Ythenmlaleobapaa.All
open Go.RowKit Go.Proofs.YthenmlaleobapaaW.PrintWords Go.Proofs.YthenmlaleobapaaW.PrintLast Go.Proofs.YthenmlaleobapaaW.PrintMore
set_option linter.unusedVariables false
set_option linter.unusedSimpArgs false

/-! ### laws_FnExactLeaves -/
def laws_FnExactLeaves.f (k : Nat) (a0_0 : Int) (l0_1 : List (S102)) : Option Bool := ((laws_szBook.f k a0_0 l0_1 1048576).bind fun r13_0 => (if r13_0 < 0 then some true else ((laws_toBook.f k a0_0 l0_1).bind fun (r17_0, r17_1) => ((spec_Leaves.f k r17_0 r17_1).bind fun r18_0 => ((laws_toBook.f k a0_0 l0_1).bind fun (r20_0, r20_1) => ((impl_Leaves.f k r20_0 r20_1).bind fun r22_0 => ((laws_eqIntS.f k r22_0 r18_0).bind fun r25_0 => (if r25_0 = true then ((laws_toBook.f k a0_0 l0_1).bind fun (r29_0, r29_1) => ((laws_eqBook.f k r20_0 r20_1 r29_0 r29_1).bind fun r30_0 => (if r30_0 = true then ((laws_markBook.f k r20_0 r20_1 1).bind fun (r34_0, r34_1) => ((laws_eqIntS.f k r22_0 r18_0).bind fun r40_0 => (if ¬ r34_0 < 0 then (if r40_0 = true then ((laws_markIntS.f k r22_0 1).bind fun (r45_0, r45_1) => ((laws_heldIntS.f k r45_1 1).bind fun r48_0 => (if ¬ r48_0 < 0 then (if r48_0 = r45_0 then ((laws_toBook.f k a0_0 l0_1).bind fun (r55_0, r55_1) => ((impl_Leaves.f k r55_0 r55_1).bind fun r56_0 => ((laws_eqIntS.f k r56_0 r18_0).bind fun r59_0 => (if r59_0 = true then ((laws_heldIntS.f k r45_1 1).bind fun r63_0 => (if ¬ r63_0 < 0 then (if r63_0 = r45_0 then some true else none) else none)) else none)))) else none) else none))) else none) else none))) else none))) else none))))))))
set_option maxHeartbeats 4000000 in
set_option maxRecDepth 100000 in
theorem laws_FnExactLeaves.calls (k : Nat) (a0_0 : Int) (A0_1 : Option Addr) (c0_1 : Nat) (l0_1 : List (S102)) (r : Bool) (w : World) (hr0_1 : Kd.C k102 w A0_1 l0_1.length l0_1) (hc0_1 : l0_1.length ≤ c0_1) (h : laws_FnExactLeaves.f k a0_0 l0_1 = some r) :
    Calls Try.prog 12 #[.agg #[.int .i64 a0_0, .slice A0_1 l0_1.length c0_1]] w fun e w' => e = .returned (.bool r) ∧ Below w.heap.size w w' := by
  have hu31 := Try.underlying31
  have hu36 := Try.underlying36
  have HR0_1 := Aside0.mk hr0_1
  have HC0_1 := Aside0.mk hc0_1
  clear hr0_1 hc0_1
  obtain ⟨T0, hT0⟩ : ∃ n_, n_ = w.heap.size := ⟨_, rfl⟩
  have HT := Aside0.mk (Nat.le_of_eq hT0)
  clear hT0
  have HB := Aside0.mk (Below.refl w.heap.size w)
  have H := h
  clear h
  unfold laws_FnExactLeaves.f at H
  obtain ⟨r13_0, E13_, H⟩ := Option.bind_eq_some_iff.mp H
  have E13 := Aside0.mk E13_
  clear E13_
  by_cases c15 : r13_0 < 0
  · rw [if_pos c15] at H
    have c15b : decide (r13_0 < 0) = true := decide_eq_true c15
    clear c15
    obtain rfl := Option.some.inj H
    go_enter Try.func12, Try.ntmps12
    go_wp2_with (first
      | ((with_reducible refine gate_dst (N := 1) rfl ?_); refine box_event ?hg (N := 1) ?hd (cs := #[.int .i64 a0_0, .slice A0_1 l0_1.length c0_1]) (t := 31) ?hr ?_; (case hd => rfl); (case hg => rfl); (case hr => first | (go_simp; done) | (go_simp; rfl)); intro g1 hg W1 hbox hb; have hle_ : T0 ≤ g1 := (by rw [hg]; exact HT.out); have hlt_ : g1 < W1.heap.size := blk_lt hbox; have nHB_ := Aside0.mk (below_step HB.out hb); have nHT_ := Aside0.mk (Nat.le_trans HT.out hb.size); clear HB HT; have HB := nHB_; have HT := nHT_; clear nHB_ nHT_; obtain ⟨T1, hT1⟩ : ∃ n_, n_ = W1.heap.size := ⟨_, rfl⟩; have ORD1 := Aside0.mk (show T0 ≤ T1 from by rw [hT1]; exact HT.out); clear HT; have HT := Aside0.mk (Nat.le_of_eq hT1); have BK1 := Aside0.mk hbox; have GB1 := Aside0.mk (show T0 ≤ g1 ∧ g1 < T1 from ⟨hle_, by rw [hT1]; exact hlt_⟩); clear hb hg hbox hle_ hlt_ hT1; have hk1_0 : W1.cell? ⟨g1, 0, none⟩ = some (.int .i64 a0_0) := (blk_cell BK1.out 0).trans rfl; have hk1_1 : W1.cell? ⟨g1, 1, none⟩ = some (.slice A0_1 l0_1.length c0_1) := (blk_cell BK1.out 1).trans rfl)
      | ((with_reducible refine gate_dst (N := 13) rfl ?_); refine goesL_ (some 13) rfl rfl Try.func20 (by kernel_rfl) rfl #[.agg #[.int .i64 a0_0, .slice A0_1 l0_1.length c0_1], .int .i64 1048576] rfl (by (try simp only [List.map_toArray, List.map_cons, List.map_nil]); first | done | rfl | (simp only [List.length_drop, List.length_take]; rfl)) ?_; refine (laws_szBook.calls k a0_0 _ _ l0_1 1048576 r13_0 _ (Kd.C_below HR0_1.out HB.out) HC0_1.out E13.out).mono ?_; rintro e W2 ⟨rfl, hb⟩; refine ⟨_, rfl, ?_⟩; clear hk1_0 hk1_1; have nB1_ := Aside0.mk (blk_below BK1.out hb); have nHB_ := Aside0.mk (below_step HB.out hb); have nHT_ := Aside0.mk (Nat.le_trans HT.out hb.size); clear BK1 HB HT; have BK1 := nB1_; have HB := nHB_; have HT := nHT_; clear nB1_ nHB_ nHT_; clear hb; have hk1_0 : W2.cell? ⟨g1, 0, none⟩ = some (.int .i64 a0_0) := (blk_cell BK1.out 0).trans rfl; have hk1_1 : W2.cell? ⟨g1, 1, none⟩ = some (.slice A0_1 l0_1.length c0_1) := (blk_cell BK1.out 1).trans rfl))
    go_ret
    exact ⟨rfl, HB.out⟩
  rw [if_neg c15] at H
  have c15b : decide (r13_0 < 0) = false := decide_eq_false c15
  clear c15
  obtain ⟨⟨r17_0, r17_1⟩, E17_, H⟩ := Option.bind_eq_some_iff.mp H
  have E17 := Aside0.mk E17_
  clear E17_
  try dsimp only at H
  obtain ⟨r18_0, E18_, H⟩ := Option.bind_eq_some_iff.mp H
  have E18 := Aside0.mk E18_
  clear E18_
  obtain ⟨⟨r20_0, r20_1⟩, E20_, H⟩ := Option.bind_eq_some_iff.mp H
  have E20 := Aside0.mk E20_
  clear E20_
  try dsimp only at H
  obtain ⟨r22_0, E22_, H⟩ := Option.bind_eq_some_iff.mp H
  have E22 := Aside0.mk E22_
  clear E22_
  obtain ⟨r25_0, E25_, H⟩ := Option.bind_eq_some_iff.mp H
  have E25 := Aside0.mk E25_
  clear E25_
  by_cases F26_1 : r25_0 = true
  rotate_left
  · rw [if_neg F26_1] at H
    exact absurd H (by simp)
  rw [if_pos F26_1] at H
  subst F26_1
  obtain ⟨⟨r29_0, r29_1⟩, E29_, H⟩ := Option.bind_eq_some_iff.mp H
  have E29 := Aside0.mk E29_
  clear E29_
  try dsimp only at H
  obtain ⟨r30_0, E30_, H⟩ := Option.bind_eq_some_iff.mp H
  have E30 := Aside0.mk E30_
  clear E30_
  by_cases F31_2 : r30_0 = true
  rotate_left
  · rw [if_neg F31_2] at H
    exact absurd H (by simp)
  rw [if_pos F31_2] at H
  subst F31_2
  obtain ⟨⟨r34_0, r34_1⟩, E34_, H⟩ := Option.bind_eq_some_iff.mp H
  have E34 := Aside0.mk E34_
  clear E34_
  try dsimp only at H
  obtain ⟨r40_0, E40_, H⟩ := Option.bind_eq_some_iff.mp H
  have E40 := Aside0.mk E40_
  clear E40_
  by_cases F42_3 : ¬ r34_0 < 0
  rotate_left
  · rw [if_neg F42_3] at H
    exact absurd H (by simp)
  rw [if_pos F42_3] at H
  have F42_3b : decide (r34_0 < 0) = false := decide_eq_false F42_3
  clear F42_3
  by_cases F42_4 : r40_0 = true
  rotate_left
  · rw [if_neg F42_4] at H
    exact absurd H (by simp)
  rw [if_pos F42_4] at H
  subst F42_4
  obtain ⟨⟨r45_0, r45_1⟩, E45_, H⟩ := Option.bind_eq_some_iff.mp H
  have E45 := Aside0.mk E45_
  clear E45_
  try dsimp only at H
  obtain ⟨r48_0, E48_, H⟩ := Option.bind_eq_some_iff.mp H
  have E48 := Aside0.mk E48_
  clear E48_
  by_cases F50_5 : ¬ r48_0 < 0
  rotate_left
  · rw [if_neg F50_5] at H
    exact absurd H (by simp)
  rw [if_pos F50_5] at H
  have F50_5b : decide (r48_0 < 0) = false := decide_eq_false F50_5
  clear F50_5
  by_cases F53_6 : r48_0 = r45_0
  rotate_left
  · rw [if_neg F53_6] at H
    exact absurd H (by simp)
  rw [if_pos F53_6] at H
  have F53_6a : (r48_0 != r45_0) = false := by simp [F53_6]
  have F53_6b : (r48_0 == r45_0) = true := by simp [F53_6]
  have F53_6c : decide (r48_0 = r45_0) = true := by simp [F53_6]
  clear F53_6
  obtain ⟨⟨r55_0, r55_1⟩, E55_, H⟩ := Option.bind_eq_some_iff.mp H
  have E55 := Aside0.mk E55_
  clear E55_
  try dsimp only at H
  obtain ⟨r56_0, E56_, H⟩ := Option.bind_eq_some_iff.mp H
  have E56 := Aside0.mk E56_
  clear E56_
  obtain ⟨r59_0, E59_, H⟩ := Option.bind_eq_some_iff.mp H
  have E59 := Aside0.mk E59_
  clear E59_
  by_cases F60_7 : r59_0 = true
  rotate_left
  · rw [if_neg F60_7] at H
    exact absurd H (by simp)
  rw [if_pos F60_7] at H
  subst F60_7
  obtain ⟨r63_0, E63_, H⟩ := Option.bind_eq_some_iff.mp H
  have E63 := Aside0.mk E63_
  clear E63_
  by_cases F65_8 : ¬ r63_0 < 0
  rotate_left
  · rw [if_neg F65_8] at H
    exact absurd H (by simp)
  rw [if_pos F65_8] at H
  have F65_8b : decide (r63_0 < 0) = false := decide_eq_false F65_8
  clear F65_8
  by_cases F68_9 : r63_0 = r45_0
  rotate_left
  · rw [if_neg F68_9] at H
    exact absurd H (by simp)
  rw [if_pos F68_9] at H
  have F68_9a : (r63_0 != r45_0) = false := by simp [F68_9]
  have F68_9b : (r63_0 == r45_0) = true := by simp [F68_9]
  have F68_9c : decide (r63_0 = r45_0) = true := by simp [F68_9]
  clear F68_9
  obtain rfl := Option.some.inj H
  clear H
  go_enter Try.func12, Try.ntmps12
  go_wp2_with (first
    | ((with_reducible refine gate_dst (N := 1) rfl ?_); refine box_event ?hg (N := 1) ?hd (cs := #[.int .i64 a0_0, .slice A0_1 l0_1.length c0_1]) (t := 31) ?hr ?_; (case hd => rfl); (case hg => rfl); (case hr => first | (go_simp; done) | (go_simp; rfl)); intro g1 hg W1 hbox hb; have hle_ : T0 ≤ g1 := (by rw [hg]; exact HT.out); have hlt_ : g1 < W1.heap.size := blk_lt hbox; have nHB_ := Aside0.mk (below_step HB.out hb); have nHT_ := Aside0.mk (Nat.le_trans HT.out hb.size); clear HB HT; have HB := nHB_; have HT := nHT_; clear nHB_ nHT_; obtain ⟨T1, hT1⟩ : ∃ n_, n_ = W1.heap.size := ⟨_, rfl⟩; have ORD1 := Aside0.mk (show T0 ≤ T1 from by rw [hT1]; exact HT.out); clear HT; have HT := Aside0.mk (Nat.le_of_eq hT1); have BK1 := Aside0.mk hbox; have GB1 := Aside0.mk (show T0 ≤ g1 ∧ g1 < T1 from ⟨hle_, by rw [hT1]; exact hlt_⟩); clear hb hg hbox hle_ hlt_ hT1; have hk1_0 : W1.cell? ⟨g1, 0, none⟩ = some (.int .i64 a0_0) := (blk_cell BK1.out 0).trans rfl; have hk1_1 : W1.cell? ⟨g1, 1, none⟩ = some (.slice A0_1 l0_1.length c0_1) := (blk_cell BK1.out 1).trans rfl)
    | ((with_reducible refine gate_dst (N := 13) rfl ?_); refine goesL_ (some 13) rfl rfl Try.func20 (by kernel_rfl) rfl #[.agg #[.int .i64 a0_0, .slice A0_1 l0_1.length c0_1], .int .i64 1048576] rfl (by (try simp only [List.map_toArray, List.map_cons, List.map_nil]); first | done | rfl | (simp only [List.length_drop, List.length_take]; rfl)) ?_; refine (laws_szBook.calls k a0_0 _ _ l0_1 1048576 r13_0 _ (Kd.C_below HR0_1.out HB.out) HC0_1.out E13.out).mono ?_; rintro e W2 ⟨rfl, hb⟩; refine ⟨_, rfl, ?_⟩; clear hk1_0 hk1_1; have nB1_ := Aside0.mk (blk_below BK1.out hb); have nHB_ := Aside0.mk (below_step HB.out hb); have nHT_ := Aside0.mk (Nat.le_trans HT.out hb.size); clear BK1 HB HT; have BK1 := nB1_; have HB := nHB_; have HT := nHT_; clear nB1_ nHB_ nHT_; clear hb; have hk1_0 : W2.cell? ⟨g1, 0, none⟩ = some (.int .i64 a0_0) := (blk_cell BK1.out 0).trans rfl; have hk1_1 : W2.cell? ⟨g1, 1, none⟩ = some (.slice A0_1 l0_1.length c0_1) := (blk_cell BK1.out 1).trans rfl)
    | ((with_reducible refine gate_dst (N := 17) rfl ?_); refine goesL_ (some 17) rfl rfl Try.func22 (by kernel_rfl) rfl #[.agg #[.int .i64 a0_0, .slice A0_1 l0_1.length c0_1]] rfl (by (try simp only [List.map_toArray, List.map_cons, List.map_nil]); first | done | rfl | (simp only [List.length_drop, List.length_take]; rfl)) ?_; refine (laws_toBook.calls k a0_0 _ _ l0_1 r17_0 r17_1 _ (Kd.C_below HR0_1.out HB.out) HC0_1.out E17.out).mono ?_; rintro e W3 ⟨v17, rfl, ho, hb⟩; refine ⟨_, rfl, ?_⟩; clear hk1_0 hk1_1; have nOn_ := Kd.S_lower (Kd.S_bound ho) HB.out.size; have hle_ := HT.out; have nB1_ := Aside0.mk (blk_below BK1.out hb); have nHB_ := Aside0.mk (below_step HB.out hb); have nHT_ := Aside0.mk (Nat.le_trans HT.out hb.size); clear BK1 HB HT; have BK1 := nB1_; have HB := nHB_; have HT := nHT_; clear nB1_ nHB_ nHT_; obtain ⟨T2, hT2⟩ : ∃ n_, n_ = W3.heap.size := ⟨_, rfl⟩; have ORD2 := Aside0.mk (show T1 ≤ T2 from by rw [hT2]; exact HT.out); clear HT; have HT := Aside0.mk (Nat.le_of_eq hT2); have HO17 := Aside0.mk (Kd.S_mono (ok' := fun k_ => T1 ≤ k_ ∧ k_ < T2) nOn_ (fun k_ hk_ => ⟨Nat.le_trans hle_ hk_.2.1, by rw [hT2]; exact hk_.2.2.1⟩)); clear nOn_ hle_ ho hT2; obtain ⟨Ao17, co17, eo17⟩ := Kd.S_slice HO17.out; subst eo17; clear hb; have hk1_0 : W3.cell? ⟨g1, 0, none⟩ = some (.int .i64 a0_0) := (blk_cell BK1.out 0).trans rfl; have hk1_1 : W3.cell? ⟨g1, 1, none⟩ = some (.slice A0_1 l0_1.length c0_1) := (blk_cell BK1.out 1).trans rfl)
    | ((with_reducible refine gate_dst (N := 18) rfl ?_); refine goesL_ (some 18) rfl rfl Try.func50 (by kernel_rfl) rfl #[.agg #[.int .i64 r17_0, .slice Ao17 r17_1.length co17]] rfl (by (try simp only [List.map_toArray, List.map_cons, List.map_nil]); first | done | rfl | (simp only [List.length_drop, List.length_take]; rfl)) ?_; refine (spec_Leaves.calls k r17_0 _ _ r17_1 r18_0 _ (Kd.S_reads' HO17.out).2.2 (Kd.S_reads' HO17.out).2.1 E18.out).mono ?_; rintro e W4 ⟨v18, rfl, ho, hb⟩; refine ⟨_, rfl, ?_⟩; clear hk1_0 hk1_1; have nOn_ := Kd.R_lower (Kd.R_bound ho) HB.out.size; have hle_ := HT.out; have nB1_ := Aside0.mk (blk_below BK1.out hb); have nO17_ := Aside0.mk (Kd.S_below HO17.out hb); have nHB_ := Aside0.mk (below_step HB.out hb); have nHT_ := Aside0.mk (Nat.le_trans HT.out hb.size); clear BK1 HO17 HB HT; have BK1 := nB1_; have HO17 := nO17_; have HB := nHB_; have HT := nHT_; clear nB1_ nO17_ nHB_ nHT_; obtain ⟨T3, hT3⟩ : ∃ n_, n_ = W4.heap.size := ⟨_, rfl⟩; have ORD3 := Aside0.mk (show T2 ≤ T3 from by rw [hT3]; exact HT.out); clear HT; have HT := Aside0.mk (Nat.le_of_eq hT3); have HO18 := Aside0.mk (Kd.R_mono (ok' := fun k_ => T2 ≤ k_ ∧ k_ < T3) nOn_ (fun k_ hk_ => ⟨Nat.le_trans hle_ hk_.2.1, by rw [hT3]; exact hk_.2.2.1⟩)); clear nOn_ hle_ ho hT3; obtain ⟨Ao18, co18, eo18⟩ := Kd.R_slice HO18.out; subst eo18; clear hb; have hk1_0 : W4.cell? ⟨g1, 0, none⟩ = some (.int .i64 a0_0) := (blk_cell BK1.out 0).trans rfl; have hk1_1 : W4.cell? ⟨g1, 1, none⟩ = some (.slice A0_1 l0_1.length c0_1) := (blk_cell BK1.out 1).trans rfl)
    | ((with_reducible refine gate_dst (N := 20) rfl ?_); refine goesL_ (some 20) rfl rfl Try.func22 (by kernel_rfl) rfl #[.agg #[.int .i64 a0_0, .slice A0_1 l0_1.length c0_1]] rfl (by (try simp only [List.map_toArray, List.map_cons, List.map_nil]); first | done | rfl | (simp only [List.length_drop, List.length_take]; rfl)) ?_; refine (laws_toBook.calls k a0_0 _ _ l0_1 r20_0 r20_1 _ (Kd.C_below HR0_1.out HB.out) HC0_1.out E20.out).mono ?_; rintro e W5 ⟨v20, rfl, ho, hb⟩; refine ⟨_, rfl, ?_⟩; clear hk1_0 hk1_1; have nOn_ := Kd.S_lower (Kd.S_bound ho) HB.out.size; have hle_ := HT.out; have nB1_ := Aside0.mk (blk_below BK1.out hb); have nO17_ := Aside0.mk (Kd.S_below HO17.out hb); have nO18_ := Aside0.mk (Kd.R_below HO18.out hb); have nHB_ := Aside0.mk (below_step HB.out hb); have nHT_ := Aside0.mk (Nat.le_trans HT.out hb.size); clear BK1 HO17 HO18 HB HT; have BK1 := nB1_; have HO17 := nO17_; have HO18 := nO18_; have HB := nHB_; have HT := nHT_; clear nB1_ nO17_ nO18_ nHB_ nHT_; obtain ⟨T4, hT4⟩ : ∃ n_, n_ = W5.heap.size := ⟨_, rfl⟩; have ORD4 := Aside0.mk (show T3 ≤ T4 from by rw [hT4]; exact HT.out); clear HT; have HT := Aside0.mk (Nat.le_of_eq hT4); have HO20 := Aside0.mk (Kd.S_mono (ok' := fun k_ => T3 ≤ k_ ∧ k_ < T4) nOn_ (fun k_ hk_ => ⟨Nat.le_trans hle_ hk_.2.1, by rw [hT4]; exact hk_.2.2.1⟩)); clear nOn_ hle_ ho hT4; obtain ⟨Ao20, co20, eo20⟩ := Kd.S_slice HO20.out; subst eo20; clear hb; have hk1_0 : W5.cell? ⟨g1, 0, none⟩ = some (.int .i64 a0_0) := (blk_cell BK1.out 0).trans rfl; have hk1_1 : W5.cell? ⟨g1, 1, none⟩ = some (.slice A0_1 l0_1.length c0_1) := (blk_cell BK1.out 1).trans rfl)
    | ((with_reducible refine gate_dst (N := 5) rfl ?_); refine box_event ?hg (N := 5) ?hd (cs := #[.int .i64 0, .slice none 0 0]) (t := 36) ?hr ?_; (case hd => rfl); (case hg => rfl); (case hr => first | (go_simp; done) | (go_simp; rfl)); intro g5 hg W6 hbox hb; have hs5_0 : W6.cell? ⟨g5, 0, none⟩ = some (.int .i64 0) := (blk_cell hbox 0).trans rfl; have hf5_0 := blk_frozen hbox 0; have hs5_1 : W6.cell? ⟨g5, 1, none⟩ = some (.slice none 0 0) := (blk_cell hbox 1).trans rfl; have hf5_1 := blk_frozen hbox 1; have HG5 := Aside0.mk hg; have HX5 := Aside0.mk hbox; have HW5 := Aside0.mk hb; clear hg hbox hb)
    | ((with_reducible refine gate_store (t := 36) (p := 5) rfl ?_); refine store_event (t := 36) (p := 5) (v := ?vo5) (w1 := ((W6.setCell ⟨g5, 0, none⟩ (.int .i64 r20_0)).setCell ⟨g5, 1, none⟩ (.slice Ao20 r20_1.length co20))) ?hg ?ho ?hn ?hr ?_; (case ho => rfl); (case hg => rfl); (case hn => rfl); (case hr => first | (go_simp; done) | (go_simp; rfl)); intro W7 hw; have hb : Below W5.heap.size W5 W7 := (by rw [hw]; exact (below_set (below_set HW5.out (Nat.le_of_eq HG5.out.symm)) (Nat.le_of_eq HG5.out.symm))); have hbox : W7.heap[g5]? = some (.cells #[.int .i64 r20_0, .slice Ao20 r20_1.length co20] 36 (0, 0)) := (by rw [hw]; exact (blk_put (cs' := #[.int .i64 r20_0, .slice Ao20 r20_1.length co20]) (blk_put (cs' := #[.int .i64 r20_0, .slice none 0 0]) HX5.out 0 (.int .i64 r20_0) rfl) 1 (.slice Ao20 r20_1.length co20) rfl)); clear hw hs5_0 hf5_0 hs5_1 hf5_1; have hle_ : T4 ≤ g5 := (by rw [HG5.out]; exact HT.out); have hlt_ : g5 < W7.heap.size := blk_lt hbox; clear HG5 HX5 HW5; clear hk1_0 hk1_1; have nB1_ := Aside0.mk (blk_below BK1.out hb); have nO17_ := Aside0.mk (Kd.S_below HO17.out hb); have nO18_ := Aside0.mk (Kd.R_below HO18.out hb); have nO20_ := Aside0.mk (Kd.S_below HO20.out hb); have nHB_ := Aside0.mk (below_step HB.out hb); have nHT_ := Aside0.mk (Nat.le_trans HT.out hb.size); clear BK1 HO17 HO18 HO20 HB HT; have BK1 := nB1_; have HO17 := nO17_; have HO18 := nO18_; have HO20 := nO20_; have HB := nHB_; have HT := nHT_; clear nB1_ nO17_ nO18_ nO20_ nHB_ nHT_; obtain ⟨T5, hT5⟩ : ∃ n_, n_ = W7.heap.size := ⟨_, rfl⟩; have ORD5 := Aside0.mk (show T4 ≤ T5 from by rw [hT5]; exact HT.out); clear HT; have HT := Aside0.mk (Nat.le_of_eq hT5); have BK5 := Aside0.mk hbox; have GB5 := Aside0.mk (show T4 ≤ g5 ∧ g5 < T5 from ⟨hle_, by rw [hT5]; exact hlt_⟩); clear hb hbox hle_ hlt_ hT5; have hk1_0 : W7.cell? ⟨g1, 0, none⟩ = some (.int .i64 a0_0) := (blk_cell BK1.out 0).trans rfl; have hk1_1 : W7.cell? ⟨g1, 1, none⟩ = some (.slice A0_1 l0_1.length c0_1) := (blk_cell BK1.out 1).trans rfl; have hk5_0 : W7.cell? ⟨g5, 0, none⟩ = some (.int .i64 r20_0) := (blk_cell BK5.out 0).trans rfl; have hk5_1 : W7.cell? ⟨g5, 1, none⟩ = some (.slice Ao20 r20_1.length co20) := (blk_cell BK5.out 1).trans rfl)
    | ((with_reducible refine gate_dst (N := 22) rfl ?_); refine goesL_ (some 22) rfl rfl Try.func51 (by kernel_rfl) rfl #[.agg #[.int .i64 r20_0, .slice Ao20 r20_1.length co20]] rfl (by (try simp only [List.map_toArray, List.map_cons, List.map_nil]); first | done | rfl | (simp only [List.length_drop, List.length_take]; rfl)) ?_; refine (impl_Leaves.calls k r20_0 _ _ r20_1 r22_0 _ (Kd.S_reads' HO20.out).2.2 (Kd.S_reads' HO20.out).2.1 E22.out).mono ?_; rintro e W8 ⟨v22, rfl, ho, hb⟩; refine ⟨_, rfl, ?_⟩; clear hk1_0 hk1_1; clear hk5_0 hk5_1; have nOn_ := Kd.R_lower (Kd.R_bound ho) HB.out.size; have hle_ := HT.out; have nB1_ := Aside0.mk (blk_below BK1.out hb); have nO17_ := Aside0.mk (Kd.S_below HO17.out hb); have nO18_ := Aside0.mk (Kd.R_below HO18.out hb); have nO20_ := Aside0.mk (Kd.S_below HO20.out hb); have nB5_ := Aside0.mk (blk_below BK5.out hb); have nHB_ := Aside0.mk (below_step HB.out hb); have nHT_ := Aside0.mk (Nat.le_trans HT.out hb.size); clear BK1 HO17 HO18 HO20 BK5 HB HT; have BK1 := nB1_; have HO17 := nO17_; have HO18 := nO18_; have HO20 := nO20_; have BK5 := nB5_; have HB := nHB_; have HT := nHT_; clear nB1_ nO17_ nO18_ nO20_ nB5_ nHB_ nHT_; obtain ⟨T6, hT6⟩ : ∃ n_, n_ = W8.heap.size := ⟨_, rfl⟩; have ORD6 := Aside0.mk (show T5 ≤ T6 from by rw [hT6]; exact HT.out); clear HT; have HT := Aside0.mk (Nat.le_of_eq hT6); have HO22 := Aside0.mk (Kd.R_mono (ok' := fun k_ => T5 ≤ k_ ∧ k_ < T6) nOn_ (fun k_ hk_ => ⟨Nat.le_trans hle_ hk_.2.1, by rw [hT6]; exact hk_.2.2.1⟩)); clear nOn_ hle_ ho hT6; obtain ⟨Ao22, co22, eo22⟩ := Kd.R_slice HO22.out; subst eo22; clear hb; have hk1_0 : W8.cell? ⟨g1, 0, none⟩ = some (.int .i64 a0_0) := (blk_cell BK1.out 0).trans rfl; have hk1_1 : W8.cell? ⟨g1, 1, none⟩ = some (.slice A0_1 l0_1.length c0_1) := (blk_cell BK1.out 1).trans rfl; have hk5_0 : W8.cell? ⟨g5, 0, none⟩ = some (.int .i64 r20_0) := (blk_cell BK5.out 0).trans rfl; have hk5_1 : W8.cell? ⟨g5, 1, none⟩ = some (.slice Ao20 r20_1.length co20) := (blk_cell BK5.out 1).trans rfl)
    | ((with_reducible refine gate_dst (N := 25) rfl ?_); refine goesL_ (some 25) rfl rfl Try.func46 (by kernel_rfl) rfl #[.slice Ao22 r22_0.length co22, .slice Ao18 r18_0.length co18] rfl (by (try simp only [List.map_toArray, List.map_cons, List.map_nil]); first | done | rfl | (simp only [List.length_drop, List.length_take]; rfl)) ?_; refine (laws_eqIntS.calls k _ _ r22_0 _ _ r18_0 true _ (Kd.R_reads' HO22.out).2.2 (Kd.R_reads' HO22.out).2.1 (Kd.R_reads' HO18.out).2.2 (Kd.R_reads' HO18.out).2.1 E25.out).mono ?_; rintro e W9 ⟨rfl, hd⟩; refine ⟨_, rfl, ?_⟩; have hb := Drawn0.below hd; clear hd; clear hk1_0 hk1_1; clear hk5_0 hk5_1; have nB1_ := Aside0.mk (blk_below BK1.out hb); have nO17_ := Aside0.mk (Kd.S_below HO17.out hb); have nO18_ := Aside0.mk (Kd.R_below HO18.out hb); have nO20_ := Aside0.mk (Kd.S_below HO20.out hb); have nB5_ := Aside0.mk (blk_below BK5.out hb); have nO22_ := Aside0.mk (Kd.R_below HO22.out hb); have nHB_ := Aside0.mk (below_step HB.out hb); have nHT_ := Aside0.mk (Nat.le_trans HT.out hb.size); clear BK1 HO17 HO18 HO20 BK5 HO22 HB HT; have BK1 := nB1_; have HO17 := nO17_; have HO18 := nO18_; have HO20 := nO20_; have BK5 := nB5_; have HO22 := nO22_; have HB := nHB_; have HT := nHT_; clear nB1_ nO17_ nO18_ nO20_ nB5_ nO22_ nHB_ nHT_; clear hb; have hk1_0 : W9.cell? ⟨g1, 0, none⟩ = some (.int .i64 a0_0) := (blk_cell BK1.out 0).trans rfl; have hk1_1 : W9.cell? ⟨g1, 1, none⟩ = some (.slice A0_1 l0_1.length c0_1) := (blk_cell BK1.out 1).trans rfl; have hk5_0 : W9.cell? ⟨g5, 0, none⟩ = some (.int .i64 r20_0) := (blk_cell BK5.out 0).trans rfl; have hk5_1 : W9.cell? ⟨g5, 1, none⟩ = some (.slice Ao20 r20_1.length co20) := (blk_cell BK5.out 1).trans rfl))
  clear hk1_0 hk1_1
  clear hk5_0 hk5_1
  have nB1_ := Aside0.mk (blk_drew BK1.out)
  have nO17_ := Aside0.mk (Kd.S_drew HO17.out)
  have nO18_ := Aside0.mk (Kd.R_drew HO18.out)
  have nO20_ := Aside0.mk (Kd.S_drew HO20.out)
  have nB5_ := Aside0.mk (blk_drew BK5.out)
  have nO22_ := Aside0.mk (Kd.R_drew HO22.out)
  have nHB_ := Aside0.mk (below_drew1 HB.out)
  have nHT_ := Aside0.mk (show T6 ≤ W9.drew.heap.size from HT.out)
  clear BK1 HO17 HO18 HO20 BK5 HO22 HB HT
  have BK1 := nB1_
  have HO17 := nO17_
  have HO18 := nO18_
  have HO20 := nO20_
  have BK5 := nB5_
  have HO22 := nO22_
  have HB := nHB_
  have HT := nHT_
  clear nB1_ nO17_ nO18_ nO20_ nB5_ nO22_ nHB_ nHT_
  refine start_ (n := 5) (S := fun w' => w'.cell? ⟨g5, 0, none⟩ = some (.int .i64 r20_0) ∧ w'.cell? ⟨g5, 1, none⟩ = some (.slice Ao20 r20_1.length co20) ∧ w'.cell? ⟨g1, 0, none⟩ = some (.int .i64 a0_0) ∧ w'.cell? ⟨g1, 1, none⟩ = some (.slice A0_1 l0_1.length c0_1)) (ds := []) #[false, false, false, false, false] (by kernel_rfl) rfl rfl ⟨(blk_cell BK5.out 0).trans rfl, (blk_cell BK5.out 1).trans rfl, (blk_cell BK1.out 0).trans rfl, (blk_cell BK1.out 1).trans rfl⟩ (fun hHeld => ?_)
  generalize W9.drew = W10 at HB HT BK1 HO17 HO18 HO20 BK5 HO22 hHeld ⊢
  refine take_ (i := 0) (N := some 27) (v := ?_) (a' := ?_) #[true, false, false, false, false] rfl rfl (by kernel_rfl) (fun _ _ _ h => h) (Or.inl ⟨by rfl, ?_⟩) hHeld ?_ ?_
  rotate_left
  · rintro w' ⟨s0, s1, s2, s3⟩
    go_simp
    with_reducible rfl
  rotate_left
  · simp only [Act.put, List.setIfInBounds_toArray, List.set_cons_zero, List.set_cons_succ, i64_w, i32_w]
    rfl
  refine take_ (i := 1) (N := some 28) (v := ?_) (a' := ?_) #[true, true, false, false, false] rfl rfl (by kernel_rfl) (fun _ _ _ h => h) (Or.inl ⟨by rfl, ?_⟩) hHeld ?_ ?_
  rotate_left
  · rintro w' ⟨s0, s1, s2, s3⟩
    go_simp
    with_reducible rfl
  rotate_left
  · simp only [Act.put, List.setIfInBounds_toArray, List.set_cons_zero, List.set_cons_succ, i64_w, i32_w]
    rfl
  refine one_ (i := 2) (N := some 29) #[true, true, true, false, false] rfl rfl (by kernel_rfl) (by decide) (fun K hK => ?_)
  refine goes_ Try.func22 (by kernel_rfl) rfl #[.agg #[.int .i64 a0_0, .slice A0_1 l0_1.length c0_1]] (by rfl) rfl rfl (by (try simp only [List.map_toArray, List.map_cons, List.map_nil]); first | done | rfl | (simp only [List.length_drop, List.length_take]; rfl)) ?_
  refine (laws_toBook.calls k a0_0 _ _ l0_1 r29_0 r29_1 _ (Kd.C_below HR0_1.out HB.out) HC0_1.out E29.out).mono ?_
  rintro e W11 ⟨v29, rfl, ho, hb⟩
  refine ⟨_, rfl, ?_⟩
  have nOn_ := Kd.S_lower (Kd.S_bound ho) HB.out.size
  have hle_ := HT.out
  have nB1_ := Aside0.mk (blk_below BK1.out hb)
  have nO17_ := Aside0.mk (Kd.S_below HO17.out hb)
  have nO18_ := Aside0.mk (Kd.R_below HO18.out hb)
  have nO20_ := Aside0.mk (Kd.S_below HO20.out hb)
  have nB5_ := Aside0.mk (blk_below BK5.out hb)
  have nO22_ := Aside0.mk (Kd.R_below HO22.out hb)
  have nHB_ := Aside0.mk (below_step HB.out hb)
  have nHT_ := Aside0.mk (Nat.le_trans HT.out hb.size)
  clear BK1 HO17 HO18 HO20 BK5 HO22 HB HT
  have BK1 := nB1_
  have HO17 := nO17_
  have HO18 := nO18_
  have HO20 := nO20_
  have BK5 := nB5_
  have HO22 := nO22_
  have HB := nHB_
  have HT := nHT_
  clear nB1_ nO17_ nO18_ nO20_ nB5_ nO22_ nHB_ nHT_
  obtain ⟨T7, hT7⟩ : ∃ n_, n_ = W11.heap.size := ⟨_, rfl⟩
  have ORD7 := Aside0.mk (show T6 ≤ T7 from by rw [hT7]; exact HT.out)
  clear HT
  have HT := Aside0.mk (Nat.le_of_eq hT7)
  have HO29 := Aside0.mk (Kd.S_mono (ok' := fun k_ => T6 ≤ k_ ∧ k_ < T7) nOn_ (fun k_ hk_ => ⟨Nat.le_trans hle_ hk_.2.1, by rw [hT7]; exact hk_.2.2.1⟩))
  clear nOn_ hle_ ho hT7
  obtain ⟨Ao29, co29, eo29⟩ := Kd.S_slice HO29.out
  subst eo29
  clear hb
  refine hK.out _ _ ⟨(blk_cell BK5.out 0).trans rfl, (blk_cell BK5.out 1).trans rfl, (blk_cell BK1.out 0).trans rfl, (blk_cell BK1.out 1).trans rfl⟩ (fun hHeld => ?_)
  clear hK K
  refine norm_ (a' := ?_) ?_ ?_
  rotate_left
  · show Act.put _ (some 29) _ = _
    simp only [Act.put, List.setIfInBounds_toArray, List.set_cons_zero, List.set_cons_succ, i64_w, i32_w]
    rfl
  refine one_ (i := 3) (N := some 30) #[true, true, true, true, false] rfl rfl (by kernel_rfl) (by decide) (fun K hK => ?_)
  refine goes_ Try.func24 (by kernel_rfl) rfl #[.agg #[.int .i64 r20_0, .slice Ao20 r20_1.length co20], .agg #[.int .i64 r29_0, .slice Ao29 r29_1.length co29]] (by rfl) rfl rfl (by (try simp only [List.map_toArray, List.map_cons, List.map_nil]); first | done | rfl | (simp only [List.length_drop, List.length_take]; rfl)) ?_
  refine (laws_eqBook.calls k r20_0 _ _ r20_1 r29_0 _ _ r29_1 true _ (Kd.S_reads' HO20.out).2.2 (Kd.S_reads' HO20.out).2.1 (Kd.S_reads' HO29.out).2.2 (Kd.S_reads' HO29.out).2.1 E30.out).mono ?_
  rintro e W12 ⟨rfl, hb⟩
  refine ⟨_, rfl, ?_⟩
  have nB1_ := Aside0.mk (blk_below BK1.out hb)
  have nO17_ := Aside0.mk (Kd.S_below HO17.out hb)
  have nO18_ := Aside0.mk (Kd.R_below HO18.out hb)
  have nO20_ := Aside0.mk (Kd.S_below HO20.out hb)
  have nB5_ := Aside0.mk (blk_below BK5.out hb)
  have nO22_ := Aside0.mk (Kd.R_below HO22.out hb)
  have nO29_ := Aside0.mk (Kd.S_below HO29.out hb)
  have nHB_ := Aside0.mk (below_step HB.out hb)
  have nHT_ := Aside0.mk (Nat.le_trans HT.out hb.size)
  clear BK1 HO17 HO18 HO20 BK5 HO22 HO29 HB HT
  have BK1 := nB1_
  have HO17 := nO17_
  have HO18 := nO18_
  have HO20 := nO20_
  have BK5 := nB5_
  have HO22 := nO22_
  have HO29 := nO29_
  have HB := nHB_
  have HT := nHT_
  clear nB1_ nO17_ nO18_ nO20_ nB5_ nO22_ nO29_ nHB_ nHT_
  clear hb
  refine hK.out _ _ ⟨(blk_cell BK5.out 0).trans rfl, (blk_cell BK5.out 1).trans rfl, (blk_cell BK1.out 0).trans rfl, (blk_cell BK1.out 1).trans rfl⟩ (fun hHeld => ?_)
  clear hK K
  refine norm_ (a' := ?_) ?_ ?_
  rotate_left
  · show Act.put _ (some 30) _ = _
    simp only [Act.put, List.setIfInBounds_toArray, List.set_cons_zero, List.set_cons_succ, i64_w, i32_w]
    rfl
  refine pure_ (i := 4) (N := some 31) (v := ?_) (a' := ?_) #[true, true, true, true, true] rfl rfl (by kernel_rfl) (fun _ _ _ h => h) (Or.inl ⟨by rfl, ?_⟩) ?_ ?_
  rotate_left
  · intro w'
    go_simp
    with_reducible rfl
  rotate_left
  · simp only [Act.put, List.setIfInBounds_toArray, List.set_cons_zero, List.set_cons_succ, i64_w, i32_w]
    rfl
  refine done_ (by kernel_rfl) ?_
  clear hHeld
  have hk1_0 : W12.cell? ⟨g1, 0, none⟩ = some (.int .i64 a0_0) := (blk_cell BK1.out 0).trans rfl
  have hk1_1 : W12.cell? ⟨g1, 1, none⟩ = some (.slice A0_1 l0_1.length c0_1) := (blk_cell BK1.out 1).trans rfl
  have hk5_0 : W12.cell? ⟨g5, 0, none⟩ = some (.int .i64 r20_0) := (blk_cell BK5.out 0).trans rfl
  have hk5_1 : W12.cell? ⟨g5, 1, none⟩ = some (.slice Ao20 r20_1.length co20) := (blk_cell BK5.out 1).trans rfl
  go_wp2_with (first
    | ((with_reducible refine gate_dst (N := 34) rfl ?_); refine goesL_ (some 34) rfl rfl Try.func47 (by kernel_rfl) rfl #[.agg #[.int .i64 r20_0, .slice Ao20 r20_1.length co20], .int .i64 1] rfl (by (try simp only [List.map_toArray, List.map_cons, List.map_nil]); first | done | rfl | (simp only [List.length_drop, List.length_take]; rfl)) ?_; refine (laws_markBook.calls k (fun k_ => T3 ≤ k_ ∧ k_ < T4) r20_0 _ r20_1 1 r34_0 r34_1 w _ HB.out HO20.out E34.out).mono ?_; rintro e W13 ⟨rfl, ho, hb, hk⟩; refine ⟨_, rfl, ?_⟩; clear hk1_0 hk1_1; clear hk5_0 hk5_1; have nB1_ := Aside0.mk (blk_kept BK1.out hk (fun h2_ => by have o1_ := ORD1.out; have o2_ := ORD2.out; have o3_ := ORD3.out; have o4_ := ORD4.out; have o5_ := ORD5.out; have o6_ := ORD6.out; have o7_ := ORD7.out; have g_ := GB1.out; omega)); have nO17_ := Aside0.mk (Kd.S_kept HO17.out hk (fun k_ h1_ h2_ => by have o1_ := ORD1.out; have o2_ := ORD2.out; have o3_ := ORD3.out; have o4_ := ORD4.out; have o5_ := ORD5.out; have o6_ := ORD6.out; have o7_ := ORD7.out; exact absurd h1_ (by omega))); have nO18_ := Aside0.mk (Kd.R_kept HO18.out hk (fun k_ h1_ h2_ => by have o1_ := ORD1.out; have o2_ := ORD2.out; have o3_ := ORD3.out; have o4_ := ORD4.out; have o5_ := ORD5.out; have o6_ := ORD6.out; have o7_ := ORD7.out; exact absurd h1_ (by omega))); have nB5_ := Aside0.mk (blk_kept BK5.out hk (fun h2_ => by have o1_ := ORD1.out; have o2_ := ORD2.out; have o3_ := ORD3.out; have o4_ := ORD4.out; have o5_ := ORD5.out; have o6_ := ORD6.out; have o7_ := ORD7.out; have g_ := GB5.out; omega)); have nO22_ := Aside0.mk (Kd.R_kept HO22.out hk (fun k_ h1_ h2_ => by have o1_ := ORD1.out; have o2_ := ORD2.out; have o3_ := ORD3.out; have o4_ := ORD4.out; have o5_ := ORD5.out; have o6_ := ORD6.out; have o7_ := ORD7.out; exact absurd h1_ (by omega))); have nO29_ := Aside0.mk (Kd.S_kept HO29.out hk (fun k_ h1_ h2_ => by have o1_ := ORD1.out; have o2_ := ORD2.out; have o3_ := ORD3.out; have o4_ := ORD4.out; have o5_ := ORD5.out; have o6_ := ORD6.out; have o7_ := ORD7.out; exact absurd h1_ (by omega))); have nHB_ := Aside0.mk hb; have nHT_ := Aside0.mk (Nat.le_trans HT.out hk.1); clear BK1 HO17 HO18 BK5 HO22 HO29 HB HT; have BK1 := nB1_; have HO17 := nO17_; have HO18 := nO18_; have BK5 := nB5_; have HO22 := nO22_; have HO29 := nO29_; have HB := nHB_; have HT := nHT_; clear nB1_ nO17_ nO18_ nB5_ nO22_ nO29_ nHB_ nHT_; have nO_ := Aside0.mk (Kd.S_mono (ok' := fun _ => True) ho (fun _ _ => trivial)); clear HO20; have HO20 := nO_; have LN20 := Aside0.mk (show r20_1.length = r34_1.length from (Kd.S_reads' HO20.out).1); clear nO_ ho hb hk; have hk1_0 : W13.cell? ⟨g1, 0, none⟩ = some (.int .i64 a0_0) := (blk_cell BK1.out 0).trans rfl; have hk1_1 : W13.cell? ⟨g1, 1, none⟩ = some (.slice A0_1 l0_1.length c0_1) := (blk_cell BK1.out 1).trans rfl; have hk5_0 : W13.cell? ⟨g5, 0, none⟩ = some (.int .i64 r20_0) := (blk_cell BK5.out 0).trans rfl; have hk5_1 : W13.cell? ⟨g5, 1, none⟩ = some (.slice Ao20 r20_1.length co20) := (blk_cell BK5.out 1).trans rfl)
    | ((with_reducible refine gate_dst (N := 40) rfl ?_); (try (refine gate_guard (by rfl) ?_; dsimp only)); refine goesL_ (some 40) rfl rfl Try.func46 (by kernel_rfl) rfl #[.slice Ao22 r22_0.length co22, .slice Ao18 r18_0.length co18] rfl (by (try simp only [List.map_toArray, List.map_cons, List.map_nil]); first | done | rfl | (simp only [List.length_drop, List.length_take]; rfl)) ?_; refine (laws_eqIntS.calls k _ _ r22_0 _ _ r18_0 true _ (Kd.R_reads' HO22.out).2.2 (Kd.R_reads' HO22.out).2.1 (Kd.R_reads' HO18.out).2.2 (Kd.R_reads' HO18.out).2.1 E40.out).mono ?_; rintro e W14 ⟨rfl, hd⟩; refine ⟨_, rfl, ?_⟩; have hb := Drawn0.below hd; clear hd; clear hk1_0 hk1_1; clear hk5_0 hk5_1; have nB1_ := Aside0.mk (blk_below BK1.out hb); have nO17_ := Aside0.mk (Kd.S_below HO17.out hb); have nO18_ := Aside0.mk (Kd.R_below HO18.out hb); have nO20_ := Aside0.mk (Kd.S_below HO20.out hb); have nB5_ := Aside0.mk (blk_below BK5.out hb); have nO22_ := Aside0.mk (Kd.R_below HO22.out hb); have nO29_ := Aside0.mk (Kd.S_below HO29.out hb); have nHB_ := Aside0.mk (below_step HB.out hb); have nHT_ := Aside0.mk (Nat.le_trans HT.out hb.size); clear BK1 HO17 HO18 HO20 BK5 HO22 HO29 HB HT; have BK1 := nB1_; have HO17 := nO17_; have HO18 := nO18_; have HO20 := nO20_; have BK5 := nB5_; have HO22 := nO22_; have HO29 := nO29_; have HB := nHB_; have HT := nHT_; clear nB1_ nO17_ nO18_ nO20_ nB5_ nO22_ nO29_ nHB_ nHT_; clear hb; have hk1_0 : W14.cell? ⟨g1, 0, none⟩ = some (.int .i64 a0_0) := (blk_cell BK1.out 0).trans rfl; have hk1_1 : W14.cell? ⟨g1, 1, none⟩ = some (.slice A0_1 l0_1.length c0_1) := (blk_cell BK1.out 1).trans rfl; have hk5_0 : W14.cell? ⟨g5, 0, none⟩ = some (.int .i64 r20_0) := (blk_cell BK5.out 0).trans rfl; have hk5_1 : W14.cell? ⟨g5, 1, none⟩ = some (.slice Ao20 r20_1.length co20) := (blk_cell BK5.out 1).trans rfl)
    | ((with_reducible refine gate_dst (N := 45) rfl ?_); refine goesL_ (some 45) rfl rfl Try.func48 (by kernel_rfl) rfl #[.slice Ao22 r22_0.length co22, .int .i64 1] rfl (by (try simp only [List.map_toArray, List.map_cons, List.map_nil]); first | done | rfl | (simp only [List.length_drop, List.length_take]; rfl)) ?_; refine (laws_markIntS.calls k (fun k_ => T5 ≤ k_ ∧ k_ < T6) _ r22_0 1 r45_0 r45_1 w _ HB.out HO22.out E45.out).mono ?_; rintro e W15 ⟨rfl, ho, hb, hk⟩; refine ⟨_, rfl, ?_⟩; clear hk1_0 hk1_1; clear hk5_0 hk5_1; have nB1_ := Aside0.mk (blk_kept BK1.out hk (fun h2_ => by have o1_ := ORD1.out; have o2_ := ORD2.out; have o3_ := ORD3.out; have o4_ := ORD4.out; have o5_ := ORD5.out; have o6_ := ORD6.out; have o7_ := ORD7.out; have g_ := GB1.out; omega)); have nO17_ := Aside0.mk (Kd.S_kept HO17.out hk (fun k_ h1_ h2_ => by have o1_ := ORD1.out; have o2_ := ORD2.out; have o3_ := ORD3.out; have o4_ := ORD4.out; have o5_ := ORD5.out; have o6_ := ORD6.out; have o7_ := ORD7.out; exact absurd h1_ (by omega))); have nO18_ := Aside0.mk (Kd.R_kept HO18.out hk (fun k_ h1_ h2_ => by have o1_ := ORD1.out; have o2_ := ORD2.out; have o3_ := ORD3.out; have o4_ := ORD4.out; have o5_ := ORD5.out; have o6_ := ORD6.out; have o7_ := ORD7.out; exact absurd h1_ (by omega))); have nB5_ := Aside0.mk (blk_kept BK5.out hk (fun h2_ => by have o1_ := ORD1.out; have o2_ := ORD2.out; have o3_ := ORD3.out; have o4_ := ORD4.out; have o5_ := ORD5.out; have o6_ := ORD6.out; have o7_ := ORD7.out; have g_ := GB5.out; omega)); have nO29_ := Aside0.mk (Kd.S_kept HO29.out hk (fun k_ h1_ h2_ => by have o1_ := ORD1.out; have o2_ := ORD2.out; have o3_ := ORD3.out; have o4_ := ORD4.out; have o5_ := ORD5.out; have o6_ := ORD6.out; have o7_ := ORD7.out; exact absurd h1_ (by omega))); have nHB_ := Aside0.mk hb; have nHT_ := Aside0.mk (Nat.le_trans HT.out hk.1); clear BK1 HO17 HO18 BK5 HO29 HB HT HO20 LN20; have BK1 := nB1_; have HO17 := nO17_; have HO18 := nO18_; have BK5 := nB5_; have HO29 := nO29_; have HB := nHB_; have HT := nHT_; clear nB1_ nO17_ nO18_ nB5_ nO29_ nHB_ nHT_; have nO_ := Aside0.mk (Kd.R_mono (ok' := fun _ => True) ho (fun _ _ => trivial)); clear HO22; have HO22 := nO_; have LN22 := Aside0.mk (show r22_0.length = r45_1.length from (Kd.R_reads' HO22.out).1); clear nO_ ho hb hk; have hk1_0 : W15.cell? ⟨g1, 0, none⟩ = some (.int .i64 a0_0) := (blk_cell BK1.out 0).trans rfl; have hk1_1 : W15.cell? ⟨g1, 1, none⟩ = some (.slice A0_1 l0_1.length c0_1) := (blk_cell BK1.out 1).trans rfl; have hk5_0 : W15.cell? ⟨g5, 0, none⟩ = some (.int .i64 r20_0) := (blk_cell BK5.out 0).trans rfl; have hk5_1 : W15.cell? ⟨g5, 1, none⟩ = some (.slice Ao20 r20_1.length co20) := (blk_cell BK5.out 1).trans rfl)
    | ((with_reducible refine gate_dst (N := 48) rfl ?_); refine goesL_ (some 48) rfl rfl Try.func49 (by kernel_rfl) rfl #[.slice Ao22 r22_0.length co22, .int .i64 1] rfl (by (try simp only [List.map_toArray, List.map_cons, List.map_nil]); first | done | rfl | (simp only [List.length_drop, List.length_take]; rfl)) ?_; refine calls_args (by rw [LN22.out]) ((laws_heldIntS.calls k Ao22 co22 r45_1 1 r48_0 _ (Kd.R_reads' HO22.out).2.2 (by rw [← LN22.out]; exact (Kd.R_reads' HO22.out).2.1) E48.out).mono ?_); rintro e W16 ⟨rfl, hd⟩; refine ⟨_, rfl, ?_⟩; have hb := Drawn0.below hd; clear hd; clear hk1_0 hk1_1; clear hk5_0 hk5_1; have nB1_ := Aside0.mk (blk_below BK1.out hb); have nO17_ := Aside0.mk (Kd.S_below HO17.out hb); have nO18_ := Aside0.mk (Kd.R_below HO18.out hb); have nB5_ := Aside0.mk (blk_below BK5.out hb); have nO22_ := Aside0.mk (Kd.R_below HO22.out hb); have nO29_ := Aside0.mk (Kd.S_below HO29.out hb); have nHB_ := Aside0.mk (below_step HB.out hb); have nHT_ := Aside0.mk (Nat.le_trans HT.out hb.size); clear BK1 HO17 HO18 BK5 HO22 HO29 HB HT; have BK1 := nB1_; have HO17 := nO17_; have HO18 := nO18_; have BK5 := nB5_; have HO22 := nO22_; have HO29 := nO29_; have HB := nHB_; have HT := nHT_; clear nB1_ nO17_ nO18_ nB5_ nO22_ nO29_ nHB_ nHT_; clear hb; have hk1_0 : W16.cell? ⟨g1, 0, none⟩ = some (.int .i64 a0_0) := (blk_cell BK1.out 0).trans rfl; have hk1_1 : W16.cell? ⟨g1, 1, none⟩ = some (.slice A0_1 l0_1.length c0_1) := (blk_cell BK1.out 1).trans rfl; have hk5_0 : W16.cell? ⟨g5, 0, none⟩ = some (.int .i64 r20_0) := (blk_cell BK5.out 0).trans rfl; have hk5_1 : W16.cell? ⟨g5, 1, none⟩ = some (.slice Ao20 r20_1.length co20) := (blk_cell BK5.out 1).trans rfl)
    | ((with_reducible refine gate_dst (N := 55) rfl ?_); refine goesL_ (some 55) rfl rfl Try.func22 (by kernel_rfl) rfl #[.agg #[.int .i64 a0_0, .slice A0_1 l0_1.length c0_1]] rfl (by (try simp only [List.map_toArray, List.map_cons, List.map_nil]); first | done | rfl | (simp only [List.length_drop, List.length_take]; rfl)) ?_; refine (laws_toBook.calls k a0_0 _ _ l0_1 r55_0 r55_1 _ (Kd.C_below HR0_1.out HB.out) HC0_1.out E55.out).mono ?_; rintro e W17 ⟨v55, rfl, ho, hb⟩; refine ⟨_, rfl, ?_⟩; clear hk1_0 hk1_1; clear hk5_0 hk5_1; have nOn_ := Kd.S_lower (Kd.S_bound ho) HB.out.size; have hle_ := HT.out; have nB1_ := Aside0.mk (blk_below BK1.out hb); have nO17_ := Aside0.mk (Kd.S_below HO17.out hb); have nO18_ := Aside0.mk (Kd.R_below HO18.out hb); have nB5_ := Aside0.mk (blk_below BK5.out hb); have nO22_ := Aside0.mk (Kd.R_below HO22.out hb); have nO29_ := Aside0.mk (Kd.S_below HO29.out hb); have nHB_ := Aside0.mk (below_step HB.out hb); have nHT_ := Aside0.mk (Nat.le_trans HT.out hb.size); clear BK1 HO17 HO18 BK5 HO22 HO29 HB HT; have BK1 := nB1_; have HO17 := nO17_; have HO18 := nO18_; have BK5 := nB5_; have HO22 := nO22_; have HO29 := nO29_; have HB := nHB_; have HT := nHT_; clear nB1_ nO17_ nO18_ nB5_ nO22_ nO29_ nHB_ nHT_; obtain ⟨T8, hT8⟩ : ∃ n_, n_ = W17.heap.size := ⟨_, rfl⟩; have ORD8 := Aside0.mk (show T7 ≤ T8 from by rw [hT8]; exact HT.out); clear HT; have HT := Aside0.mk (Nat.le_of_eq hT8); have HO55 := Aside0.mk (Kd.S_mono (ok' := fun k_ => T7 ≤ k_ ∧ k_ < T8) nOn_ (fun k_ hk_ => ⟨Nat.le_trans hle_ hk_.2.1, by rw [hT8]; exact hk_.2.2.1⟩)); clear nOn_ hle_ ho hT8; obtain ⟨Ao55, co55, eo55⟩ := Kd.S_slice HO55.out; subst eo55; clear hb; have hk1_0 : W17.cell? ⟨g1, 0, none⟩ = some (.int .i64 a0_0) := (blk_cell BK1.out 0).trans rfl; have hk1_1 : W17.cell? ⟨g1, 1, none⟩ = some (.slice A0_1 l0_1.length c0_1) := (blk_cell BK1.out 1).trans rfl; have hk5_0 : W17.cell? ⟨g5, 0, none⟩ = some (.int .i64 r20_0) := (blk_cell BK5.out 0).trans rfl; have hk5_1 : W17.cell? ⟨g5, 1, none⟩ = some (.slice Ao20 r20_1.length co20) := (blk_cell BK5.out 1).trans rfl)
    | ((with_reducible refine gate_dst (N := 56) rfl ?_); refine goesL_ (some 56) rfl rfl Try.func51 (by kernel_rfl) rfl #[.agg #[.int .i64 r55_0, .slice Ao55 r55_1.length co55]] rfl (by (try simp only [List.map_toArray, List.map_cons, List.map_nil]); first | done | rfl | (simp only [List.length_drop, List.length_take]; rfl)) ?_; refine (impl_Leaves.calls k r55_0 _ _ r55_1 r56_0 _ (Kd.S_reads' HO55.out).2.2 (Kd.S_reads' HO55.out).2.1 E56.out).mono ?_; rintro e W18 ⟨v56, rfl, ho, hb⟩; refine ⟨_, rfl, ?_⟩; clear hk1_0 hk1_1; clear hk5_0 hk5_1; have nOn_ := Kd.R_lower (Kd.R_bound ho) HB.out.size; have hle_ := HT.out; have nB1_ := Aside0.mk (blk_below BK1.out hb); have nO17_ := Aside0.mk (Kd.S_below HO17.out hb); have nO18_ := Aside0.mk (Kd.R_below HO18.out hb); have nB5_ := Aside0.mk (blk_below BK5.out hb); have nO22_ := Aside0.mk (Kd.R_below HO22.out hb); have nO29_ := Aside0.mk (Kd.S_below HO29.out hb); have nO55_ := Aside0.mk (Kd.S_below HO55.out hb); have nHB_ := Aside0.mk (below_step HB.out hb); have nHT_ := Aside0.mk (Nat.le_trans HT.out hb.size); clear BK1 HO17 HO18 BK5 HO22 HO29 HO55 HB HT; have BK1 := nB1_; have HO17 := nO17_; have HO18 := nO18_; have BK5 := nB5_; have HO22 := nO22_; have HO29 := nO29_; have HO55 := nO55_; have HB := nHB_; have HT := nHT_; clear nB1_ nO17_ nO18_ nB5_ nO22_ nO29_ nO55_ nHB_ nHT_; obtain ⟨T9, hT9⟩ : ∃ n_, n_ = W18.heap.size := ⟨_, rfl⟩; have ORD9 := Aside0.mk (show T8 ≤ T9 from by rw [hT9]; exact HT.out); clear HT; have HT := Aside0.mk (Nat.le_of_eq hT9); have HO56 := Aside0.mk (Kd.R_mono (ok' := fun k_ => T8 ≤ k_ ∧ k_ < T9) nOn_ (fun k_ hk_ => ⟨Nat.le_trans hle_ hk_.2.1, by rw [hT9]; exact hk_.2.2.1⟩)); clear nOn_ hle_ ho hT9; obtain ⟨Ao56, co56, eo56⟩ := Kd.R_slice HO56.out; subst eo56; clear hb; have hk1_0 : W18.cell? ⟨g1, 0, none⟩ = some (.int .i64 a0_0) := (blk_cell BK1.out 0).trans rfl; have hk1_1 : W18.cell? ⟨g1, 1, none⟩ = some (.slice A0_1 l0_1.length c0_1) := (blk_cell BK1.out 1).trans rfl; have hk5_0 : W18.cell? ⟨g5, 0, none⟩ = some (.int .i64 r20_0) := (blk_cell BK5.out 0).trans rfl; have hk5_1 : W18.cell? ⟨g5, 1, none⟩ = some (.slice Ao20 r20_1.length co20) := (blk_cell BK5.out 1).trans rfl)
    | ((with_reducible refine gate_dst (N := 59) rfl ?_); refine goesL_ (some 59) rfl rfl Try.func46 (by kernel_rfl) rfl #[.slice Ao56 r56_0.length co56, .slice Ao18 r18_0.length co18] rfl (by (try simp only [List.map_toArray, List.map_cons, List.map_nil]); first | done | rfl | (simp only [List.length_drop, List.length_take]; rfl)) ?_; refine (laws_eqIntS.calls k _ _ r56_0 _ _ r18_0 true _ (Kd.R_reads' HO56.out).2.2 (Kd.R_reads' HO56.out).2.1 (Kd.R_reads' HO18.out).2.2 (Kd.R_reads' HO18.out).2.1 E59.out).mono ?_; rintro e W19 ⟨rfl, hd⟩; refine ⟨_, rfl, ?_⟩; have hb := Drawn0.below hd; clear hd; clear hk1_0 hk1_1; clear hk5_0 hk5_1; have nB1_ := Aside0.mk (blk_below BK1.out hb); have nO17_ := Aside0.mk (Kd.S_below HO17.out hb); have nO18_ := Aside0.mk (Kd.R_below HO18.out hb); have nB5_ := Aside0.mk (blk_below BK5.out hb); have nO22_ := Aside0.mk (Kd.R_below HO22.out hb); have nO29_ := Aside0.mk (Kd.S_below HO29.out hb); have nO55_ := Aside0.mk (Kd.S_below HO55.out hb); have nO56_ := Aside0.mk (Kd.R_below HO56.out hb); have nHB_ := Aside0.mk (below_step HB.out hb); have nHT_ := Aside0.mk (Nat.le_trans HT.out hb.size); clear BK1 HO17 HO18 BK5 HO22 HO29 HO55 HO56 HB HT; have BK1 := nB1_; have HO17 := nO17_; have HO18 := nO18_; have BK5 := nB5_; have HO22 := nO22_; have HO29 := nO29_; have HO55 := nO55_; have HO56 := nO56_; have HB := nHB_; have HT := nHT_; clear nB1_ nO17_ nO18_ nB5_ nO22_ nO29_ nO55_ nO56_ nHB_ nHT_; clear hb; have hk1_0 : W19.cell? ⟨g1, 0, none⟩ = some (.int .i64 a0_0) := (blk_cell BK1.out 0).trans rfl; have hk1_1 : W19.cell? ⟨g1, 1, none⟩ = some (.slice A0_1 l0_1.length c0_1) := (blk_cell BK1.out 1).trans rfl; have hk5_0 : W19.cell? ⟨g5, 0, none⟩ = some (.int .i64 r20_0) := (blk_cell BK5.out 0).trans rfl; have hk5_1 : W19.cell? ⟨g5, 1, none⟩ = some (.slice Ao20 r20_1.length co20) := (blk_cell BK5.out 1).trans rfl)
    | ((with_reducible refine gate_dst (N := 63) rfl ?_); refine goesL_ (some 63) rfl rfl Try.func49 (by kernel_rfl) rfl #[.slice Ao22 r22_0.length co22, .int .i64 1] rfl (by (try simp only [List.map_toArray, List.map_cons, List.map_nil]); first | done | rfl | (simp only [List.length_drop, List.length_take]; rfl)) ?_; refine calls_args (by rw [LN22.out]) ((laws_heldIntS.calls k Ao22 co22 r45_1 1 r63_0 _ (Kd.R_reads' HO22.out).2.2 (by rw [← LN22.out]; exact (Kd.R_reads' HO22.out).2.1) E63.out).mono ?_); rintro e W20 ⟨rfl, hd⟩; refine ⟨_, rfl, ?_⟩; have hb := Drawn0.below hd; clear hd; clear hk1_0 hk1_1; clear hk5_0 hk5_1; have nB1_ := Aside0.mk (blk_below BK1.out hb); have nO17_ := Aside0.mk (Kd.S_below HO17.out hb); have nO18_ := Aside0.mk (Kd.R_below HO18.out hb); have nB5_ := Aside0.mk (blk_below BK5.out hb); have nO22_ := Aside0.mk (Kd.R_below HO22.out hb); have nO29_ := Aside0.mk (Kd.S_below HO29.out hb); have nO55_ := Aside0.mk (Kd.S_below HO55.out hb); have nO56_ := Aside0.mk (Kd.R_below HO56.out hb); have nHB_ := Aside0.mk (below_step HB.out hb); have nHT_ := Aside0.mk (Nat.le_trans HT.out hb.size); clear BK1 HO17 HO18 BK5 HO22 HO29 HO55 HO56 HB HT; have BK1 := nB1_; have HO17 := nO17_; have HO18 := nO18_; have BK5 := nB5_; have HO22 := nO22_; have HO29 := nO29_; have HO55 := nO55_; have HO56 := nO56_; have HB := nHB_; have HT := nHT_; clear nB1_ nO17_ nO18_ nB5_ nO22_ nO29_ nO55_ nO56_ nHB_ nHT_; clear hb; have hk1_0 : W20.cell? ⟨g1, 0, none⟩ = some (.int .i64 a0_0) := (blk_cell BK1.out 0).trans rfl; have hk1_1 : W20.cell? ⟨g1, 1, none⟩ = some (.slice A0_1 l0_1.length c0_1) := (blk_cell BK1.out 1).trans rfl; have hk5_0 : W20.cell? ⟨g5, 0, none⟩ = some (.int .i64 r20_0) := (blk_cell BK5.out 0).trans rfl; have hk5_1 : W20.cell? ⟨g5, 1, none⟩ = some (.slice Ao20 r20_1.length co20) := (blk_cell BK5.out 1).trans rfl))
  go_ret
  exact ⟨rfl, HB.out⟩

end Go.Proofs.Ythenmlaleobapaa.All
