/- The law FnExactRows as a chain over the contracts of what it calls. No condition. -/
import Derived.Test.YthenmlaleobapaaAllx1
import Derived.Test.YthenmlaleobapaaAllx11
import Derived.Test.YthenmlaleobapaaAllx12
import Derived.Test.YthenmlaleobapaaAllx16
import Derived.Test.YthenmlaleobapaaAllx3
import Derived.Test.YthenmlaleobapaaAllx6
import Derived.Test.YthenmlaleobapaaAllx8
import Derived.Test.YthenmlaleobapaaHMarkEntryS
import Derived.Test.YthenmlaleobapaaHMarkEntrySS
import Derived.Test.YthenmlaleobapaaLawKit
namespace Go.Proofs.Ythenmlaleobapaa.All
open Go.RowKit Go.Proofs.YthenmlaleobapaaW.PrintWords Go.Proofs.YthenmlaleobapaaW.PrintLast Go.Proofs.YthenmlaleobapaaW.PrintMore
set_option linter.unusedVariables false
set_option linter.unusedSimpArgs false

/-! ### laws_FnExactRows -/
def laws_FnExactRows.f (k : Nat) (l0 : List (S86)) : Option Bool := ((laws_szEntryS.f l0 1048576).bind fun r13_0 => (if r13_0 < 0 then some true else ((laws_toEntryS.f k l0).bind fun r17_0 => ((spec_Rows.f k r17_0).bind fun r18_0 => ((laws_toEntryS.f k l0).bind fun r20_0 => ((impl_Rows.f k r20_0).bind fun r22_0 => ((laws_eqEntrySS.f k r22_0 r18_0).bind fun r25_0 => (if r25_0 = true then ((laws_toEntryS.f k l0).bind fun r29_0 => ((laws_eqEntryS.f k r20_0 r29_0).bind fun r30_0 => (if r30_0 = true then ((laws_markEntryS.f k r20_0 1).bind fun (r34_0, r34_1) => ((laws_eqEntrySS.f k r22_0 r18_0).bind fun r40_0 => (if ¬ r34_0 < 0 then (if r40_0 = true then ((laws_markEntrySS.f k r22_0 1).bind fun (r45_0, r45_1) => ((laws_heldEntrySS.f k r45_1 1).bind fun r48_0 => (if ¬ r48_0 < 0 then (if r48_0 = r45_0 then ((laws_toEntryS.f k l0).bind fun r55_0 => ((impl_Rows.f k r55_0).bind fun r56_0 => ((laws_eqEntrySS.f k r56_0 r18_0).bind fun r59_0 => (if r59_0 = true then ((laws_heldEntrySS.f k r45_1 1).bind fun r63_0 => (if ¬ r63_0 < 0 then (if r63_0 = r45_0 then some true else none) else none)) else none)))) else none) else none))) else none) else none))) else none))) else none))))))))
set_option maxHeartbeats 4000000 in
set_option maxRecDepth 100000 in
theorem laws_FnExactRows.calls (k : Nat) (A0 : Option Addr) (c0 : Nat) (l0 : List (S86)) (r : Bool) (w : World) (hr0 : Kd.C k86 w A0 l0.length l0) (hc0 : l0.length ≤ c0) (h : laws_FnExactRows.f k l0 = some r) :
    Calls Try.prog 8 #[.slice A0 l0.length c0] w fun e w' => e = .returned (.bool r) ∧ Below w.heap.size w w' := by
  have HR0 := Aside0.mk hr0
  have HC0 := Aside0.mk hc0
  clear hr0 hc0
  obtain ⟨T0, hT0⟩ : ∃ n_, n_ = w.heap.size := ⟨_, rfl⟩
  have HT := Aside0.mk (Nat.le_of_eq hT0)
  clear hT0
  have HB := Aside0.mk (Below.refl w.heap.size w)
  have H := h
  clear h
  unfold laws_FnExactRows.f at H
  obtain ⟨r13_0, E13_, H⟩ := Option.bind_eq_some_iff.mp H
  have E13 := Aside0.mk E13_
  clear E13_
  by_cases c15 : r13_0 < 0
  · rw [if_pos c15] at H
    have c15b : decide (r13_0 < 0) = true := decide_eq_true c15
    clear c15
    obtain rfl := Option.some.inj H
    go_enter Try.func8, Try.ntmps8
    go_wp2_with (first
      | ((with_reducible refine gate_dst (N := 13) rfl ?_); refine goesL_ (some 13) rfl rfl Try.func31 (by kernel_rfl) rfl #[.slice A0 l0.length c0, .int .i64 1048576] rfl (by (try simp only [List.map_toArray, List.map_cons, List.map_nil]); first | done | rfl | (simp only [List.length_drop, List.length_take]; rfl)) ?_; refine (laws_szEntryS.calls _ _ l0 1048576 r13_0 _ (Kd.C_below HR0.out HB.out) HC0.out E13.out).mono ?_; rintro e W1 ⟨rfl, hd⟩; refine ⟨_, rfl, ?_⟩; have hb := Drawn0.below hd; clear hd; have nHB_ := Aside0.mk (below_step HB.out hb); have nHT_ := Aside0.mk (Nat.le_trans HT.out hb.size); clear HB HT; have HB := nHB_; have HT := nHT_; clear nHB_ nHT_; clear hb))
    go_ret
    exact ⟨rfl, HB.out⟩
  rw [if_neg c15] at H
  have c15b : decide (r13_0 < 0) = false := decide_eq_false c15
  clear c15
  obtain ⟨r17_0, E17_, H⟩ := Option.bind_eq_some_iff.mp H
  have E17 := Aside0.mk E17_
  clear E17_
  obtain ⟨r18_0, E18_, H⟩ := Option.bind_eq_some_iff.mp H
  have E18 := Aside0.mk E18_
  clear E18_
  obtain ⟨r20_0, E20_, H⟩ := Option.bind_eq_some_iff.mp H
  have E20 := Aside0.mk E20_
  clear E20_
  obtain ⟨r22_0, E22_, H⟩ := Option.bind_eq_some_iff.mp H
  have E22 := Aside0.mk E22_
  clear E22_
  obtain ⟨r25_0, E25_, H⟩ := Option.bind_eq_some_iff.mp H
  have E25 := Aside0.mk E25_
  clear E25_
  by_cases F26_1 : r25_0 = true
  rotate_left
  · rw [if_neg F26_1] at H
    exact absurd H (by simp)
  rw [if_pos F26_1] at H
  subst F26_1
  obtain ⟨r29_0, E29_, H⟩ := Option.bind_eq_some_iff.mp H
  have E29 := Aside0.mk E29_
  clear E29_
  obtain ⟨r30_0, E30_, H⟩ := Option.bind_eq_some_iff.mp H
  have E30 := Aside0.mk E30_
  clear E30_
  by_cases F31_2 : r30_0 = true
  rotate_left
  · rw [if_neg F31_2] at H
    exact absurd H (by simp)
  rw [if_pos F31_2] at H
  subst F31_2
  obtain ⟨⟨r34_0, r34_1⟩, E34_, H⟩ := Option.bind_eq_some_iff.mp H
  have E34 := Aside0.mk E34_
  clear E34_
  try dsimp only at H
  obtain ⟨r40_0, E40_, H⟩ := Option.bind_eq_some_iff.mp H
  have E40 := Aside0.mk E40_
  clear E40_
  by_cases F42_3 : ¬ r34_0 < 0
  rotate_left
  · rw [if_neg F42_3] at H
    exact absurd H (by simp)
  rw [if_pos F42_3] at H
  have F42_3b : decide (r34_0 < 0) = false := decide_eq_false F42_3
  clear F42_3
  by_cases F42_4 : r40_0 = true
  rotate_left
  · rw [if_neg F42_4] at H
    exact absurd H (by simp)
  rw [if_pos F42_4] at H
  subst F42_4
  obtain ⟨⟨r45_0, r45_1⟩, E45_, H⟩ := Option.bind_eq_some_iff.mp H
  have E45 := Aside0.mk E45_
  clear E45_
  try dsimp only at H
  obtain ⟨r48_0, E48_, H⟩ := Option.bind_eq_some_iff.mp H
  have E48 := Aside0.mk E48_
  clear E48_
  by_cases F50_5 : ¬ r48_0 < 0
  rotate_left
  · rw [if_neg F50_5] at H
    exact absurd H (by simp)
  rw [if_pos F50_5] at H
  have F50_5b : decide (r48_0 < 0) = false := decide_eq_false F50_5
  clear F50_5
  by_cases F53_6 : r48_0 = r45_0
  rotate_left
  · rw [if_neg F53_6] at H
    exact absurd H (by simp)
  rw [if_pos F53_6] at H
  have F53_6a : (r48_0 != r45_0) = false := by simp [F53_6]
  have F53_6b : (r48_0 == r45_0) = true := by simp [F53_6]
  have F53_6c : decide (r48_0 = r45_0) = true := by simp [F53_6]
  clear F53_6
  obtain ⟨r55_0, E55_, H⟩ := Option.bind_eq_some_iff.mp H
  have E55 := Aside0.mk E55_
  clear E55_
  obtain ⟨r56_0, E56_, H⟩ := Option.bind_eq_some_iff.mp H
  have E56 := Aside0.mk E56_
  clear E56_
  obtain ⟨r59_0, E59_, H⟩ := Option.bind_eq_some_iff.mp H
  have E59 := Aside0.mk E59_
  clear E59_
  by_cases F60_7 : r59_0 = true
  rotate_left
  · rw [if_neg F60_7] at H
    exact absurd H (by simp)
  rw [if_pos F60_7] at H
  subst F60_7
  obtain ⟨r63_0, E63_, H⟩ := Option.bind_eq_some_iff.mp H
  have E63 := Aside0.mk E63_
  clear E63_
  by_cases F65_8 : ¬ r63_0 < 0
  rotate_left
  · rw [if_neg F65_8] at H
    exact absurd H (by simp)
  rw [if_pos F65_8] at H
  have F65_8b : decide (r63_0 < 0) = false := decide_eq_false F65_8
  clear F65_8
  by_cases F68_9 : r63_0 = r45_0
  rotate_left
  · rw [if_neg F68_9] at H
    exact absurd H (by simp)
  rw [if_pos F68_9] at H
  have F68_9a : (r63_0 != r45_0) = false := by simp [F68_9]
  have F68_9b : (r63_0 == r45_0) = true := by simp [F68_9]
  have F68_9c : decide (r63_0 = r45_0) = true := by simp [F68_9]
  clear F68_9
  obtain rfl := Option.some.inj H
  clear H
  go_enter Try.func8, Try.ntmps8
  go_wp2_with (first
    | ((with_reducible refine gate_dst (N := 13) rfl ?_); refine goesL_ (some 13) rfl rfl Try.func31 (by kernel_rfl) rfl #[.slice A0 l0.length c0, .int .i64 1048576] rfl (by (try simp only [List.map_toArray, List.map_cons, List.map_nil]); first | done | rfl | (simp only [List.length_drop, List.length_take]; rfl)) ?_; refine (laws_szEntryS.calls _ _ l0 1048576 r13_0 _ (Kd.C_below HR0.out HB.out) HC0.out E13.out).mono ?_; rintro e W1 ⟨rfl, hd⟩; refine ⟨_, rfl, ?_⟩; have hb := Drawn0.below hd; clear hd; have nHB_ := Aside0.mk (below_step HB.out hb); have nHT_ := Aside0.mk (Nat.le_trans HT.out hb.size); clear HB HT; have HB := nHB_; have HT := nHT_; clear nHB_ nHT_; clear hb)
    | ((with_reducible refine gate_dst (N := 17) rfl ?_); refine goesL_ (some 17) rfl rfl Try.func33 (by kernel_rfl) rfl #[.slice A0 l0.length c0] rfl (by (try simp only [List.map_toArray, List.map_cons, List.map_nil]); first | done | rfl | (simp only [List.length_drop, List.length_take]; rfl)) ?_; refine (laws_toEntryS.calls k _ _ l0 r17_0 _ (Kd.C_below HR0.out HB.out) HC0.out E17.out).mono ?_; rintro e W2 ⟨v17, rfl, ho, hb⟩; refine ⟨_, rfl, ?_⟩; have nOn_ := Kd.R_lower (Kd.R_bound ho) HB.out.size; have hle_ := HT.out; have nHB_ := Aside0.mk (below_step HB.out hb); have nHT_ := Aside0.mk (Nat.le_trans HT.out hb.size); clear HB HT; have HB := nHB_; have HT := nHT_; clear nHB_ nHT_; obtain ⟨T1, hT1⟩ : ∃ n_, n_ = W2.heap.size := ⟨_, rfl⟩; have ORD1 := Aside0.mk (show T0 ≤ T1 from by rw [hT1]; exact HT.out); clear HT; have HT := Aside0.mk (Nat.le_of_eq hT1); have HO17 := Aside0.mk (Kd.R_mono (ok' := fun k_ => T0 ≤ k_ ∧ k_ < T1) nOn_ (fun k_ hk_ => ⟨Nat.le_trans hle_ hk_.2.1, by rw [hT1]; exact hk_.2.2.1⟩)); clear nOn_ hle_ ho hT1; obtain ⟨Ao17, co17, eo17⟩ := Kd.R_slice HO17.out; subst eo17; clear hb)
    | ((with_reducible refine gate_dst (N := 18) rfl ?_); refine goesL_ (some 18) rfl rfl Try.func32 (by kernel_rfl) rfl #[.slice Ao17 r17_0.length co17] rfl (by (try simp only [List.map_toArray, List.map_cons, List.map_nil]); first | done | rfl | (simp only [List.length_drop, List.length_take]; rfl)) ?_; refine (spec_Rows.calls k _ _ r17_0 r18_0 _ (Kd.R_reads' HO17.out).2.2 (Kd.R_reads' HO17.out).2.1 E18.out).mono ?_; rintro e W3 ⟨v18, rfl, ho, hb⟩; refine ⟨_, rfl, ?_⟩; have nOn_ := Kd.S_lower (Kd.S_bound ho) HB.out.size; have hle_ := HT.out; have nO17_ := Aside0.mk (Kd.R_below HO17.out hb); have nHB_ := Aside0.mk (below_step HB.out hb); have nHT_ := Aside0.mk (Nat.le_trans HT.out hb.size); clear HO17 HB HT; have HO17 := nO17_; have HB := nHB_; have HT := nHT_; clear nO17_ nHB_ nHT_; obtain ⟨T2, hT2⟩ : ∃ n_, n_ = W3.heap.size := ⟨_, rfl⟩; have ORD2 := Aside0.mk (show T1 ≤ T2 from by rw [hT2]; exact HT.out); clear HT; have HT := Aside0.mk (Nat.le_of_eq hT2); have HO18 := Aside0.mk (Kd.S_mono (ok' := fun k_ => T1 ≤ k_ ∧ k_ < T2) nOn_ (fun k_ hk_ => ⟨Nat.le_trans hle_ hk_.2.1, by rw [hT2]; exact hk_.2.2.1⟩)); clear nOn_ hle_ ho hT2; obtain ⟨Ao18, co18, eo18⟩ := Kd.S_slice HO18.out; subst eo18; clear hb)
    | ((with_reducible refine gate_dst (N := 20) rfl ?_); refine goesL_ (some 20) rfl rfl Try.func33 (by kernel_rfl) rfl #[.slice A0 l0.length c0] rfl (by (try simp only [List.map_toArray, List.map_cons, List.map_nil]); first | done | rfl | (simp only [List.length_drop, List.length_take]; rfl)) ?_; refine (laws_toEntryS.calls k _ _ l0 r20_0 _ (Kd.C_below HR0.out HB.out) HC0.out E20.out).mono ?_; rintro e W4 ⟨v20, rfl, ho, hb⟩; refine ⟨_, rfl, ?_⟩; have nOn_ := Kd.R_lower (Kd.R_bound ho) HB.out.size; have hle_ := HT.out; have nO17_ := Aside0.mk (Kd.R_below HO17.out hb); have nO18_ := Aside0.mk (Kd.S_below HO18.out hb); have nHB_ := Aside0.mk (below_step HB.out hb); have nHT_ := Aside0.mk (Nat.le_trans HT.out hb.size); clear HO17 HO18 HB HT; have HO17 := nO17_; have HO18 := nO18_; have HB := nHB_; have HT := nHT_; clear nO17_ nO18_ nHB_ nHT_; obtain ⟨T3, hT3⟩ : ∃ n_, n_ = W4.heap.size := ⟨_, rfl⟩; have ORD3 := Aside0.mk (show T2 ≤ T3 from by rw [hT3]; exact HT.out); clear HT; have HT := Aside0.mk (Nat.le_of_eq hT3); have HO20 := Aside0.mk (Kd.R_mono (ok' := fun k_ => T2 ≤ k_ ∧ k_ < T3) nOn_ (fun k_ hk_ => ⟨Nat.le_trans hle_ hk_.2.1, by rw [hT3]; exact hk_.2.2.1⟩)); clear nOn_ hle_ ho hT3; obtain ⟨Ao20, co20, eo20⟩ := Kd.R_slice HO20.out; subst eo20; clear hb)
    | ((with_reducible refine gate_dst (N := 22) rfl ?_); refine goesL_ (some 22) rfl rfl Try.func34 (by kernel_rfl) rfl #[.slice Ao20 r20_0.length co20] rfl (by (try simp only [List.map_toArray, List.map_cons, List.map_nil]); first | done | rfl | (simp only [List.length_drop, List.length_take]; rfl)) ?_; refine (impl_Rows.calls k _ _ r20_0 r22_0 _ (Kd.R_reads' HO20.out).2.2 (Kd.R_reads' HO20.out).2.1 E22.out).mono ?_; rintro e W5 ⟨v22, rfl, ho, hb⟩; refine ⟨_, rfl, ?_⟩; have nOn_ := Kd.S_lower (Kd.S_bound ho) HB.out.size; have hle_ := HT.out; have nO17_ := Aside0.mk (Kd.R_below HO17.out hb); have nO18_ := Aside0.mk (Kd.S_below HO18.out hb); have nO20_ := Aside0.mk (Kd.R_below HO20.out hb); have nHB_ := Aside0.mk (below_step HB.out hb); have nHT_ := Aside0.mk (Nat.le_trans HT.out hb.size); clear HO17 HO18 HO20 HB HT; have HO17 := nO17_; have HO18 := nO18_; have HO20 := nO20_; have HB := nHB_; have HT := nHT_; clear nO17_ nO18_ nO20_ nHB_ nHT_; obtain ⟨T4, hT4⟩ : ∃ n_, n_ = W5.heap.size := ⟨_, rfl⟩; have ORD4 := Aside0.mk (show T3 ≤ T4 from by rw [hT4]; exact HT.out); clear HT; have HT := Aside0.mk (Nat.le_of_eq hT4); have HO22 := Aside0.mk (Kd.S_mono (ok' := fun k_ => T3 ≤ k_ ∧ k_ < T4) nOn_ (fun k_ hk_ => ⟨Nat.le_trans hle_ hk_.2.1, by rw [hT4]; exact hk_.2.2.1⟩)); clear nOn_ hle_ ho hT4; obtain ⟨Ao22, co22, eo22⟩ := Kd.S_slice HO22.out; subst eo22; clear hb)
    | ((with_reducible refine gate_dst (N := 25) rfl ?_); refine goesL_ (some 25) rfl rfl Try.func35 (by kernel_rfl) rfl #[.slice Ao22 r22_0.length co22, .slice Ao18 r18_0.length co18] rfl (by (try simp only [List.map_toArray, List.map_cons, List.map_nil]); first | done | rfl | (simp only [List.length_drop, List.length_take]; rfl)) ?_; refine (laws_eqEntrySS.calls k _ _ r22_0 _ _ r18_0 true _ (Kd.S_reads' HO22.out).2.2 (Kd.S_reads' HO22.out).2.1 (Kd.S_reads' HO18.out).2.2 (Kd.S_reads' HO18.out).2.1 E25.out).mono ?_; rintro e W6 ⟨rfl, hb⟩; refine ⟨_, rfl, ?_⟩; have nO17_ := Aside0.mk (Kd.R_below HO17.out hb); have nO18_ := Aside0.mk (Kd.S_below HO18.out hb); have nO20_ := Aside0.mk (Kd.R_below HO20.out hb); have nO22_ := Aside0.mk (Kd.S_below HO22.out hb); have nHB_ := Aside0.mk (below_step HB.out hb); have nHT_ := Aside0.mk (Nat.le_trans HT.out hb.size); clear HO17 HO18 HO20 HO22 HB HT; have HO17 := nO17_; have HO18 := nO18_; have HO20 := nO20_; have HO22 := nO22_; have HB := nHB_; have HT := nHT_; clear nO17_ nO18_ nO20_ nO22_ nHB_ nHT_; clear hb)
    | ((with_reducible refine gate_dst (N := 29) rfl ?_); refine goesL_ (some 29) rfl rfl Try.func33 (by kernel_rfl) rfl #[.slice A0 l0.length c0] rfl (by (try simp only [List.map_toArray, List.map_cons, List.map_nil]); first | done | rfl | (simp only [List.length_drop, List.length_take]; rfl)) ?_; refine (laws_toEntryS.calls k _ _ l0 r29_0 _ (Kd.C_below HR0.out HB.out) HC0.out E29.out).mono ?_; rintro e W7 ⟨v29, rfl, ho, hb⟩; refine ⟨_, rfl, ?_⟩; have nOn_ := Kd.R_lower (Kd.R_bound ho) HB.out.size; have hle_ := HT.out; have nO17_ := Aside0.mk (Kd.R_below HO17.out hb); have nO18_ := Aside0.mk (Kd.S_below HO18.out hb); have nO20_ := Aside0.mk (Kd.R_below HO20.out hb); have nO22_ := Aside0.mk (Kd.S_below HO22.out hb); have nHB_ := Aside0.mk (below_step HB.out hb); have nHT_ := Aside0.mk (Nat.le_trans HT.out hb.size); clear HO17 HO18 HO20 HO22 HB HT; have HO17 := nO17_; have HO18 := nO18_; have HO20 := nO20_; have HO22 := nO22_; have HB := nHB_; have HT := nHT_; clear nO17_ nO18_ nO20_ nO22_ nHB_ nHT_; obtain ⟨T5, hT5⟩ : ∃ n_, n_ = W7.heap.size := ⟨_, rfl⟩; have ORD5 := Aside0.mk (show T4 ≤ T5 from by rw [hT5]; exact HT.out); clear HT; have HT := Aside0.mk (Nat.le_of_eq hT5); have HO29 := Aside0.mk (Kd.R_mono (ok' := fun k_ => T4 ≤ k_ ∧ k_ < T5) nOn_ (fun k_ hk_ => ⟨Nat.le_trans hle_ hk_.2.1, by rw [hT5]; exact hk_.2.2.1⟩)); clear nOn_ hle_ ho hT5; obtain ⟨Ao29, co29, eo29⟩ := Kd.R_slice HO29.out; subst eo29; clear hb)
    | ((with_reducible refine gate_dst (N := 30) rfl ?_); refine goesL_ (some 30) rfl rfl Try.func36 (by kernel_rfl) rfl #[.slice Ao20 r20_0.length co20, .slice Ao29 r29_0.length co29] rfl (by (try simp only [List.map_toArray, List.map_cons, List.map_nil]); first | done | rfl | (simp only [List.length_drop, List.length_take]; rfl)) ?_; refine (laws_eqEntryS.calls k _ _ r20_0 _ _ r29_0 true _ (Kd.R_reads' HO20.out).2.2 (Kd.R_reads' HO20.out).2.1 (Kd.R_reads' HO29.out).2.2 (Kd.R_reads' HO29.out).2.1 E30.out).mono ?_; rintro e W8 ⟨rfl, hb⟩; refine ⟨_, rfl, ?_⟩; have nO17_ := Aside0.mk (Kd.R_below HO17.out hb); have nO18_ := Aside0.mk (Kd.S_below HO18.out hb); have nO20_ := Aside0.mk (Kd.R_below HO20.out hb); have nO22_ := Aside0.mk (Kd.S_below HO22.out hb); have nO29_ := Aside0.mk (Kd.R_below HO29.out hb); have nHB_ := Aside0.mk (below_step HB.out hb); have nHT_ := Aside0.mk (Nat.le_trans HT.out hb.size); clear HO17 HO18 HO20 HO22 HO29 HB HT; have HO17 := nO17_; have HO18 := nO18_; have HO20 := nO20_; have HO22 := nO22_; have HO29 := nO29_; have HB := nHB_; have HT := nHT_; clear nO17_ nO18_ nO20_ nO22_ nO29_ nHB_ nHT_; clear hb)
    | ((with_reducible refine gate_dst (N := 34) rfl ?_); refine goesL_ (some 34) rfl rfl Try.func37 (by kernel_rfl) rfl #[.slice Ao20 r20_0.length co20, .int .i64 1] rfl (by (try simp only [List.map_toArray, List.map_cons, List.map_nil]); first | done | rfl | (simp only [List.length_drop, List.length_take]; rfl)) ?_; refine (laws_markEntryS.calls k (fun k_ => T2 ≤ k_ ∧ k_ < T3) _ r20_0 1 r34_0 r34_1 w _ HB.out HO20.out E34.out).mono ?_; rintro e W9 ⟨rfl, ho, hb, hk⟩; refine ⟨_, rfl, ?_⟩; have nO17_ := Aside0.mk (Kd.R_kept HO17.out hk (fun k_ h1_ h2_ => by have o1_ := ORD1.out; have o2_ := ORD2.out; have o3_ := ORD3.out; have o4_ := ORD4.out; have o5_ := ORD5.out; exact absurd h1_ (by omega))); have nO18_ := Aside0.mk (Kd.S_kept HO18.out hk (fun k_ h1_ h2_ => by have o1_ := ORD1.out; have o2_ := ORD2.out; have o3_ := ORD3.out; have o4_ := ORD4.out; have o5_ := ORD5.out; exact absurd h1_ (by omega))); have nO22_ := Aside0.mk (Kd.S_kept HO22.out hk (fun k_ h1_ h2_ => by have o1_ := ORD1.out; have o2_ := ORD2.out; have o3_ := ORD3.out; have o4_ := ORD4.out; have o5_ := ORD5.out; exact absurd h1_ (by omega))); have nO29_ := Aside0.mk (Kd.R_kept HO29.out hk (fun k_ h1_ h2_ => by have o1_ := ORD1.out; have o2_ := ORD2.out; have o3_ := ORD3.out; have o4_ := ORD4.out; have o5_ := ORD5.out; exact absurd h1_ (by omega))); have nHB_ := Aside0.mk hb; have nHT_ := Aside0.mk (Nat.le_trans HT.out hk.1); clear HO17 HO18 HO22 HO29 HB HT; have HO17 := nO17_; have HO18 := nO18_; have HO22 := nO22_; have HO29 := nO29_; have HB := nHB_; have HT := nHT_; clear nO17_ nO18_ nO22_ nO29_ nHB_ nHT_; have nO_ := Aside0.mk (Kd.R_mono (ok' := fun _ => True) ho (fun _ _ => trivial)); clear HO20; have HO20 := nO_; have LN20 := Aside0.mk (show r20_0.length = r34_1.length from (Kd.R_reads' HO20.out).1); clear nO_ ho hb hk)
    | ((with_reducible refine gate_dst (N := 40) rfl ?_); (try (refine gate_guard (by rfl) ?_; dsimp only)); refine goesL_ (some 40) rfl rfl Try.func35 (by kernel_rfl) rfl #[.slice Ao22 r22_0.length co22, .slice Ao18 r18_0.length co18] rfl (by (try simp only [List.map_toArray, List.map_cons, List.map_nil]); first | done | rfl | (simp only [List.length_drop, List.length_take]; rfl)) ?_; refine (laws_eqEntrySS.calls k _ _ r22_0 _ _ r18_0 true _ (Kd.S_reads' HO22.out).2.2 (Kd.S_reads' HO22.out).2.1 (Kd.S_reads' HO18.out).2.2 (Kd.S_reads' HO18.out).2.1 E40.out).mono ?_; rintro e W10 ⟨rfl, hb⟩; refine ⟨_, rfl, ?_⟩; have nO17_ := Aside0.mk (Kd.R_below HO17.out hb); have nO18_ := Aside0.mk (Kd.S_below HO18.out hb); have nO20_ := Aside0.mk (Kd.R_below HO20.out hb); have nO22_ := Aside0.mk (Kd.S_below HO22.out hb); have nO29_ := Aside0.mk (Kd.R_below HO29.out hb); have nHB_ := Aside0.mk (below_step HB.out hb); have nHT_ := Aside0.mk (Nat.le_trans HT.out hb.size); clear HO17 HO18 HO20 HO22 HO29 HB HT; have HO17 := nO17_; have HO18 := nO18_; have HO20 := nO20_; have HO22 := nO22_; have HO29 := nO29_; have HB := nHB_; have HT := nHT_; clear nO17_ nO18_ nO20_ nO22_ nO29_ nHB_ nHT_; clear hb)
    | ((with_reducible refine gate_dst (N := 45) rfl ?_); refine goesL_ (some 45) rfl rfl Try.func38 (by kernel_rfl) rfl #[.slice Ao22 r22_0.length co22, .int .i64 1] rfl (by (try simp only [List.map_toArray, List.map_cons, List.map_nil]); first | done | rfl | (simp only [List.length_drop, List.length_take]; rfl)) ?_; refine (laws_markEntrySS.calls k (fun k_ => T3 ≤ k_ ∧ k_ < T4) _ r22_0 1 r45_0 r45_1 w _ HB.out HO22.out E45.out).mono ?_; rintro e W11 ⟨rfl, ho, hb, hk⟩; refine ⟨_, rfl, ?_⟩; have nO17_ := Aside0.mk (Kd.R_kept HO17.out hk (fun k_ h1_ h2_ => by have o1_ := ORD1.out; have o2_ := ORD2.out; have o3_ := ORD3.out; have o4_ := ORD4.out; have o5_ := ORD5.out; exact absurd h1_ (by omega))); have nO18_ := Aside0.mk (Kd.S_kept HO18.out hk (fun k_ h1_ h2_ => by have o1_ := ORD1.out; have o2_ := ORD2.out; have o3_ := ORD3.out; have o4_ := ORD4.out; have o5_ := ORD5.out; exact absurd h1_ (by omega))); have nO29_ := Aside0.mk (Kd.R_kept HO29.out hk (fun k_ h1_ h2_ => by have o1_ := ORD1.out; have o2_ := ORD2.out; have o3_ := ORD3.out; have o4_ := ORD4.out; have o5_ := ORD5.out; exact absurd h1_ (by omega))); have nHB_ := Aside0.mk hb; have nHT_ := Aside0.mk (Nat.le_trans HT.out hk.1); clear HO17 HO18 HO29 HB HT HO20 LN20; have HO17 := nO17_; have HO18 := nO18_; have HO29 := nO29_; have HB := nHB_; have HT := nHT_; clear nO17_ nO18_ nO29_ nHB_ nHT_; have nO_ := Aside0.mk (Kd.S_mono (ok' := fun _ => True) ho (fun _ _ => trivial)); clear HO22; have HO22 := nO_; have LN22 := Aside0.mk (show r22_0.length = r45_1.length from (Kd.S_reads' HO22.out).1); clear nO_ ho hb hk)
    | ((with_reducible refine gate_dst (N := 48) rfl ?_); refine goesL_ (some 48) rfl rfl Try.func39 (by kernel_rfl) rfl #[.slice Ao22 r22_0.length co22, .int .i64 1] rfl (by (try simp only [List.map_toArray, List.map_cons, List.map_nil]); first | done | rfl | (simp only [List.length_drop, List.length_take]; rfl)) ?_; refine calls_args (by rw [LN22.out]) ((laws_heldEntrySS.calls k Ao22 co22 r45_1 1 r48_0 _ (Kd.S_reads' HO22.out).2.2 (by rw [← LN22.out]; exact (Kd.S_reads' HO22.out).2.1) E48.out).mono ?_); rintro e W12 ⟨rfl, hd⟩; refine ⟨_, rfl, ?_⟩; have hb := Drawn0.below hd; clear hd; have nO17_ := Aside0.mk (Kd.R_below HO17.out hb); have nO18_ := Aside0.mk (Kd.S_below HO18.out hb); have nO22_ := Aside0.mk (Kd.S_below HO22.out hb); have nO29_ := Aside0.mk (Kd.R_below HO29.out hb); have nHB_ := Aside0.mk (below_step HB.out hb); have nHT_ := Aside0.mk (Nat.le_trans HT.out hb.size); clear HO17 HO18 HO22 HO29 HB HT; have HO17 := nO17_; have HO18 := nO18_; have HO22 := nO22_; have HO29 := nO29_; have HB := nHB_; have HT := nHT_; clear nO17_ nO18_ nO22_ nO29_ nHB_ nHT_; clear hb)
    | ((with_reducible refine gate_dst (N := 55) rfl ?_); refine goesL_ (some 55) rfl rfl Try.func33 (by kernel_rfl) rfl #[.slice A0 l0.length c0] rfl (by (try simp only [List.map_toArray, List.map_cons, List.map_nil]); first | done | rfl | (simp only [List.length_drop, List.length_take]; rfl)) ?_; refine (laws_toEntryS.calls k _ _ l0 r55_0 _ (Kd.C_below HR0.out HB.out) HC0.out E55.out).mono ?_; rintro e W13 ⟨v55, rfl, ho, hb⟩; refine ⟨_, rfl, ?_⟩; have nOn_ := Kd.R_lower (Kd.R_bound ho) HB.out.size; have hle_ := HT.out; have nO17_ := Aside0.mk (Kd.R_below HO17.out hb); have nO18_ := Aside0.mk (Kd.S_below HO18.out hb); have nO22_ := Aside0.mk (Kd.S_below HO22.out hb); have nO29_ := Aside0.mk (Kd.R_below HO29.out hb); have nHB_ := Aside0.mk (below_step HB.out hb); have nHT_ := Aside0.mk (Nat.le_trans HT.out hb.size); clear HO17 HO18 HO22 HO29 HB HT; have HO17 := nO17_; have HO18 := nO18_; have HO22 := nO22_; have HO29 := nO29_; have HB := nHB_; have HT := nHT_; clear nO17_ nO18_ nO22_ nO29_ nHB_ nHT_; obtain ⟨T6, hT6⟩ : ∃ n_, n_ = W13.heap.size := ⟨_, rfl⟩; have ORD6 := Aside0.mk (show T5 ≤ T6 from by rw [hT6]; exact HT.out); clear HT; have HT := Aside0.mk (Nat.le_of_eq hT6); have HO55 := Aside0.mk (Kd.R_mono (ok' := fun k_ => T5 ≤ k_ ∧ k_ < T6) nOn_ (fun k_ hk_ => ⟨Nat.le_trans hle_ hk_.2.1, by rw [hT6]; exact hk_.2.2.1⟩)); clear nOn_ hle_ ho hT6; obtain ⟨Ao55, co55, eo55⟩ := Kd.R_slice HO55.out; subst eo55; clear hb)
    | ((with_reducible refine gate_dst (N := 56) rfl ?_); refine goesL_ (some 56) rfl rfl Try.func34 (by kernel_rfl) rfl #[.slice Ao55 r55_0.length co55] rfl (by (try simp only [List.map_toArray, List.map_cons, List.map_nil]); first | done | rfl | (simp only [List.length_drop, List.length_take]; rfl)) ?_; refine (impl_Rows.calls k _ _ r55_0 r56_0 _ (Kd.R_reads' HO55.out).2.2 (Kd.R_reads' HO55.out).2.1 E56.out).mono ?_; rintro e W14 ⟨v56, rfl, ho, hb⟩; refine ⟨_, rfl, ?_⟩; have nOn_ := Kd.S_lower (Kd.S_bound ho) HB.out.size; have hle_ := HT.out; have nO17_ := Aside0.mk (Kd.R_below HO17.out hb); have nO18_ := Aside0.mk (Kd.S_below HO18.out hb); have nO22_ := Aside0.mk (Kd.S_below HO22.out hb); have nO29_ := Aside0.mk (Kd.R_below HO29.out hb); have nO55_ := Aside0.mk (Kd.R_below HO55.out hb); have nHB_ := Aside0.mk (below_step HB.out hb); have nHT_ := Aside0.mk (Nat.le_trans HT.out hb.size); clear HO17 HO18 HO22 HO29 HO55 HB HT; have HO17 := nO17_; have HO18 := nO18_; have HO22 := nO22_; have HO29 := nO29_; have HO55 := nO55_; have HB := nHB_; have HT := nHT_; clear nO17_ nO18_ nO22_ nO29_ nO55_ nHB_ nHT_; obtain ⟨T7, hT7⟩ : ∃ n_, n_ = W14.heap.size := ⟨_, rfl⟩; have ORD7 := Aside0.mk (show T6 ≤ T7 from by rw [hT7]; exact HT.out); clear HT; have HT := Aside0.mk (Nat.le_of_eq hT7); have HO56 := Aside0.mk (Kd.S_mono (ok' := fun k_ => T6 ≤ k_ ∧ k_ < T7) nOn_ (fun k_ hk_ => ⟨Nat.le_trans hle_ hk_.2.1, by rw [hT7]; exact hk_.2.2.1⟩)); clear nOn_ hle_ ho hT7; obtain ⟨Ao56, co56, eo56⟩ := Kd.S_slice HO56.out; subst eo56; clear hb)
    | ((with_reducible refine gate_dst (N := 59) rfl ?_); refine goesL_ (some 59) rfl rfl Try.func35 (by kernel_rfl) rfl #[.slice Ao56 r56_0.length co56, .slice Ao18 r18_0.length co18] rfl (by (try simp only [List.map_toArray, List.map_cons, List.map_nil]); first | done | rfl | (simp only [List.length_drop, List.length_take]; rfl)) ?_; refine (laws_eqEntrySS.calls k _ _ r56_0 _ _ r18_0 true _ (Kd.S_reads' HO56.out).2.2 (Kd.S_reads' HO56.out).2.1 (Kd.S_reads' HO18.out).2.2 (Kd.S_reads' HO18.out).2.1 E59.out).mono ?_; rintro e W15 ⟨rfl, hb⟩; refine ⟨_, rfl, ?_⟩; have nO17_ := Aside0.mk (Kd.R_below HO17.out hb); have nO18_ := Aside0.mk (Kd.S_below HO18.out hb); have nO22_ := Aside0.mk (Kd.S_below HO22.out hb); have nO29_ := Aside0.mk (Kd.R_below HO29.out hb); have nO55_ := Aside0.mk (Kd.R_below HO55.out hb); have nO56_ := Aside0.mk (Kd.S_below HO56.out hb); have nHB_ := Aside0.mk (below_step HB.out hb); have nHT_ := Aside0.mk (Nat.le_trans HT.out hb.size); clear HO17 HO18 HO22 HO29 HO55 HO56 HB HT; have HO17 := nO17_; have HO18 := nO18_; have HO22 := nO22_; have HO29 := nO29_; have HO55 := nO55_; have HO56 := nO56_; have HB := nHB_; have HT := nHT_; clear nO17_ nO18_ nO22_ nO29_ nO55_ nO56_ nHB_ nHT_; clear hb)
    | ((with_reducible refine gate_dst (N := 63) rfl ?_); refine goesL_ (some 63) rfl rfl Try.func39 (by kernel_rfl) rfl #[.slice Ao22 r22_0.length co22, .int .i64 1] rfl (by (try simp only [List.map_toArray, List.map_cons, List.map_nil]); first | done | rfl | (simp only [List.length_drop, List.length_take]; rfl)) ?_; refine calls_args (by rw [LN22.out]) ((laws_heldEntrySS.calls k Ao22 co22 r45_1 1 r63_0 _ (Kd.S_reads' HO22.out).2.2 (by rw [← LN22.out]; exact (Kd.S_reads' HO22.out).2.1) E63.out).mono ?_); rintro e W16 ⟨rfl, hd⟩; refine ⟨_, rfl, ?_⟩; have hb := Drawn0.below hd; clear hd; have nO17_ := Aside0.mk (Kd.R_below HO17.out hb); have nO18_ := Aside0.mk (Kd.S_below HO18.out hb); have nO22_ := Aside0.mk (Kd.S_below HO22.out hb); have nO29_ := Aside0.mk (Kd.R_below HO29.out hb); have nO55_ := Aside0.mk (Kd.R_below HO55.out hb); have nO56_ := Aside0.mk (Kd.S_below HO56.out hb); have nHB_ := Aside0.mk (below_step HB.out hb); have nHT_ := Aside0.mk (Nat.le_trans HT.out hb.size); clear HO17 HO18 HO22 HO29 HO55 HO56 HB HT; have HO17 := nO17_; have HO18 := nO18_; have HO22 := nO22_; have HO29 := nO29_; have HO55 := nO55_; have HO56 := nO56_; have HB := nHB_; have HT := nHT_; clear nO17_ nO18_ nO22_ nO29_ nO55_ nO56_ nHB_ nHT_; clear hb))
  go_ret
  exact ⟨rfl, HB.out⟩

end Go.Proofs.Ythenmlaleobapaa.All
