/- The law FnExactAlloc as a chain over the contracts of what it calls. No condition. -/
import Derived.Test.YtngjaajcdbodeaaAllx35
import Derived.Test.YtngjaajcdbodeaaAllx44
import Derived.Test.YtngjaajcdbodeaaAllx55
import Derived.Test.YtngjaajcdbodeaaAllx62
import Derived.Test.YtngjaajcdbodeaaAllx64
import Derived.Test.YtngjaajcdbodeaaAllx66
import Derived.Test.YtngjaajcdbodeaaHMarkBook
import Derived.Test.YtngjaajcdbodeaaLawKit
namespace Go.Proofs.Ytngjaajcdbodeaa.All
open Go.RowKit Go.Proofs.YtngjaajcdbodeaaW.PrintWords Go.Proofs.YtngjaajcdbodeaaW.PrintLast Go.Proofs.YtngjaajcdbodeaaW.PrintMore
set_option linter.unusedVariables false
set_option linter.unusedSimpArgs false

/-! ### laws_FnExactAlloc -/
def laws_FnExactAlloc.f (k : Nat) (a0_0 : Int) (l0_1 : List (S118)) : Option Bool := ((laws_szBook.f k a0_0 l0_1 1048576).bind fun r16_0 => (if r16_0 < 0 then some true else ((laws_toBook.f k a0_0 l0_1).bind fun (r21_0, r21_1) => ((spec_Alloc.f k r21_0 r21_1).bind fun (r22_0, r22_1, r22_2) => ((laws_toBook.f k a0_0 l0_1).bind fun (r26_0, r26_1) => ((impl_Alloc.f k r26_0 r26_1).bind fun (r29_0, r29_1, r29_2) => ((laws_eqBook.f k r29_0 r29_1 r22_0 r22_1).bind fun r34_0 => (if r34_0 = true then (if r29_2 = r22_2 then ((laws_toBook.f k a0_0 l0_1).bind fun (r43_0, r43_1) => ((laws_eqBook.f k r26_0 r26_1 r43_0 r43_1).bind fun r44_0 => (if r44_0 = true then ((laws_markBook.f k r26_0 r26_1 1).bind fun (r48_0, r48_1) => ((laws_eqBook.f k r29_0 r29_1 r22_0 r22_1).bind fun r54_0 => (if ¬ r48_0 < 0 then (if r54_0 = true then (if r29_2 = r22_2 then ((laws_markBook.f k r29_0 r29_1 1).bind fun (r64_0, r64_1) => ((laws_heldBook.f k r29_0 r64_1 1).bind fun r67_0 => (if ¬ r67_0 < 0 then (if r67_0 = r64_0 then ((laws_toBook.f k a0_0 l0_1).bind fun (r75_0, r75_1) => ((impl_Alloc.f k r75_0 r75_1).bind fun (r76_0, r76_1, r76_2) => ((laws_eqBook.f k r76_0 r76_1 r22_0 r22_1).bind fun r81_0 => (if r81_0 = true then (if r76_2 = r22_2 then ((laws_heldBook.f k r29_0 r64_1 1).bind fun r90_0 => (if ¬ r90_0 < 0 then (if r90_0 = r64_0 then some true else none) else none)) else none) else none)))) else none) else none))) else none) else none) else none))) else none))) else none) else none))))))))
set_option maxHeartbeats 4000000 in
set_option maxRecDepth 100000 in
theorem laws_FnExactAlloc.calls (k : Nat) (a0_0 : Int) (A0_1 : Option Addr) (c0_1 : Nat) (l0_1 : List (S118)) (r : Bool) (w : World) (hr0_1 : Kd.C k118 w A0_1 l0_1.length l0_1) (hc0_1 : l0_1.length ≤ c0_1) (h : laws_FnExactAlloc.f k a0_0 l0_1 = some r) :
    Calls Try.prog 5 #[.agg #[.int .i64 a0_0, .slice A0_1 l0_1.length c0_1]] w fun e w' => e = .returned (.bool r) ∧ Below w.heap.size w w' := by
  have hu41 := Try.underlying41
  have hu49 := Try.underlying49
  have HR0_1 := Aside0.mk hr0_1
  have HC0_1 := Aside0.mk hc0_1
  clear hr0_1 hc0_1
  obtain ⟨T0, hT0⟩ : ∃ n_, n_ = w.heap.size := ⟨_, rfl⟩
  have HT := Aside0.mk (Nat.le_of_eq hT0)
  have TB0 := Aside0.mk (show w.heap.size ≤ T0 from Nat.le_of_eq hT0.symm)
  clear hT0
  have HB := Aside0.mk (Below.refl w.heap.size w)
  have H := h
  clear h
  unfold laws_FnExactAlloc.f at H
  obtain ⟨r16_0, E16_, H⟩ := Option.bind_eq_some_iff.mp H
  have E16 := Aside0.mk E16_
  clear E16_
  by_cases c18 : r16_0 < 0
  · rw [if_pos c18] at H
    have c18b : decide (r16_0 < 0) = true := decide_eq_true c18
    clear c18
    obtain rfl := Option.some.inj H
    go_enter Try.func5, Try.ntmps5
    go_wp2_with (first
      | ((with_reducible refine gate_dst (N := 1) rfl ?_); refine box_event ?hg (N := 1) ?hd (cs := #[.int .i64 a0_0, .slice A0_1 l0_1.length c0_1]) (t := 41) ?hr ?_; (case hd => rfl); (case hg => rfl); (case hr => first | (go_simp; done) | (go_simp; rfl)); intro g1 hg W1 hbox hb; have hle_ : T0 ≤ g1 := (by rw [hg]; exact HT.out); have hlt_ : g1 < W1.heap.size := blk_lt hbox; have nHB_ := Aside0.mk (below_step HB.out hb); have nHT_ := Aside0.mk (Nat.le_trans HT.out hb.size); clear HB HT; have HB := nHB_; have HT := nHT_; clear nHB_ nHT_; obtain ⟨T1, hT1⟩ : ∃ n_, n_ = W1.heap.size := ⟨_, rfl⟩; have ORD1 := Aside0.mk (show T0 ≤ T1 from by rw [hT1]; exact HT.out); clear HT; have HT := Aside0.mk (Nat.le_of_eq hT1); have BK1 := Aside0.mk hbox; have GB1 := Aside0.mk (show T0 ≤ g1 ∧ g1 < T1 from ⟨hle_, by rw [hT1]; exact hlt_⟩); clear hb hg hbox hle_ hlt_ hT1; have hk1_0 : W1.cell? ⟨g1, 0, none⟩ = some (.int .i64 a0_0) := (blk_cell BK1.out 0).trans rfl; have hk1_1 : W1.cell? ⟨g1, 1, none⟩ = some (.slice A0_1 l0_1.length c0_1) := (blk_cell BK1.out 1).trans rfl)
      | ((with_reducible refine gate_dst (N := 16) rfl ?_); refine goesL_ (some 16) rfl rfl Try.func23 (by kernel_rfl) rfl #[.agg #[.int .i64 a0_0, .slice A0_1 l0_1.length c0_1], .int .i64 1048576] rfl (by (try simp only [List.map_toArray, List.map_cons, List.map_nil]); first | done | rfl | (simp only [List.length_drop, List.length_take]; rfl)) ?_; refine (laws_szBook.calls k a0_0 _ _ l0_1 1048576 r16_0 _ (Kd.C_below HR0_1.out HB.out) HC0_1.out E16.out).mono ?_; rintro e W2 ⟨rfl, hb⟩; refine ⟨_, rfl, ?_⟩; clear hk1_0 hk1_1; have nB1_ := Aside0.mk (blk_below BK1.out hb); have nHB_ := Aside0.mk (below_step HB.out hb); have nHT_ := Aside0.mk (Nat.le_trans HT.out hb.size); clear BK1 HB HT; have BK1 := nB1_; have HB := nHB_; have HT := nHT_; clear nB1_ nHB_ nHT_; clear hb; have hk1_0 : W2.cell? ⟨g1, 0, none⟩ = some (.int .i64 a0_0) := (blk_cell BK1.out 0).trans rfl; have hk1_1 : W2.cell? ⟨g1, 1, none⟩ = some (.slice A0_1 l0_1.length c0_1) := (blk_cell BK1.out 1).trans rfl))
    go_ret
    exact ⟨rfl, HB.out⟩
  rw [if_neg c18] at H
  have c18b : decide (r16_0 < 0) = false := decide_eq_false c18
  clear c18
  obtain ⟨⟨r21_0, r21_1⟩, E21_, H⟩ := Option.bind_eq_some_iff.mp H
  have E21 := Aside0.mk E21_
  clear E21_
  try dsimp only at H
  obtain ⟨⟨r22_0, r22_1, r22_2⟩, E22_, H⟩ := Option.bind_eq_some_iff.mp H
  have E22 := Aside0.mk E22_
  clear E22_
  try dsimp only at H
  obtain ⟨⟨r26_0, r26_1⟩, E26_, H⟩ := Option.bind_eq_some_iff.mp H
  have E26 := Aside0.mk E26_
  clear E26_
  try dsimp only at H
  obtain ⟨⟨r29_0, r29_1, r29_2⟩, E29_, H⟩ := Option.bind_eq_some_iff.mp H
  have E29 := Aside0.mk E29_
  clear E29_
  try dsimp only at H
  obtain ⟨r34_0, E34_, H⟩ := Option.bind_eq_some_iff.mp H
  have E34 := Aside0.mk E34_
  clear E34_
  by_cases F40_1 : r34_0 = true
  rotate_left
  · rw [if_neg F40_1] at H
    exact absurd H (by simp)
  rw [if_pos F40_1] at H
  subst F40_1
  by_cases F40_2 : r29_2 = r22_2
  rotate_left
  · rw [if_neg F40_2] at H
    exact absurd H (by simp)
  rw [if_pos F40_2] at H
  have F40_2a : (r29_2 != r22_2) = false := by simp [F40_2]
  have F40_2b : (r29_2 == r22_2) = true := by simp [F40_2]
  have F40_2c : decide (r29_2 = r22_2) = true := by simp [F40_2]
  clear F40_2
  obtain ⟨⟨r43_0, r43_1⟩, E43_, H⟩ := Option.bind_eq_some_iff.mp H
  have E43 := Aside0.mk E43_
  clear E43_
  try dsimp only at H
  obtain ⟨r44_0, E44_, H⟩ := Option.bind_eq_some_iff.mp H
  have E44 := Aside0.mk E44_
  clear E44_
  by_cases F45_3 : r44_0 = true
  rotate_left
  · rw [if_neg F45_3] at H
    exact absurd H (by simp)
  rw [if_pos F45_3] at H
  subst F45_3
  obtain ⟨⟨r48_0, r48_1⟩, E48_, H⟩ := Option.bind_eq_some_iff.mp H
  have E48 := Aside0.mk E48_
  clear E48_
  try dsimp only at H
  obtain ⟨r54_0, E54_, H⟩ := Option.bind_eq_some_iff.mp H
  have E54 := Aside0.mk E54_
  clear E54_
  by_cases F61_4 : ¬ r48_0 < 0
  rotate_left
  · rw [if_neg F61_4] at H
    exact absurd H (by simp)
  rw [if_pos F61_4] at H
  have F61_4b : decide (r48_0 < 0) = false := decide_eq_false F61_4
  clear F61_4
  by_cases F61_5 : r54_0 = true
  rotate_left
  · rw [if_neg F61_5] at H
    exact absurd H (by simp)
  rw [if_pos F61_5] at H
  subst F61_5
  by_cases F61_6 : r29_2 = r22_2
  rotate_left
  · rw [if_neg F61_6] at H
    exact absurd H (by simp)
  rw [if_pos F61_6] at H
  have F61_6a : (r29_2 != r22_2) = false := by simp [F61_6]
  have F61_6b : (r29_2 == r22_2) = true := by simp [F61_6]
  have F61_6c : decide (r29_2 = r22_2) = true := by simp [F61_6]
  clear F61_6
  obtain ⟨⟨r64_0, r64_1⟩, E64_, H⟩ := Option.bind_eq_some_iff.mp H
  have E64 := Aside0.mk E64_
  clear E64_
  try dsimp only at H
  obtain ⟨r67_0, E67_, H⟩ := Option.bind_eq_some_iff.mp H
  have E67 := Aside0.mk E67_
  clear E67_
  by_cases F69_7 : ¬ r67_0 < 0
  rotate_left
  · rw [if_neg F69_7] at H
    exact absurd H (by simp)
  rw [if_pos F69_7] at H
  have F69_7b : decide (r67_0 < 0) = false := decide_eq_false F69_7
  clear F69_7
  by_cases F72_8 : r67_0 = r64_0
  rotate_left
  · rw [if_neg F72_8] at H
    exact absurd H (by simp)
  rw [if_pos F72_8] at H
  have F72_8a : (r67_0 != r64_0) = false := by simp [F72_8]
  have F72_8b : (r67_0 == r64_0) = true := by simp [F72_8]
  have F72_8c : decide (r67_0 = r64_0) = true := by simp [F72_8]
  clear F72_8
  obtain ⟨⟨r75_0, r75_1⟩, E75_, H⟩ := Option.bind_eq_some_iff.mp H
  have E75 := Aside0.mk E75_
  clear E75_
  try dsimp only at H
  obtain ⟨⟨r76_0, r76_1, r76_2⟩, E76_, H⟩ := Option.bind_eq_some_iff.mp H
  have E76 := Aside0.mk E76_
  clear E76_
  try dsimp only at H
  obtain ⟨r81_0, E81_, H⟩ := Option.bind_eq_some_iff.mp H
  have E81 := Aside0.mk E81_
  clear E81_
  by_cases F87_9 : r81_0 = true
  rotate_left
  · rw [if_neg F87_9] at H
    exact absurd H (by simp)
  rw [if_pos F87_9] at H
  subst F87_9
  by_cases F87_10 : r76_2 = r22_2
  rotate_left
  · rw [if_neg F87_10] at H
    exact absurd H (by simp)
  rw [if_pos F87_10] at H
  have F87_10a : (r76_2 != r22_2) = false := by simp [F87_10]
  have F87_10b : (r76_2 == r22_2) = true := by simp [F87_10]
  have F87_10c : decide (r76_2 = r22_2) = true := by simp [F87_10]
  clear F87_10
  obtain ⟨r90_0, E90_, H⟩ := Option.bind_eq_some_iff.mp H
  have E90 := Aside0.mk E90_
  clear E90_
  by_cases F92_11 : ¬ r90_0 < 0
  rotate_left
  · rw [if_neg F92_11] at H
    exact absurd H (by simp)
  rw [if_pos F92_11] at H
  have F92_11b : decide (r90_0 < 0) = false := decide_eq_false F92_11
  clear F92_11
  by_cases F95_12 : r90_0 = r64_0
  rotate_left
  · rw [if_neg F95_12] at H
    exact absurd H (by simp)
  rw [if_pos F95_12] at H
  have F95_12a : (r90_0 != r64_0) = false := by simp [F95_12]
  have F95_12b : (r90_0 == r64_0) = true := by simp [F95_12]
  have F95_12c : decide (r90_0 = r64_0) = true := by simp [F95_12]
  clear F95_12
  obtain rfl := Option.some.inj H
  clear H
  go_enter Try.func5, Try.ntmps5
  go_wp2_with (first
    | ((with_reducible refine gate_dst (N := 1) rfl ?_); refine box_event ?hg (N := 1) ?hd (cs := #[.int .i64 a0_0, .slice A0_1 l0_1.length c0_1]) (t := 41) ?hr ?_; (case hd => rfl); (case hg => rfl); (case hr => first | (go_simp; done) | (go_simp; rfl)); intro g1 hg W1 hbox hb; have hle_ : T0 ≤ g1 := (by rw [hg]; exact HT.out); have hlt_ : g1 < W1.heap.size := blk_lt hbox; have nHB_ := Aside0.mk (below_step HB.out hb); have nHT_ := Aside0.mk (Nat.le_trans HT.out hb.size); clear HB HT; have HB := nHB_; have HT := nHT_; clear nHB_ nHT_; obtain ⟨T1, hT1⟩ : ∃ n_, n_ = W1.heap.size := ⟨_, rfl⟩; have ORD1 := Aside0.mk (show T0 ≤ T1 from by rw [hT1]; exact HT.out); clear HT; have HT := Aside0.mk (Nat.le_of_eq hT1); have BK1 := Aside0.mk hbox; have GB1 := Aside0.mk (show T0 ≤ g1 ∧ g1 < T1 from ⟨hle_, by rw [hT1]; exact hlt_⟩); clear hb hg hbox hle_ hlt_ hT1; have hk1_0 : W1.cell? ⟨g1, 0, none⟩ = some (.int .i64 a0_0) := (blk_cell BK1.out 0).trans rfl; have hk1_1 : W1.cell? ⟨g1, 1, none⟩ = some (.slice A0_1 l0_1.length c0_1) := (blk_cell BK1.out 1).trans rfl)
    | ((with_reducible refine gate_dst (N := 16) rfl ?_); refine goesL_ (some 16) rfl rfl Try.func23 (by kernel_rfl) rfl #[.agg #[.int .i64 a0_0, .slice A0_1 l0_1.length c0_1], .int .i64 1048576] rfl (by (try simp only [List.map_toArray, List.map_cons, List.map_nil]); first | done | rfl | (simp only [List.length_drop, List.length_take]; rfl)) ?_; refine (laws_szBook.calls k a0_0 _ _ l0_1 1048576 r16_0 _ (Kd.C_below HR0_1.out HB.out) HC0_1.out E16.out).mono ?_; rintro e W2 ⟨rfl, hb⟩; refine ⟨_, rfl, ?_⟩; clear hk1_0 hk1_1; have nB1_ := Aside0.mk (blk_below BK1.out hb); have nHB_ := Aside0.mk (below_step HB.out hb); have nHT_ := Aside0.mk (Nat.le_trans HT.out hb.size); clear BK1 HB HT; have BK1 := nB1_; have HB := nHB_; have HT := nHT_; clear nB1_ nHB_ nHT_; clear hb; have hk1_0 : W2.cell? ⟨g1, 0, none⟩ = some (.int .i64 a0_0) := (blk_cell BK1.out 0).trans rfl; have hk1_1 : W2.cell? ⟨g1, 1, none⟩ = some (.slice A0_1 l0_1.length c0_1) := (blk_cell BK1.out 1).trans rfl)
    | ((with_reducible refine gate_dst (N := 21) rfl ?_); refine goesL_ (some 21) rfl rfl Try.func26 (by kernel_rfl) rfl #[.agg #[.int .i64 a0_0, .slice A0_1 l0_1.length c0_1]] rfl (by (try simp only [List.map_toArray, List.map_cons, List.map_nil]); first | done | rfl | (simp only [List.length_drop, List.length_take]; rfl)) ?_; refine (laws_toBook.calls k a0_0 _ _ l0_1 r21_0 r21_1 _ (Kd.C_below HR0_1.out HB.out) HC0_1.out E21.out).mono ?_; rintro e W3 ⟨v21, rfl, ho, hb⟩; refine ⟨_, rfl, ?_⟩; clear hk1_0 hk1_1; have nOn_ := Kd.S_lower (Kd.S_bound ho) HB.out.size; have hle_ := HT.out; have nB1_ := Aside0.mk (blk_below BK1.out hb); have nHB_ := Aside0.mk (below_step HB.out hb); have nHT_ := Aside0.mk (Nat.le_trans HT.out hb.size); clear BK1 HB HT; have BK1 := nB1_; have HB := nHB_; have HT := nHT_; clear nB1_ nHB_ nHT_; obtain ⟨T2, hT2⟩ : ∃ n_, n_ = W3.heap.size := ⟨_, rfl⟩; have ORD2 := Aside0.mk (show T1 ≤ T2 from by rw [hT2]; exact HT.out); clear HT; have HT := Aside0.mk (Nat.le_of_eq hT2); have HO21 := Aside0.mk (Kd.S_mono (ok' := fun k_ => T1 ≤ k_ ∧ k_ < T2) nOn_ (fun k_ hk_ => ⟨Nat.le_trans hle_ hk_.2.1, by rw [hT2]; exact hk_.2.2.1⟩)); clear nOn_ hle_ ho hT2; obtain ⟨Ao21, co21, eo21⟩ := Kd.S_slice HO21.out; subst eo21; clear hb; have hk1_0 : W3.cell? ⟨g1, 0, none⟩ = some (.int .i64 a0_0) := (blk_cell BK1.out 0).trans rfl; have hk1_1 : W3.cell? ⟨g1, 1, none⟩ = some (.slice A0_1 l0_1.length c0_1) := (blk_cell BK1.out 1).trans rfl)
    | ((with_reducible refine gate_dst (N := 22) rfl ?_); refine goesL_ (some 22) rfl rfl Try.func34 (by kernel_rfl) rfl #[.agg #[.int .i64 r21_0, .slice Ao21 r21_1.length co21]] rfl (by (try simp only [List.map_toArray, List.map_cons, List.map_nil]); first | done | rfl | (simp only [List.length_drop, List.length_take]; rfl)) ?_; refine (spec_Alloc.calls k r21_0 _ _ r21_1 r22_0 r22_1 r22_2 _ (Kd.S_reads' HO21.out).2.2 (Kd.S_reads' HO21.out).2.1 E22.out).mono ?_; rintro e W4 ⟨v22, rfl, ho, hb⟩; refine ⟨_, rfl, ?_⟩; clear hk1_0 hk1_1; have nOn_ := Kd.S_lower (Kd.S_bound ho) HB.out.size; have hle_ := HT.out; have nB1_ := Aside0.mk (blk_below BK1.out hb); have nO21_ := Aside0.mk (Kd.S_below HO21.out hb); have nHB_ := Aside0.mk (below_step HB.out hb); have nHT_ := Aside0.mk (Nat.le_trans HT.out hb.size); clear BK1 HO21 HB HT; have BK1 := nB1_; have HO21 := nO21_; have HB := nHB_; have HT := nHT_; clear nB1_ nO21_ nHB_ nHT_; obtain ⟨T3, hT3⟩ : ∃ n_, n_ = W4.heap.size := ⟨_, rfl⟩; have ORD3 := Aside0.mk (show T2 ≤ T3 from by rw [hT3]; exact HT.out); clear HT; have HT := Aside0.mk (Nat.le_of_eq hT3); have HO22 := Aside0.mk (Kd.S_mono (ok' := fun k_ => T2 ≤ k_ ∧ k_ < T3) nOn_ (fun k_ hk_ => ⟨Nat.le_trans hle_ hk_.2.1, by rw [hT3]; exact hk_.2.2.1⟩)); clear nOn_ hle_ ho hT3; obtain ⟨Ao22, co22, eo22⟩ := Kd.S_slice HO22.out; subst eo22; clear hb; have hk1_0 : W4.cell? ⟨g1, 0, none⟩ = some (.int .i64 a0_0) := (blk_cell BK1.out 0).trans rfl; have hk1_1 : W4.cell? ⟨g1, 1, none⟩ = some (.slice A0_1 l0_1.length c0_1) := (blk_cell BK1.out 1).trans rfl)
    | ((with_reducible refine gate_dst (N := 4) rfl ?_); refine box_event ?hg (N := 4) ?hd (cs := #[.int .i64 0, .slice none 0 0]) (t := 49) ?hr ?_; (case hd => rfl); (case hg => rfl); (case hr => first | (go_simp; done) | (go_simp; rfl)); intro g4 hg W5 hbox hb; have hs4_0 : W5.cell? ⟨g4, 0, none⟩ = some (.int .i64 0) := (blk_cell hbox 0).trans rfl; have hf4_0 := blk_frozen hbox 0; have hs4_1 : W5.cell? ⟨g4, 1, none⟩ = some (.slice none 0 0) := (blk_cell hbox 1).trans rfl; have hf4_1 := blk_frozen hbox 1; have HG4 := Aside0.mk hg; have HX4 := Aside0.mk hbox; have HW4 := Aside0.mk hb; clear hg hbox hb)
    | ((with_reducible refine gate_store (t := 49) (p := 4) rfl ?_); refine store_event (t := 49) (p := 4) (v := ?vo4) (w1 := ((W5.setCell ⟨g4, 0, none⟩ (.int .i64 r22_0)).setCell ⟨g4, 1, none⟩ (.slice Ao22 r22_1.length co22))) ?hg ?ho ?hn ?hr ?_; (case ho => rfl); (case hg => rfl); (case hn => rfl); (case hr => first | (go_simp; done) | (go_simp; rfl)); intro W6 hw; have hb : Below W4.heap.size W4 W6 := (by rw [hw]; exact (below_set (below_set HW4.out (Nat.le_of_eq HG4.out.symm)) (Nat.le_of_eq HG4.out.symm))); have hbox : W6.heap[g4]? = some (.cells #[.int .i64 r22_0, .slice Ao22 r22_1.length co22] 49 (0, 0)) := (by rw [hw]; exact (blk_put (cs' := #[.int .i64 r22_0, .slice Ao22 r22_1.length co22]) (blk_put (cs' := #[.int .i64 r22_0, .slice none 0 0]) HX4.out 0 (.int .i64 r22_0) rfl) 1 (.slice Ao22 r22_1.length co22) rfl)); clear hw hs4_0 hf4_0 hs4_1 hf4_1; have hle_ : T3 ≤ g4 := (by rw [HG4.out]; exact HT.out); have hlt_ : g4 < W6.heap.size := blk_lt hbox; clear HG4 HX4 HW4; clear hk1_0 hk1_1; have nB1_ := Aside0.mk (blk_below BK1.out hb); have nO21_ := Aside0.mk (Kd.S_below HO21.out hb); have nO22_ := Aside0.mk (Kd.S_below HO22.out hb); have nHB_ := Aside0.mk (below_step HB.out hb); have nHT_ := Aside0.mk (Nat.le_trans HT.out hb.size); clear BK1 HO21 HO22 HB HT; have BK1 := nB1_; have HO21 := nO21_; have HO22 := nO22_; have HB := nHB_; have HT := nHT_; clear nB1_ nO21_ nO22_ nHB_ nHT_; obtain ⟨T4, hT4⟩ : ∃ n_, n_ = W6.heap.size := ⟨_, rfl⟩; have ORD4 := Aside0.mk (show T3 ≤ T4 from by rw [hT4]; exact HT.out); clear HT; have HT := Aside0.mk (Nat.le_of_eq hT4); have BK4 := Aside0.mk hbox; have GB4 := Aside0.mk (show T3 ≤ g4 ∧ g4 < T4 from ⟨hle_, by rw [hT4]; exact hlt_⟩); clear hb hbox hle_ hlt_ hT4; have hk1_0 : W6.cell? ⟨g1, 0, none⟩ = some (.int .i64 a0_0) := (blk_cell BK1.out 0).trans rfl; have hk1_1 : W6.cell? ⟨g1, 1, none⟩ = some (.slice A0_1 l0_1.length c0_1) := (blk_cell BK1.out 1).trans rfl; have hk4_0 : W6.cell? ⟨g4, 0, none⟩ = some (.int .i64 r22_0) := (blk_cell BK4.out 0).trans rfl; have hk4_1 : W6.cell? ⟨g4, 1, none⟩ = some (.slice Ao22 r22_1.length co22) := (blk_cell BK4.out 1).trans rfl)
    | ((with_reducible refine gate_dst (N := 26) rfl ?_); refine goesL_ (some 26) rfl rfl Try.func26 (by kernel_rfl) rfl #[.agg #[.int .i64 a0_0, .slice A0_1 l0_1.length c0_1]] rfl (by (try simp only [List.map_toArray, List.map_cons, List.map_nil]); first | done | rfl | (simp only [List.length_drop, List.length_take]; rfl)) ?_; refine (laws_toBook.calls k a0_0 _ _ l0_1 r26_0 r26_1 _ (Kd.C_below HR0_1.out HB.out) HC0_1.out E26.out).mono ?_; rintro e W7 ⟨v26, rfl, ho, hb⟩; refine ⟨_, rfl, ?_⟩; clear hk1_0 hk1_1; clear hk4_0 hk4_1; have nOn_ := Kd.S_lower (Kd.S_bound ho) HB.out.size; have hle_ := HT.out; have nB1_ := Aside0.mk (blk_below BK1.out hb); have nO21_ := Aside0.mk (Kd.S_below HO21.out hb); have nO22_ := Aside0.mk (Kd.S_below HO22.out hb); have nB4_ := Aside0.mk (blk_below BK4.out hb); have nHB_ := Aside0.mk (below_step HB.out hb); have nHT_ := Aside0.mk (Nat.le_trans HT.out hb.size); clear BK1 HO21 HO22 BK4 HB HT; have BK1 := nB1_; have HO21 := nO21_; have HO22 := nO22_; have BK4 := nB4_; have HB := nHB_; have HT := nHT_; clear nB1_ nO21_ nO22_ nB4_ nHB_ nHT_; obtain ⟨T5, hT5⟩ : ∃ n_, n_ = W7.heap.size := ⟨_, rfl⟩; have ORD5 := Aside0.mk (show T4 ≤ T5 from by rw [hT5]; exact HT.out); clear HT; have HT := Aside0.mk (Nat.le_of_eq hT5); have HO26 := Aside0.mk (Kd.S_mono (ok' := fun k_ => T4 ≤ k_ ∧ k_ < T5) nOn_ (fun k_ hk_ => ⟨Nat.le_trans hle_ hk_.2.1, by rw [hT5]; exact hk_.2.2.1⟩)); clear nOn_ hle_ ho hT5; obtain ⟨Ao26, co26, eo26⟩ := Kd.S_slice HO26.out; subst eo26; clear hb; have hk1_0 : W7.cell? ⟨g1, 0, none⟩ = some (.int .i64 a0_0) := (blk_cell BK1.out 0).trans rfl; have hk1_1 : W7.cell? ⟨g1, 1, none⟩ = some (.slice A0_1 l0_1.length c0_1) := (blk_cell BK1.out 1).trans rfl; have hk4_0 : W7.cell? ⟨g4, 0, none⟩ = some (.int .i64 r22_0) := (blk_cell BK4.out 0).trans rfl; have hk4_1 : W7.cell? ⟨g4, 1, none⟩ = some (.slice Ao22 r22_1.length co22) := (blk_cell BK4.out 1).trans rfl)
    | ((with_reducible refine gate_dst (N := 6) rfl ?_); refine box_event ?hg (N := 6) ?hd (cs := #[.int .i64 0, .slice none 0 0]) (t := 49) ?hr ?_; (case hd => rfl); (case hg => rfl); (case hr => first | (go_simp; done) | (go_simp; rfl)); intro g6 hg W8 hbox hb; have hs6_0 : W8.cell? ⟨g6, 0, none⟩ = some (.int .i64 0) := (blk_cell hbox 0).trans rfl; have hf6_0 := blk_frozen hbox 0; have hs6_1 : W8.cell? ⟨g6, 1, none⟩ = some (.slice none 0 0) := (blk_cell hbox 1).trans rfl; have hf6_1 := blk_frozen hbox 1; have HG6 := Aside0.mk hg; have HX6 := Aside0.mk hbox; have HW6 := Aside0.mk hb; clear hg hbox hb)
    | ((with_reducible refine gate_store (t := 49) (p := 6) rfl ?_); refine store_event (t := 49) (p := 6) (v := ?vo6) (w1 := ((W8.setCell ⟨g6, 0, none⟩ (.int .i64 r26_0)).setCell ⟨g6, 1, none⟩ (.slice Ao26 r26_1.length co26))) ?hg ?ho ?hn ?hr ?_; (case ho => rfl); (case hg => rfl); (case hn => rfl); (case hr => first | (go_simp; done) | (go_simp; rfl)); intro W9 hw; have hb : Below W7.heap.size W7 W9 := (by rw [hw]; exact (below_set (below_set HW6.out (Nat.le_of_eq HG6.out.symm)) (Nat.le_of_eq HG6.out.symm))); have hbox : W9.heap[g6]? = some (.cells #[.int .i64 r26_0, .slice Ao26 r26_1.length co26] 49 (0, 0)) := (by rw [hw]; exact (blk_put (cs' := #[.int .i64 r26_0, .slice Ao26 r26_1.length co26]) (blk_put (cs' := #[.int .i64 r26_0, .slice none 0 0]) HX6.out 0 (.int .i64 r26_0) rfl) 1 (.slice Ao26 r26_1.length co26) rfl)); clear hw hs6_0 hf6_0 hs6_1 hf6_1; have hle_ : T5 ≤ g6 := (by rw [HG6.out]; exact HT.out); have hlt_ : g6 < W9.heap.size := blk_lt hbox; clear HG6 HX6 HW6; clear hk1_0 hk1_1; clear hk4_0 hk4_1; have nB1_ := Aside0.mk (blk_below BK1.out hb); have nO21_ := Aside0.mk (Kd.S_below HO21.out hb); have nO22_ := Aside0.mk (Kd.S_below HO22.out hb); have nB4_ := Aside0.mk (blk_below BK4.out hb); have nO26_ := Aside0.mk (Kd.S_below HO26.out hb); have nHB_ := Aside0.mk (below_step HB.out hb); have nHT_ := Aside0.mk (Nat.le_trans HT.out hb.size); clear BK1 HO21 HO22 BK4 HO26 HB HT; have BK1 := nB1_; have HO21 := nO21_; have HO22 := nO22_; have BK4 := nB4_; have HO26 := nO26_; have HB := nHB_; have HT := nHT_; clear nB1_ nO21_ nO22_ nB4_ nO26_ nHB_ nHT_; obtain ⟨T6, hT6⟩ : ∃ n_, n_ = W9.heap.size := ⟨_, rfl⟩; have ORD6 := Aside0.mk (show T5 ≤ T6 from by rw [hT6]; exact HT.out); clear HT; have HT := Aside0.mk (Nat.le_of_eq hT6); have BK6 := Aside0.mk hbox; have GB6 := Aside0.mk (show T5 ≤ g6 ∧ g6 < T6 from ⟨hle_, by rw [hT6]; exact hlt_⟩); clear hb hbox hle_ hlt_ hT6; have hk1_0 : W9.cell? ⟨g1, 0, none⟩ = some (.int .i64 a0_0) := (blk_cell BK1.out 0).trans rfl; have hk1_1 : W9.cell? ⟨g1, 1, none⟩ = some (.slice A0_1 l0_1.length c0_1) := (blk_cell BK1.out 1).trans rfl; have hk4_0 : W9.cell? ⟨g4, 0, none⟩ = some (.int .i64 r22_0) := (blk_cell BK4.out 0).trans rfl; have hk4_1 : W9.cell? ⟨g4, 1, none⟩ = some (.slice Ao22 r22_1.length co22) := (blk_cell BK4.out 1).trans rfl; have hk6_0 : W9.cell? ⟨g6, 0, none⟩ = some (.int .i64 r26_0) := (blk_cell BK6.out 0).trans rfl; have hk6_1 : W9.cell? ⟨g6, 1, none⟩ = some (.slice Ao26 r26_1.length co26) := (blk_cell BK6.out 1).trans rfl)
    | ((with_reducible refine gate_dst (N := 29) rfl ?_); refine goesL_ (some 29) rfl rfl Try.func35 (by kernel_rfl) rfl #[.agg #[.int .i64 r26_0, .slice Ao26 r26_1.length co26]] rfl (by (try simp only [List.map_toArray, List.map_cons, List.map_nil]); first | done | rfl | (simp only [List.length_drop, List.length_take]; rfl)) ?_; refine (impl_Alloc.calls k r26_0 _ _ r26_1 r29_0 r29_1 r29_2 _ (Kd.S_reads' HO26.out).2.2 (Kd.S_reads' HO26.out).2.1 E29.out).mono ?_; rintro e W10 ⟨v29, rfl, ho, hb⟩; refine ⟨_, rfl, ?_⟩; clear hk1_0 hk1_1; clear hk4_0 hk4_1; clear hk6_0 hk6_1; have nOn_ := Kd.S_lower (Kd.S_bound ho) HB.out.size; have hle_ := HT.out; have nB1_ := Aside0.mk (blk_below BK1.out hb); have nO21_ := Aside0.mk (Kd.S_below HO21.out hb); have nO22_ := Aside0.mk (Kd.S_below HO22.out hb); have nB4_ := Aside0.mk (blk_below BK4.out hb); have nO26_ := Aside0.mk (Kd.S_below HO26.out hb); have nB6_ := Aside0.mk (blk_below BK6.out hb); have nHB_ := Aside0.mk (below_step HB.out hb); have nHT_ := Aside0.mk (Nat.le_trans HT.out hb.size); clear BK1 HO21 HO22 BK4 HO26 BK6 HB HT; have BK1 := nB1_; have HO21 := nO21_; have HO22 := nO22_; have BK4 := nB4_; have HO26 := nO26_; have BK6 := nB6_; have HB := nHB_; have HT := nHT_; clear nB1_ nO21_ nO22_ nB4_ nO26_ nB6_ nHB_ nHT_; obtain ⟨T7, hT7⟩ : ∃ n_, n_ = W10.heap.size := ⟨_, rfl⟩; have ORD7 := Aside0.mk (show T6 ≤ T7 from by rw [hT7]; exact HT.out); clear HT; have HT := Aside0.mk (Nat.le_of_eq hT7); have HO29 := Aside0.mk (Kd.S_mono (ok' := fun k_ => T6 ≤ k_ ∧ k_ < T7) nOn_ (fun k_ hk_ => ⟨Nat.le_trans hle_ hk_.2.1, by rw [hT7]; exact hk_.2.2.1⟩)); clear nOn_ hle_ ho hT7; obtain ⟨Ao29, co29, eo29⟩ := Kd.S_slice HO29.out; subst eo29; clear hb; have hk1_0 : W10.cell? ⟨g1, 0, none⟩ = some (.int .i64 a0_0) := (blk_cell BK1.out 0).trans rfl; have hk1_1 : W10.cell? ⟨g1, 1, none⟩ = some (.slice A0_1 l0_1.length c0_1) := (blk_cell BK1.out 1).trans rfl; have hk4_0 : W10.cell? ⟨g4, 0, none⟩ = some (.int .i64 r22_0) := (blk_cell BK4.out 0).trans rfl; have hk4_1 : W10.cell? ⟨g4, 1, none⟩ = some (.slice Ao22 r22_1.length co22) := (blk_cell BK4.out 1).trans rfl; have hk6_0 : W10.cell? ⟨g6, 0, none⟩ = some (.int .i64 r26_0) := (blk_cell BK6.out 0).trans rfl; have hk6_1 : W10.cell? ⟨g6, 1, none⟩ = some (.slice Ao26 r26_1.length co26) := (blk_cell BK6.out 1).trans rfl)
    | ((with_reducible refine gate_dst (N := 7) rfl ?_); refine box_event ?hg (N := 7) ?hd (cs := #[.int .i64 0, .slice none 0 0]) (t := 49) ?hr ?_; (case hd => rfl); (case hg => rfl); (case hr => first | (go_simp; done) | (go_simp; rfl)); intro g7 hg W11 hbox hb; have hs7_0 : W11.cell? ⟨g7, 0, none⟩ = some (.int .i64 0) := (blk_cell hbox 0).trans rfl; have hf7_0 := blk_frozen hbox 0; have hs7_1 : W11.cell? ⟨g7, 1, none⟩ = some (.slice none 0 0) := (blk_cell hbox 1).trans rfl; have hf7_1 := blk_frozen hbox 1; have HG7 := Aside0.mk hg; have HX7 := Aside0.mk hbox; have HW7 := Aside0.mk hb; clear hg hbox hb)
    | ((with_reducible refine gate_store (t := 49) (p := 7) rfl ?_); refine store_event (t := 49) (p := 7) (v := ?vo7) (w1 := ((W11.setCell ⟨g7, 0, none⟩ (.int .i64 r29_0)).setCell ⟨g7, 1, none⟩ (.slice Ao29 r29_1.length co29))) ?hg ?ho ?hn ?hr ?_; (case ho => rfl); (case hg => rfl); (case hn => rfl); (case hr => first | (go_simp; done) | (go_simp; rfl)); intro W12 hw; have hb : Below W10.heap.size W10 W12 := (by rw [hw]; exact (below_set (below_set HW7.out (Nat.le_of_eq HG7.out.symm)) (Nat.le_of_eq HG7.out.symm))); have hbox : W12.heap[g7]? = some (.cells #[.int .i64 r29_0, .slice Ao29 r29_1.length co29] 49 (0, 0)) := (by rw [hw]; exact (blk_put (cs' := #[.int .i64 r29_0, .slice Ao29 r29_1.length co29]) (blk_put (cs' := #[.int .i64 r29_0, .slice none 0 0]) HX7.out 0 (.int .i64 r29_0) rfl) 1 (.slice Ao29 r29_1.length co29) rfl)); clear hw hs7_0 hf7_0 hs7_1 hf7_1; have hle_ : T7 ≤ g7 := (by rw [HG7.out]; exact HT.out); have hlt_ : g7 < W12.heap.size := blk_lt hbox; clear HG7 HX7 HW7; clear hk1_0 hk1_1; clear hk4_0 hk4_1; clear hk6_0 hk6_1; have nB1_ := Aside0.mk (blk_below BK1.out hb); have nO21_ := Aside0.mk (Kd.S_below HO21.out hb); have nO22_ := Aside0.mk (Kd.S_below HO22.out hb); have nB4_ := Aside0.mk (blk_below BK4.out hb); have nO26_ := Aside0.mk (Kd.S_below HO26.out hb); have nB6_ := Aside0.mk (blk_below BK6.out hb); have nO29_ := Aside0.mk (Kd.S_below HO29.out hb); have nHB_ := Aside0.mk (below_step HB.out hb); have nHT_ := Aside0.mk (Nat.le_trans HT.out hb.size); clear BK1 HO21 HO22 BK4 HO26 BK6 HO29 HB HT; have BK1 := nB1_; have HO21 := nO21_; have HO22 := nO22_; have BK4 := nB4_; have HO26 := nO26_; have BK6 := nB6_; have HO29 := nO29_; have HB := nHB_; have HT := nHT_; clear nB1_ nO21_ nO22_ nB4_ nO26_ nB6_ nO29_ nHB_ nHT_; obtain ⟨T8, hT8⟩ : ∃ n_, n_ = W12.heap.size := ⟨_, rfl⟩; have ORD8 := Aside0.mk (show T7 ≤ T8 from by rw [hT8]; exact HT.out); clear HT; have HT := Aside0.mk (Nat.le_of_eq hT8); have BK7 := Aside0.mk hbox; have GB7 := Aside0.mk (show T7 ≤ g7 ∧ g7 < T8 from ⟨hle_, by rw [hT8]; exact hlt_⟩); clear hb hbox hle_ hlt_ hT8; have hk1_0 : W12.cell? ⟨g1, 0, none⟩ = some (.int .i64 a0_0) := (blk_cell BK1.out 0).trans rfl; have hk1_1 : W12.cell? ⟨g1, 1, none⟩ = some (.slice A0_1 l0_1.length c0_1) := (blk_cell BK1.out 1).trans rfl; have hk4_0 : W12.cell? ⟨g4, 0, none⟩ = some (.int .i64 r22_0) := (blk_cell BK4.out 0).trans rfl; have hk4_1 : W12.cell? ⟨g4, 1, none⟩ = some (.slice Ao22 r22_1.length co22) := (blk_cell BK4.out 1).trans rfl; have hk6_0 : W12.cell? ⟨g6, 0, none⟩ = some (.int .i64 r26_0) := (blk_cell BK6.out 0).trans rfl; have hk6_1 : W12.cell? ⟨g6, 1, none⟩ = some (.slice Ao26 r26_1.length co26) := (blk_cell BK6.out 1).trans rfl; have hk7_0 : W12.cell? ⟨g7, 0, none⟩ = some (.int .i64 r29_0) := (blk_cell BK7.out 0).trans rfl; have hk7_1 : W12.cell? ⟨g7, 1, none⟩ = some (.slice Ao29 r29_1.length co29) := (blk_cell BK7.out 1).trans rfl)
    | ((with_reducible refine gate_dst (N := 34) rfl ?_); refine goesL_ (some 34) rfl rfl Try.func29 (by kernel_rfl) rfl #[.agg #[.int .i64 r29_0, .slice Ao29 r29_1.length co29], .agg #[.int .i64 r22_0, .slice Ao22 r22_1.length co22]] rfl (by (try simp only [List.map_toArray, List.map_cons, List.map_nil]); first | done | rfl | (simp only [List.length_drop, List.length_take]; rfl)) ?_; refine (laws_eqBook.calls k r29_0 _ _ r29_1 r22_0 _ _ r22_1 true _ (Kd.S_reads' HO29.out).2.2 (Kd.S_reads' HO29.out).2.1 (Kd.S_reads' HO22.out).2.2 (Kd.S_reads' HO22.out).2.1 E34.out).mono ?_; rintro e W13 ⟨rfl, hb⟩; refine ⟨_, rfl, ?_⟩; clear hk1_0 hk1_1; clear hk4_0 hk4_1; clear hk6_0 hk6_1; clear hk7_0 hk7_1; have nB1_ := Aside0.mk (blk_below BK1.out hb); have nO21_ := Aside0.mk (Kd.S_below HO21.out hb); have nO22_ := Aside0.mk (Kd.S_below HO22.out hb); have nB4_ := Aside0.mk (blk_below BK4.out hb); have nO26_ := Aside0.mk (Kd.S_below HO26.out hb); have nB6_ := Aside0.mk (blk_below BK6.out hb); have nO29_ := Aside0.mk (Kd.S_below HO29.out hb); have nB7_ := Aside0.mk (blk_below BK7.out hb); have nHB_ := Aside0.mk (below_step HB.out hb); have nHT_ := Aside0.mk (Nat.le_trans HT.out hb.size); clear BK1 HO21 HO22 BK4 HO26 BK6 HO29 BK7 HB HT; have BK1 := nB1_; have HO21 := nO21_; have HO22 := nO22_; have BK4 := nB4_; have HO26 := nO26_; have BK6 := nB6_; have HO29 := nO29_; have BK7 := nB7_; have HB := nHB_; have HT := nHT_; clear nB1_ nO21_ nO22_ nB4_ nO26_ nB6_ nO29_ nB7_ nHB_ nHT_; clear hb; have hk1_0 : W13.cell? ⟨g1, 0, none⟩ = some (.int .i64 a0_0) := (blk_cell BK1.out 0).trans rfl; have hk1_1 : W13.cell? ⟨g1, 1, none⟩ = some (.slice A0_1 l0_1.length c0_1) := (blk_cell BK1.out 1).trans rfl; have hk4_0 : W13.cell? ⟨g4, 0, none⟩ = some (.int .i64 r22_0) := (blk_cell BK4.out 0).trans rfl; have hk4_1 : W13.cell? ⟨g4, 1, none⟩ = some (.slice Ao22 r22_1.length co22) := (blk_cell BK4.out 1).trans rfl; have hk6_0 : W13.cell? ⟨g6, 0, none⟩ = some (.int .i64 r26_0) := (blk_cell BK6.out 0).trans rfl; have hk6_1 : W13.cell? ⟨g6, 1, none⟩ = some (.slice Ao26 r26_1.length co26) := (blk_cell BK6.out 1).trans rfl; have hk7_0 : W13.cell? ⟨g7, 0, none⟩ = some (.int .i64 r29_0) := (blk_cell BK7.out 0).trans rfl; have hk7_1 : W13.cell? ⟨g7, 1, none⟩ = some (.slice Ao29 r29_1.length co29) := (blk_cell BK7.out 1).trans rfl))
  clear hk1_0 hk1_1
  clear hk4_0 hk4_1
  clear hk6_0 hk6_1
  clear hk7_0 hk7_1
  have nB1_ := Aside0.mk (blk_drew BK1.out)
  have nO21_ := Aside0.mk (Kd.S_drew HO21.out)
  have nO22_ := Aside0.mk (Kd.S_drew HO22.out)
  have nB4_ := Aside0.mk (blk_drew BK4.out)
  have nO26_ := Aside0.mk (Kd.S_drew HO26.out)
  have nB6_ := Aside0.mk (blk_drew BK6.out)
  have nO29_ := Aside0.mk (Kd.S_drew HO29.out)
  have nB7_ := Aside0.mk (blk_drew BK7.out)
  have nHB_ := Aside0.mk (below_drew1 HB.out)
  have nHT_ := Aside0.mk (show T8 ≤ W13.drew.heap.size from HT.out)
  clear BK1 HO21 HO22 BK4 HO26 BK6 HO29 BK7 HB HT
  have BK1 := nB1_
  have HO21 := nO21_
  have HO22 := nO22_
  have BK4 := nB4_
  have HO26 := nO26_
  have BK6 := nB6_
  have HO29 := nO29_
  have BK7 := nB7_
  have HB := nHB_
  have HT := nHT_
  clear nB1_ nO21_ nO22_ nB4_ nO26_ nB6_ nO29_ nB7_ nHB_ nHT_
  refine start_ (n := 5) (S := fun w' => w'.cell? ⟨g6, 0, none⟩ = some (.int .i64 r26_0) ∧ w'.cell? ⟨g6, 1, none⟩ = some (.slice Ao26 r26_1.length co26) ∧ w'.cell? ⟨g1, 0, none⟩ = some (.int .i64 a0_0) ∧ w'.cell? ⟨g1, 1, none⟩ = some (.slice A0_1 l0_1.length c0_1)) (ds := []) #[false, false, false, false, false] (by kernel_rfl) rfl rfl ⟨(blk_cell BK6.out 0).trans rfl, (blk_cell BK6.out 1).trans rfl, (blk_cell BK1.out 0).trans rfl, (blk_cell BK1.out 1).trans rfl⟩ (fun hHeld => ?_)
  generalize W13.drew = W14 at HB HT BK1 HO21 HO22 BK4 HO26 BK6 HO29 BK7 hHeld ⊢
  refine take_ (i := 0) (N := some 41) (v := ?_) (a' := ?_) #[true, false, false, false, false] rfl rfl (by kernel_rfl) (fun _ _ _ h => h) (Or.inl ⟨by rfl, ?_⟩) hHeld ?_ ?_
  rotate_left
  · rintro w' ⟨s0, s1, s2, s3⟩
    go_simp
    with_reducible rfl
  rotate_left
  · simp only [Act.put, List.setIfInBounds_toArray, List.set_cons_zero, List.set_cons_succ, i64_w, i32_w]
    rfl
  refine take_ (i := 1) (N := some 42) (v := ?_) (a' := ?_) #[true, true, false, false, false] rfl rfl (by kernel_rfl) (fun _ _ _ h => h) (Or.inl ⟨by rfl, ?_⟩) hHeld ?_ ?_
  rotate_left
  · rintro w' ⟨s0, s1, s2, s3⟩
    go_simp
    with_reducible rfl
  rotate_left
  · simp only [Act.put, List.setIfInBounds_toArray, List.set_cons_zero, List.set_cons_succ, i64_w, i32_w]
    rfl
  refine one_ (i := 2) (N := some 43) #[true, true, true, false, false] rfl rfl (by kernel_rfl) (by decide) (fun K hK => ?_)
  refine goes_ Try.func26 (by kernel_rfl) rfl #[.agg #[.int .i64 a0_0, .slice A0_1 l0_1.length c0_1]] (by rfl) rfl rfl (by (try simp only [List.map_toArray, List.map_cons, List.map_nil]); first | done | rfl | (simp only [List.length_drop, List.length_take]; rfl)) ?_
  refine (laws_toBook.calls k a0_0 _ _ l0_1 r43_0 r43_1 _ (Kd.C_below HR0_1.out HB.out) HC0_1.out E43.out).mono ?_
  rintro e W15 ⟨v43, rfl, ho, hb⟩
  refine ⟨_, rfl, ?_⟩
  have nOn_ := Kd.S_lower (Kd.S_bound ho) HB.out.size
  have hle_ := HT.out
  have nB1_ := Aside0.mk (blk_below BK1.out hb)
  have nO21_ := Aside0.mk (Kd.S_below HO21.out hb)
  have nO22_ := Aside0.mk (Kd.S_below HO22.out hb)
  have nB4_ := Aside0.mk (blk_below BK4.out hb)
  have nO26_ := Aside0.mk (Kd.S_below HO26.out hb)
  have nB6_ := Aside0.mk (blk_below BK6.out hb)
  have nO29_ := Aside0.mk (Kd.S_below HO29.out hb)
  have nB7_ := Aside0.mk (blk_below BK7.out hb)
  have nHB_ := Aside0.mk (below_step HB.out hb)
  have nHT_ := Aside0.mk (Nat.le_trans HT.out hb.size)
  clear BK1 HO21 HO22 BK4 HO26 BK6 HO29 BK7 HB HT
  have BK1 := nB1_
  have HO21 := nO21_
  have HO22 := nO22_
  have BK4 := nB4_
  have HO26 := nO26_
  have BK6 := nB6_
  have HO29 := nO29_
  have BK7 := nB7_
  have HB := nHB_
  have HT := nHT_
  clear nB1_ nO21_ nO22_ nB4_ nO26_ nB6_ nO29_ nB7_ nHB_ nHT_
  have HO43 := Aside0.mk (Kd.S_mono (ok' := fun k_ => T8 ≤ k_) nOn_ (fun k_ hk_ => Nat.le_trans hle_ hk_.2.1))
  clear nOn_ hle_ ho
  obtain ⟨Ao43, co43, eo43⟩ := Kd.S_slice HO43.out
  subst eo43
  clear hb
  refine hK.out _ _ ⟨(blk_cell BK6.out 0).trans rfl, (blk_cell BK6.out 1).trans rfl, (blk_cell BK1.out 0).trans rfl, (blk_cell BK1.out 1).trans rfl⟩ (fun hHeld => ?_)
  clear hK K
  refine norm_ (a' := ?_) ?_ ?_
  rotate_left
  · show Act.put _ (some 43) _ = _
    simp only [Act.put, List.setIfInBounds_toArray, List.set_cons_zero, List.set_cons_succ, i64_w, i32_w]
    rfl
  refine one_ (i := 3) (N := some 44) #[true, true, true, true, false] rfl rfl (by kernel_rfl) (by decide) (fun K hK => ?_)
  refine goes_ Try.func29 (by kernel_rfl) rfl #[.agg #[.int .i64 r26_0, .slice Ao26 r26_1.length co26], .agg #[.int .i64 r43_0, .slice Ao43 r43_1.length co43]] (by rfl) rfl rfl (by (try simp only [List.map_toArray, List.map_cons, List.map_nil]); first | done | rfl | (simp only [List.length_drop, List.length_take]; rfl)) ?_
  refine (laws_eqBook.calls k r26_0 _ _ r26_1 r43_0 _ _ r43_1 true _ (Kd.S_reads' HO26.out).2.2 (Kd.S_reads' HO26.out).2.1 (Kd.S_reads' HO43.out).2.2 (Kd.S_reads' HO43.out).2.1 E44.out).mono ?_
  rintro e W16 ⟨rfl, hb⟩
  refine ⟨_, rfl, ?_⟩
  have nB1_ := Aside0.mk (blk_below BK1.out hb)
  have nO21_ := Aside0.mk (Kd.S_below HO21.out hb)
  have nO22_ := Aside0.mk (Kd.S_below HO22.out hb)
  have nB4_ := Aside0.mk (blk_below BK4.out hb)
  have nO26_ := Aside0.mk (Kd.S_below HO26.out hb)
  have nB6_ := Aside0.mk (blk_below BK6.out hb)
  have nO29_ := Aside0.mk (Kd.S_below HO29.out hb)
  have nB7_ := Aside0.mk (blk_below BK7.out hb)
  have nO43_ := Aside0.mk (Kd.S_below HO43.out hb)
  have nHB_ := Aside0.mk (below_step HB.out hb)
  have nHT_ := Aside0.mk (Nat.le_trans HT.out hb.size)
  clear BK1 HO21 HO22 BK4 HO26 BK6 HO29 BK7 HO43 HB HT
  have BK1 := nB1_
  have HO21 := nO21_
  have HO22 := nO22_
  have BK4 := nB4_
  have HO26 := nO26_
  have BK6 := nB6_
  have HO29 := nO29_
  have BK7 := nB7_
  have HO43 := nO43_
  have HB := nHB_
  have HT := nHT_
  clear nB1_ nO21_ nO22_ nB4_ nO26_ nB6_ nO29_ nB7_ nO43_ nHB_ nHT_
  clear hb
  refine hK.out _ _ ⟨(blk_cell BK6.out 0).trans rfl, (blk_cell BK6.out 1).trans rfl, (blk_cell BK1.out 0).trans rfl, (blk_cell BK1.out 1).trans rfl⟩ (fun hHeld => ?_)
  clear hK K
  refine norm_ (a' := ?_) ?_ ?_
  rotate_left
  · show Act.put _ (some 44) _ = _
    simp only [Act.put, List.setIfInBounds_toArray, List.set_cons_zero, List.set_cons_succ, i64_w, i32_w]
    rfl
  refine pure_ (i := 4) (N := some 45) (v := ?_) (a' := ?_) #[true, true, true, true, true] rfl rfl (by kernel_rfl) (fun _ _ _ h => h) (Or.inl ⟨by rfl, ?_⟩) ?_ ?_
  rotate_left
  · intro w'
    go_simp
    with_reducible rfl
  rotate_left
  · simp only [Act.put, List.setIfInBounds_toArray, List.set_cons_zero, List.set_cons_succ, i64_w, i32_w]
    rfl
  refine done_ (by kernel_rfl) ?_
  clear hHeld
  obtain ⟨T9, hT9⟩ : ∃ n_, n_ = W16.heap.size := ⟨_, rfl⟩
  have ORD9 := Aside0.mk (show T8 ≤ T9 from by rw [hT9]; exact HT.out)
  clear HT
  have HT := Aside0.mk (Nat.le_of_eq hT9)
  have nO_ := Aside0.mk (Kd.S_mono (ok' := fun k_ => T8 ≤ k_ ∧ k_ < T9) (Kd.S_bound HO43.out) (fun k_ hk_ => ⟨hk_.1, by rw [hT9]; exact hk_.2.2.1⟩))
  clear HO43
  have HO43 := nO_
  clear nO_
  clear hT9
  obtain ⟨WE9, hwe_⟩ : ∃ x_, x_ = W16 := ⟨_, rfl⟩
  rw [← hwe_] at HB HT BK1 HO21 HO22 BK4 HO26 BK6 HO29 BK7 HO43
  rw [← hwe_]
  clear hwe_
  have hk1_0 : WE9.cell? ⟨g1, 0, none⟩ = some (.int .i64 a0_0) := (blk_cell BK1.out 0).trans rfl
  have hk1_1 : WE9.cell? ⟨g1, 1, none⟩ = some (.slice A0_1 l0_1.length c0_1) := (blk_cell BK1.out 1).trans rfl
  have hk4_0 : WE9.cell? ⟨g4, 0, none⟩ = some (.int .i64 r22_0) := (blk_cell BK4.out 0).trans rfl
  have hk4_1 : WE9.cell? ⟨g4, 1, none⟩ = some (.slice Ao22 r22_1.length co22) := (blk_cell BK4.out 1).trans rfl
  have hk6_0 : WE9.cell? ⟨g6, 0, none⟩ = some (.int .i64 r26_0) := (blk_cell BK6.out 0).trans rfl
  have hk6_1 : WE9.cell? ⟨g6, 1, none⟩ = some (.slice Ao26 r26_1.length co26) := (blk_cell BK6.out 1).trans rfl
  have hk7_0 : WE9.cell? ⟨g7, 0, none⟩ = some (.int .i64 r29_0) := (blk_cell BK7.out 0).trans rfl
  have hk7_1 : WE9.cell? ⟨g7, 1, none⟩ = some (.slice Ao29 r29_1.length co29) := (blk_cell BK7.out 1).trans rfl
  go_wp2_with (first
    | ((with_reducible refine gate_dst (N := 48) rfl ?_); refine goesL_ (some 48) rfl rfl Try.func31 (by kernel_rfl) rfl #[.agg #[.int .i64 r26_0, .slice Ao26 r26_1.length co26], .int .i64 1] rfl (by (try simp only [List.map_toArray, List.map_cons, List.map_nil]); first | done | rfl | (simp only [List.length_drop, List.length_take]; rfl)) ?_; refine (laws_markBook.calls k (fun k_ => T4 ≤ k_ ∧ k_ < T5) r26_0 _ r26_1 1 r48_0 r48_1 w _ HB.out HO26.out E48.out).mono ?_; rintro e W17 ⟨rfl, ho, hb, hk⟩; refine ⟨_, rfl, ?_⟩; clear hk1_0 hk1_1; clear hk4_0 hk4_1; clear hk6_0 hk6_1; clear hk7_0 hk7_1; have nB1_ := Aside0.mk (blk_kept BK1.out hk (fun h2_ => by have o1_ := ORD1.out; have o2_ := ORD2.out; have o3_ := ORD3.out; have o4_ := ORD4.out; have o5_ := ORD5.out; have o6_ := ORD6.out; have o7_ := ORD7.out; have o8_ := ORD8.out; have o9_ := ORD9.out; have g_ := GB1.out; omega)); have nO21_ := Aside0.mk (Kd.S_kept HO21.out hk (fun k_ h1_ h2_ => by have o1_ := ORD1.out; have o2_ := ORD2.out; have o3_ := ORD3.out; have o4_ := ORD4.out; have o5_ := ORD5.out; have o6_ := ORD6.out; have o7_ := ORD7.out; have o8_ := ORD8.out; have o9_ := ORD9.out; exact absurd h1_ (by omega))); have nO22_ := Aside0.mk (Kd.S_kept HO22.out hk (fun k_ h1_ h2_ => by have o1_ := ORD1.out; have o2_ := ORD2.out; have o3_ := ORD3.out; have o4_ := ORD4.out; have o5_ := ORD5.out; have o6_ := ORD6.out; have o7_ := ORD7.out; have o8_ := ORD8.out; have o9_ := ORD9.out; exact absurd h1_ (by omega))); have nB4_ := Aside0.mk (blk_kept BK4.out hk (fun h2_ => by have o1_ := ORD1.out; have o2_ := ORD2.out; have o3_ := ORD3.out; have o4_ := ORD4.out; have o5_ := ORD5.out; have o6_ := ORD6.out; have o7_ := ORD7.out; have o8_ := ORD8.out; have o9_ := ORD9.out; have g_ := GB4.out; omega)); have nB6_ := Aside0.mk (blk_kept BK6.out hk (fun h2_ => by have o1_ := ORD1.out; have o2_ := ORD2.out; have o3_ := ORD3.out; have o4_ := ORD4.out; have o5_ := ORD5.out; have o6_ := ORD6.out; have o7_ := ORD7.out; have o8_ := ORD8.out; have o9_ := ORD9.out; have g_ := GB6.out; omega)); have nO29_ := Aside0.mk (Kd.S_kept HO29.out hk (fun k_ h1_ h2_ => by have o1_ := ORD1.out; have o2_ := ORD2.out; have o3_ := ORD3.out; have o4_ := ORD4.out; have o5_ := ORD5.out; have o6_ := ORD6.out; have o7_ := ORD7.out; have o8_ := ORD8.out; have o9_ := ORD9.out; exact absurd h1_ (by omega))); have nB7_ := Aside0.mk (blk_kept BK7.out hk (fun h2_ => by have o1_ := ORD1.out; have o2_ := ORD2.out; have o3_ := ORD3.out; have o4_ := ORD4.out; have o5_ := ORD5.out; have o6_ := ORD6.out; have o7_ := ORD7.out; have o8_ := ORD8.out; have o9_ := ORD9.out; have g_ := GB7.out; omega)); have nO43_ := Aside0.mk (Kd.S_kept HO43.out hk (fun k_ h1_ h2_ => by have o1_ := ORD1.out; have o2_ := ORD2.out; have o3_ := ORD3.out; have o4_ := ORD4.out; have o5_ := ORD5.out; have o6_ := ORD6.out; have o7_ := ORD7.out; have o8_ := ORD8.out; have o9_ := ORD9.out; exact absurd h1_ (by omega))); have nHB_ := Aside0.mk hb; have nHT_ := Aside0.mk (Nat.le_trans HT.out hk.1); clear BK1 HO21 HO22 BK4 BK6 HO29 BK7 HO43 HB HT; have BK1 := nB1_; have HO21 := nO21_; have HO22 := nO22_; have BK4 := nB4_; have BK6 := nB6_; have HO29 := nO29_; have BK7 := nB7_; have HO43 := nO43_; have HB := nHB_; have HT := nHT_; clear nB1_ nO21_ nO22_ nB4_ nB6_ nO29_ nB7_ nO43_ nHB_ nHT_; have nO_ := Aside0.mk (Kd.S_mono (ok' := fun _ => True) ho (fun _ _ => trivial)); clear HO26; have HO26 := nO_; have LN26 := Aside0.mk (show r26_1.length = r48_1.length from (Kd.S_reads' HO26.out).1); clear nO_ ho hb hk; have hk1_0 : W17.cell? ⟨g1, 0, none⟩ = some (.int .i64 a0_0) := (blk_cell BK1.out 0).trans rfl; have hk1_1 : W17.cell? ⟨g1, 1, none⟩ = some (.slice A0_1 l0_1.length c0_1) := (blk_cell BK1.out 1).trans rfl; have hk4_0 : W17.cell? ⟨g4, 0, none⟩ = some (.int .i64 r22_0) := (blk_cell BK4.out 0).trans rfl; have hk4_1 : W17.cell? ⟨g4, 1, none⟩ = some (.slice Ao22 r22_1.length co22) := (blk_cell BK4.out 1).trans rfl; have hk6_0 : W17.cell? ⟨g6, 0, none⟩ = some (.int .i64 r26_0) := (blk_cell BK6.out 0).trans rfl; have hk6_1 : W17.cell? ⟨g6, 1, none⟩ = some (.slice Ao26 r26_1.length co26) := (blk_cell BK6.out 1).trans rfl; have hk7_0 : W17.cell? ⟨g7, 0, none⟩ = some (.int .i64 r29_0) := (blk_cell BK7.out 0).trans rfl; have hk7_1 : W17.cell? ⟨g7, 1, none⟩ = some (.slice Ao29 r29_1.length co29) := (blk_cell BK7.out 1).trans rfl)
    | ((with_reducible refine gate_dst (N := 54) rfl ?_); (try (refine gate_guard (by rfl) ?_; dsimp only)); refine goesL_ (some 54) rfl rfl Try.func29 (by kernel_rfl) rfl #[.agg #[.int .i64 r29_0, .slice Ao29 r29_1.length co29], .agg #[.int .i64 r22_0, .slice Ao22 r22_1.length co22]] rfl (by (try simp only [List.map_toArray, List.map_cons, List.map_nil]); first | done | rfl | (simp only [List.length_drop, List.length_take]; rfl)) ?_; refine (laws_eqBook.calls k r29_0 _ _ r29_1 r22_0 _ _ r22_1 true _ (Kd.S_reads' HO29.out).2.2 (Kd.S_reads' HO29.out).2.1 (Kd.S_reads' HO22.out).2.2 (Kd.S_reads' HO22.out).2.1 E54.out).mono ?_; rintro e W18 ⟨rfl, hb⟩; refine ⟨_, rfl, ?_⟩; clear hk1_0 hk1_1; clear hk4_0 hk4_1; clear hk6_0 hk6_1; clear hk7_0 hk7_1; have nB1_ := Aside0.mk (blk_below BK1.out hb); have nO21_ := Aside0.mk (Kd.S_below HO21.out hb); have nO22_ := Aside0.mk (Kd.S_below HO22.out hb); have nB4_ := Aside0.mk (blk_below BK4.out hb); have nO26_ := Aside0.mk (Kd.S_below HO26.out hb); have nB6_ := Aside0.mk (blk_below BK6.out hb); have nO29_ := Aside0.mk (Kd.S_below HO29.out hb); have nB7_ := Aside0.mk (blk_below BK7.out hb); have nO43_ := Aside0.mk (Kd.S_below HO43.out hb); have nHB_ := Aside0.mk (below_step HB.out hb); have nHT_ := Aside0.mk (Nat.le_trans HT.out hb.size); clear BK1 HO21 HO22 BK4 HO26 BK6 HO29 BK7 HO43 HB HT; have BK1 := nB1_; have HO21 := nO21_; have HO22 := nO22_; have BK4 := nB4_; have HO26 := nO26_; have BK6 := nB6_; have HO29 := nO29_; have BK7 := nB7_; have HO43 := nO43_; have HB := nHB_; have HT := nHT_; clear nB1_ nO21_ nO22_ nB4_ nO26_ nB6_ nO29_ nB7_ nO43_ nHB_ nHT_; clear hb; have hk1_0 : W18.cell? ⟨g1, 0, none⟩ = some (.int .i64 a0_0) := (blk_cell BK1.out 0).trans rfl; have hk1_1 : W18.cell? ⟨g1, 1, none⟩ = some (.slice A0_1 l0_1.length c0_1) := (blk_cell BK1.out 1).trans rfl; have hk4_0 : W18.cell? ⟨g4, 0, none⟩ = some (.int .i64 r22_0) := (blk_cell BK4.out 0).trans rfl; have hk4_1 : W18.cell? ⟨g4, 1, none⟩ = some (.slice Ao22 r22_1.length co22) := (blk_cell BK4.out 1).trans rfl; have hk6_0 : W18.cell? ⟨g6, 0, none⟩ = some (.int .i64 r26_0) := (blk_cell BK6.out 0).trans rfl; have hk6_1 : W18.cell? ⟨g6, 1, none⟩ = some (.slice Ao26 r26_1.length co26) := (blk_cell BK6.out 1).trans rfl; have hk7_0 : W18.cell? ⟨g7, 0, none⟩ = some (.int .i64 r29_0) := (blk_cell BK7.out 0).trans rfl; have hk7_1 : W18.cell? ⟨g7, 1, none⟩ = some (.slice Ao29 r29_1.length co29) := (blk_cell BK7.out 1).trans rfl)
    | ((with_reducible refine gate_dst (N := 64) rfl ?_); refine goesL_ (some 64) rfl rfl Try.func31 (by kernel_rfl) rfl #[.agg #[.int .i64 r29_0, .slice Ao29 r29_1.length co29], .int .i64 1] rfl (by (try simp only [List.map_toArray, List.map_cons, List.map_nil]); first | done | rfl | (simp only [List.length_drop, List.length_take]; rfl)) ?_; refine (laws_markBook.calls k (fun k_ => T6 ≤ k_ ∧ k_ < T7) r29_0 _ r29_1 1 r64_0 r64_1 w _ HB.out HO29.out E64.out).mono ?_; rintro e W19 ⟨rfl, ho, hb, hk⟩; refine ⟨_, rfl, ?_⟩; clear hk1_0 hk1_1; clear hk4_0 hk4_1; clear hk6_0 hk6_1; clear hk7_0 hk7_1; have nB1_ := Aside0.mk (blk_kept BK1.out hk (fun h2_ => by have o1_ := ORD1.out; have o2_ := ORD2.out; have o3_ := ORD3.out; have o4_ := ORD4.out; have o5_ := ORD5.out; have o6_ := ORD6.out; have o7_ := ORD7.out; have o8_ := ORD8.out; have o9_ := ORD9.out; have g_ := GB1.out; omega)); have nO21_ := Aside0.mk (Kd.S_kept HO21.out hk (fun k_ h1_ h2_ => by have o1_ := ORD1.out; have o2_ := ORD2.out; have o3_ := ORD3.out; have o4_ := ORD4.out; have o5_ := ORD5.out; have o6_ := ORD6.out; have o7_ := ORD7.out; have o8_ := ORD8.out; have o9_ := ORD9.out; exact absurd h1_ (by omega))); have nO22_ := Aside0.mk (Kd.S_kept HO22.out hk (fun k_ h1_ h2_ => by have o1_ := ORD1.out; have o2_ := ORD2.out; have o3_ := ORD3.out; have o4_ := ORD4.out; have o5_ := ORD5.out; have o6_ := ORD6.out; have o7_ := ORD7.out; have o8_ := ORD8.out; have o9_ := ORD9.out; exact absurd h1_ (by omega))); have nB4_ := Aside0.mk (blk_kept BK4.out hk (fun h2_ => by have o1_ := ORD1.out; have o2_ := ORD2.out; have o3_ := ORD3.out; have o4_ := ORD4.out; have o5_ := ORD5.out; have o6_ := ORD6.out; have o7_ := ORD7.out; have o8_ := ORD8.out; have o9_ := ORD9.out; have g_ := GB4.out; omega)); have nB6_ := Aside0.mk (blk_kept BK6.out hk (fun h2_ => by have o1_ := ORD1.out; have o2_ := ORD2.out; have o3_ := ORD3.out; have o4_ := ORD4.out; have o5_ := ORD5.out; have o6_ := ORD6.out; have o7_ := ORD7.out; have o8_ := ORD8.out; have o9_ := ORD9.out; have g_ := GB6.out; omega)); have nB7_ := Aside0.mk (blk_kept BK7.out hk (fun h2_ => by have o1_ := ORD1.out; have o2_ := ORD2.out; have o3_ := ORD3.out; have o4_ := ORD4.out; have o5_ := ORD5.out; have o6_ := ORD6.out; have o7_ := ORD7.out; have o8_ := ORD8.out; have o9_ := ORD9.out; have g_ := GB7.out; omega)); have nO43_ := Aside0.mk (Kd.S_kept HO43.out hk (fun k_ h1_ h2_ => by have o1_ := ORD1.out; have o2_ := ORD2.out; have o3_ := ORD3.out; have o4_ := ORD4.out; have o5_ := ORD5.out; have o6_ := ORD6.out; have o7_ := ORD7.out; have o8_ := ORD8.out; have o9_ := ORD9.out; exact absurd h1_ (by omega))); have nHB_ := Aside0.mk hb; have nHT_ := Aside0.mk (Nat.le_trans HT.out hk.1); clear BK1 HO21 HO22 BK4 BK6 BK7 HO43 HB HT HO26 LN26; have BK1 := nB1_; have HO21 := nO21_; have HO22 := nO22_; have BK4 := nB4_; have BK6 := nB6_; have BK7 := nB7_; have HO43 := nO43_; have HB := nHB_; have HT := nHT_; clear nB1_ nO21_ nO22_ nB4_ nB6_ nB7_ nO43_ nHB_ nHT_; have nO_ := Aside0.mk (Kd.S_mono (ok' := fun _ => True) ho (fun _ _ => trivial)); clear HO29; have HO29 := nO_; have LN29 := Aside0.mk (show r29_1.length = r64_1.length from (Kd.S_reads' HO29.out).1); clear nO_ ho hb hk; have hk1_0 : W19.cell? ⟨g1, 0, none⟩ = some (.int .i64 a0_0) := (blk_cell BK1.out 0).trans rfl; have hk1_1 : W19.cell? ⟨g1, 1, none⟩ = some (.slice A0_1 l0_1.length c0_1) := (blk_cell BK1.out 1).trans rfl; have hk4_0 : W19.cell? ⟨g4, 0, none⟩ = some (.int .i64 r22_0) := (blk_cell BK4.out 0).trans rfl; have hk4_1 : W19.cell? ⟨g4, 1, none⟩ = some (.slice Ao22 r22_1.length co22) := (blk_cell BK4.out 1).trans rfl; have hk6_0 : W19.cell? ⟨g6, 0, none⟩ = some (.int .i64 r26_0) := (blk_cell BK6.out 0).trans rfl; have hk6_1 : W19.cell? ⟨g6, 1, none⟩ = some (.slice Ao26 r26_1.length co26) := (blk_cell BK6.out 1).trans rfl; have hk7_0 : W19.cell? ⟨g7, 0, none⟩ = some (.int .i64 r29_0) := (blk_cell BK7.out 0).trans rfl; have hk7_1 : W19.cell? ⟨g7, 1, none⟩ = some (.slice Ao29 r29_1.length co29) := (blk_cell BK7.out 1).trans rfl)
    | ((with_reducible refine gate_dst (N := 67) rfl ?_); refine goesL_ (some 67) rfl rfl Try.func33 (by kernel_rfl) rfl #[.agg #[.int .i64 r29_0, .slice Ao29 r29_1.length co29], .int .i64 1] rfl (by (try simp only [List.map_toArray, List.map_cons, List.map_nil]); first | done | rfl | (simp only [List.length_drop, List.length_take]; rfl)) ?_; refine calls_args (by rw [LN29.out]) ((laws_heldBook.calls k r29_0 Ao29 co29 r64_1 1 r67_0 _ (Kd.S_reads' HO29.out).2.2 (by rw [← LN29.out]; exact (Kd.S_reads' HO29.out).2.1) E67.out).mono ?_); rintro e W20 ⟨rfl, hb⟩; refine ⟨_, rfl, ?_⟩; clear hk1_0 hk1_1; clear hk4_0 hk4_1; clear hk6_0 hk6_1; clear hk7_0 hk7_1; have nB1_ := Aside0.mk (blk_below BK1.out hb); have nO21_ := Aside0.mk (Kd.S_below HO21.out hb); have nO22_ := Aside0.mk (Kd.S_below HO22.out hb); have nB4_ := Aside0.mk (blk_below BK4.out hb); have nB6_ := Aside0.mk (blk_below BK6.out hb); have nO29_ := Aside0.mk (Kd.S_below HO29.out hb); have nB7_ := Aside0.mk (blk_below BK7.out hb); have nO43_ := Aside0.mk (Kd.S_below HO43.out hb); have nHB_ := Aside0.mk (below_step HB.out hb); have nHT_ := Aside0.mk (Nat.le_trans HT.out hb.size); clear BK1 HO21 HO22 BK4 BK6 HO29 BK7 HO43 HB HT; have BK1 := nB1_; have HO21 := nO21_; have HO22 := nO22_; have BK4 := nB4_; have BK6 := nB6_; have HO29 := nO29_; have BK7 := nB7_; have HO43 := nO43_; have HB := nHB_; have HT := nHT_; clear nB1_ nO21_ nO22_ nB4_ nB6_ nO29_ nB7_ nO43_ nHB_ nHT_; clear hb; have hk1_0 : W20.cell? ⟨g1, 0, none⟩ = some (.int .i64 a0_0) := (blk_cell BK1.out 0).trans rfl; have hk1_1 : W20.cell? ⟨g1, 1, none⟩ = some (.slice A0_1 l0_1.length c0_1) := (blk_cell BK1.out 1).trans rfl; have hk4_0 : W20.cell? ⟨g4, 0, none⟩ = some (.int .i64 r22_0) := (blk_cell BK4.out 0).trans rfl; have hk4_1 : W20.cell? ⟨g4, 1, none⟩ = some (.slice Ao22 r22_1.length co22) := (blk_cell BK4.out 1).trans rfl; have hk6_0 : W20.cell? ⟨g6, 0, none⟩ = some (.int .i64 r26_0) := (blk_cell BK6.out 0).trans rfl; have hk6_1 : W20.cell? ⟨g6, 1, none⟩ = some (.slice Ao26 r26_1.length co26) := (blk_cell BK6.out 1).trans rfl; have hk7_0 : W20.cell? ⟨g7, 0, none⟩ = some (.int .i64 r29_0) := (blk_cell BK7.out 0).trans rfl; have hk7_1 : W20.cell? ⟨g7, 1, none⟩ = some (.slice Ao29 r29_1.length co29) := (blk_cell BK7.out 1).trans rfl)
    | ((with_reducible refine gate_dst (N := 75) rfl ?_); refine goesL_ (some 75) rfl rfl Try.func26 (by kernel_rfl) rfl #[.agg #[.int .i64 a0_0, .slice A0_1 l0_1.length c0_1]] rfl (by (try simp only [List.map_toArray, List.map_cons, List.map_nil]); first | done | rfl | (simp only [List.length_drop, List.length_take]; rfl)) ?_; refine (laws_toBook.calls k a0_0 _ _ l0_1 r75_0 r75_1 _ (Kd.C_below HR0_1.out HB.out) HC0_1.out E75.out).mono ?_; rintro e W21 ⟨v75, rfl, ho, hb⟩; refine ⟨_, rfl, ?_⟩; clear hk1_0 hk1_1; clear hk4_0 hk4_1; clear hk6_0 hk6_1; clear hk7_0 hk7_1; have nOn_ := Kd.S_lower (Kd.S_bound ho) HB.out.size; have hle_ := HT.out; have nB1_ := Aside0.mk (blk_below BK1.out hb); have nO21_ := Aside0.mk (Kd.S_below HO21.out hb); have nO22_ := Aside0.mk (Kd.S_below HO22.out hb); have nB4_ := Aside0.mk (blk_below BK4.out hb); have nB6_ := Aside0.mk (blk_below BK6.out hb); have nO29_ := Aside0.mk (Kd.S_below HO29.out hb); have nB7_ := Aside0.mk (blk_below BK7.out hb); have nO43_ := Aside0.mk (Kd.S_below HO43.out hb); have nHB_ := Aside0.mk (below_step HB.out hb); have nHT_ := Aside0.mk (Nat.le_trans HT.out hb.size); clear BK1 HO21 HO22 BK4 BK6 HO29 BK7 HO43 HB HT; have BK1 := nB1_; have HO21 := nO21_; have HO22 := nO22_; have BK4 := nB4_; have BK6 := nB6_; have HO29 := nO29_; have BK7 := nB7_; have HO43 := nO43_; have HB := nHB_; have HT := nHT_; clear nB1_ nO21_ nO22_ nB4_ nB6_ nO29_ nB7_ nO43_ nHB_ nHT_; obtain ⟨T10, hT10⟩ : ∃ n_, n_ = W21.heap.size := ⟨_, rfl⟩; have ORD10 := Aside0.mk (show T9 ≤ T10 from by rw [hT10]; exact HT.out); clear HT; have HT := Aside0.mk (Nat.le_of_eq hT10); have HO75 := Aside0.mk (Kd.S_mono (ok' := fun k_ => T9 ≤ k_ ∧ k_ < T10) nOn_ (fun k_ hk_ => ⟨Nat.le_trans hle_ hk_.2.1, by rw [hT10]; exact hk_.2.2.1⟩)); clear nOn_ hle_ ho hT10; obtain ⟨Ao75, co75, eo75⟩ := Kd.S_slice HO75.out; subst eo75; clear hb; have hk1_0 : W21.cell? ⟨g1, 0, none⟩ = some (.int .i64 a0_0) := (blk_cell BK1.out 0).trans rfl; have hk1_1 : W21.cell? ⟨g1, 1, none⟩ = some (.slice A0_1 l0_1.length c0_1) := (blk_cell BK1.out 1).trans rfl; have hk4_0 : W21.cell? ⟨g4, 0, none⟩ = some (.int .i64 r22_0) := (blk_cell BK4.out 0).trans rfl; have hk4_1 : W21.cell? ⟨g4, 1, none⟩ = some (.slice Ao22 r22_1.length co22) := (blk_cell BK4.out 1).trans rfl; have hk6_0 : W21.cell? ⟨g6, 0, none⟩ = some (.int .i64 r26_0) := (blk_cell BK6.out 0).trans rfl; have hk6_1 : W21.cell? ⟨g6, 1, none⟩ = some (.slice Ao26 r26_1.length co26) := (blk_cell BK6.out 1).trans rfl; have hk7_0 : W21.cell? ⟨g7, 0, none⟩ = some (.int .i64 r29_0) := (blk_cell BK7.out 0).trans rfl; have hk7_1 : W21.cell? ⟨g7, 1, none⟩ = some (.slice Ao29 r29_1.length co29) := (blk_cell BK7.out 1).trans rfl)
    | ((with_reducible refine gate_dst (N := 76) rfl ?_); refine goesL_ (some 76) rfl rfl Try.func35 (by kernel_rfl) rfl #[.agg #[.int .i64 r75_0, .slice Ao75 r75_1.length co75]] rfl (by (try simp only [List.map_toArray, List.map_cons, List.map_nil]); first | done | rfl | (simp only [List.length_drop, List.length_take]; rfl)) ?_; refine (impl_Alloc.calls k r75_0 _ _ r75_1 r76_0 r76_1 r76_2 _ (Kd.S_reads' HO75.out).2.2 (Kd.S_reads' HO75.out).2.1 E76.out).mono ?_; rintro e W22 ⟨v76, rfl, ho, hb⟩; refine ⟨_, rfl, ?_⟩; clear hk1_0 hk1_1; clear hk4_0 hk4_1; clear hk6_0 hk6_1; clear hk7_0 hk7_1; have nOn_ := Kd.S_lower (Kd.S_bound ho) HB.out.size; have hle_ := HT.out; have nB1_ := Aside0.mk (blk_below BK1.out hb); have nO21_ := Aside0.mk (Kd.S_below HO21.out hb); have nO22_ := Aside0.mk (Kd.S_below HO22.out hb); have nB4_ := Aside0.mk (blk_below BK4.out hb); have nB6_ := Aside0.mk (blk_below BK6.out hb); have nO29_ := Aside0.mk (Kd.S_below HO29.out hb); have nB7_ := Aside0.mk (blk_below BK7.out hb); have nO43_ := Aside0.mk (Kd.S_below HO43.out hb); have nO75_ := Aside0.mk (Kd.S_below HO75.out hb); have nHB_ := Aside0.mk (below_step HB.out hb); have nHT_ := Aside0.mk (Nat.le_trans HT.out hb.size); clear BK1 HO21 HO22 BK4 BK6 HO29 BK7 HO43 HO75 HB HT; have BK1 := nB1_; have HO21 := nO21_; have HO22 := nO22_; have BK4 := nB4_; have BK6 := nB6_; have HO29 := nO29_; have BK7 := nB7_; have HO43 := nO43_; have HO75 := nO75_; have HB := nHB_; have HT := nHT_; clear nB1_ nO21_ nO22_ nB4_ nB6_ nO29_ nB7_ nO43_ nO75_ nHB_ nHT_; obtain ⟨T11, hT11⟩ : ∃ n_, n_ = W22.heap.size := ⟨_, rfl⟩; have ORD11 := Aside0.mk (show T10 ≤ T11 from by rw [hT11]; exact HT.out); clear HT; have HT := Aside0.mk (Nat.le_of_eq hT11); have HO76 := Aside0.mk (Kd.S_mono (ok' := fun k_ => T10 ≤ k_ ∧ k_ < T11) nOn_ (fun k_ hk_ => ⟨Nat.le_trans hle_ hk_.2.1, by rw [hT11]; exact hk_.2.2.1⟩)); clear nOn_ hle_ ho hT11; obtain ⟨Ao76, co76, eo76⟩ := Kd.S_slice HO76.out; subst eo76; clear hb; have hk1_0 : W22.cell? ⟨g1, 0, none⟩ = some (.int .i64 a0_0) := (blk_cell BK1.out 0).trans rfl; have hk1_1 : W22.cell? ⟨g1, 1, none⟩ = some (.slice A0_1 l0_1.length c0_1) := (blk_cell BK1.out 1).trans rfl; have hk4_0 : W22.cell? ⟨g4, 0, none⟩ = some (.int .i64 r22_0) := (blk_cell BK4.out 0).trans rfl; have hk4_1 : W22.cell? ⟨g4, 1, none⟩ = some (.slice Ao22 r22_1.length co22) := (blk_cell BK4.out 1).trans rfl; have hk6_0 : W22.cell? ⟨g6, 0, none⟩ = some (.int .i64 r26_0) := (blk_cell BK6.out 0).trans rfl; have hk6_1 : W22.cell? ⟨g6, 1, none⟩ = some (.slice Ao26 r26_1.length co26) := (blk_cell BK6.out 1).trans rfl; have hk7_0 : W22.cell? ⟨g7, 0, none⟩ = some (.int .i64 r29_0) := (blk_cell BK7.out 0).trans rfl; have hk7_1 : W22.cell? ⟨g7, 1, none⟩ = some (.slice Ao29 r29_1.length co29) := (blk_cell BK7.out 1).trans rfl)
    | ((with_reducible refine gate_dst (N := 12) rfl ?_); refine box_event ?hg (N := 12) ?hd (cs := #[.int .i64 0, .slice none 0 0]) (t := 49) ?hr ?_; (case hd => rfl); (case hg => rfl); (case hr => first | (go_simp; done) | (go_simp; rfl)); intro g12 hg W23 hbox hb; have hs12_0 : W23.cell? ⟨g12, 0, none⟩ = some (.int .i64 0) := (blk_cell hbox 0).trans rfl; have hf12_0 := blk_frozen hbox 0; have hs12_1 : W23.cell? ⟨g12, 1, none⟩ = some (.slice none 0 0) := (blk_cell hbox 1).trans rfl; have hf12_1 := blk_frozen hbox 1; have HG12 := Aside0.mk hg; have HX12 := Aside0.mk hbox; have HW12 := Aside0.mk hb; clear hg hbox hb)
    | ((with_reducible refine gate_store (t := 49) (p := 12) rfl ?_); refine store_event (t := 49) (p := 12) (v := ?vo12) (w1 := ((W23.setCell ⟨g12, 0, none⟩ (.int .i64 r76_0)).setCell ⟨g12, 1, none⟩ (.slice Ao76 r76_1.length co76))) ?hg ?ho ?hn ?hr ?_; (case ho => rfl); (case hg => rfl); (case hn => rfl); (case hr => first | (go_simp; done) | (go_simp; rfl)); intro W24 hw; have hb : Below W22.heap.size W22 W24 := (by rw [hw]; exact (below_set (below_set HW12.out (Nat.le_of_eq HG12.out.symm)) (Nat.le_of_eq HG12.out.symm))); have hbox : W24.heap[g12]? = some (.cells #[.int .i64 r76_0, .slice Ao76 r76_1.length co76] 49 (0, 0)) := (by rw [hw]; exact (blk_put (cs' := #[.int .i64 r76_0, .slice Ao76 r76_1.length co76]) (blk_put (cs' := #[.int .i64 r76_0, .slice none 0 0]) HX12.out 0 (.int .i64 r76_0) rfl) 1 (.slice Ao76 r76_1.length co76) rfl)); clear hw hs12_0 hf12_0 hs12_1 hf12_1; have hle_ : T11 ≤ g12 := (by rw [HG12.out]; exact HT.out); have hlt_ : g12 < W24.heap.size := blk_lt hbox; clear HG12 HX12 HW12; clear hk1_0 hk1_1; clear hk4_0 hk4_1; clear hk6_0 hk6_1; clear hk7_0 hk7_1; have nB1_ := Aside0.mk (blk_below BK1.out hb); have nO21_ := Aside0.mk (Kd.S_below HO21.out hb); have nO22_ := Aside0.mk (Kd.S_below HO22.out hb); have nB4_ := Aside0.mk (blk_below BK4.out hb); have nB6_ := Aside0.mk (blk_below BK6.out hb); have nO29_ := Aside0.mk (Kd.S_below HO29.out hb); have nB7_ := Aside0.mk (blk_below BK7.out hb); have nO43_ := Aside0.mk (Kd.S_below HO43.out hb); have nO75_ := Aside0.mk (Kd.S_below HO75.out hb); have nO76_ := Aside0.mk (Kd.S_below HO76.out hb); have nHB_ := Aside0.mk (below_step HB.out hb); have nHT_ := Aside0.mk (Nat.le_trans HT.out hb.size); clear BK1 HO21 HO22 BK4 BK6 HO29 BK7 HO43 HO75 HO76 HB HT; have BK1 := nB1_; have HO21 := nO21_; have HO22 := nO22_; have BK4 := nB4_; have BK6 := nB6_; have HO29 := nO29_; have BK7 := nB7_; have HO43 := nO43_; have HO75 := nO75_; have HO76 := nO76_; have HB := nHB_; have HT := nHT_; clear nB1_ nO21_ nO22_ nB4_ nB6_ nO29_ nB7_ nO43_ nO75_ nO76_ nHB_ nHT_; obtain ⟨T12, hT12⟩ : ∃ n_, n_ = W24.heap.size := ⟨_, rfl⟩; have ORD12 := Aside0.mk (show T11 ≤ T12 from by rw [hT12]; exact HT.out); clear HT; have HT := Aside0.mk (Nat.le_of_eq hT12); have BK12 := Aside0.mk hbox; have GB12 := Aside0.mk (show T11 ≤ g12 ∧ g12 < T12 from ⟨hle_, by rw [hT12]; exact hlt_⟩); clear hb hbox hle_ hlt_ hT12; have hk1_0 : W24.cell? ⟨g1, 0, none⟩ = some (.int .i64 a0_0) := (blk_cell BK1.out 0).trans rfl; have hk1_1 : W24.cell? ⟨g1, 1, none⟩ = some (.slice A0_1 l0_1.length c0_1) := (blk_cell BK1.out 1).trans rfl; have hk4_0 : W24.cell? ⟨g4, 0, none⟩ = some (.int .i64 r22_0) := (blk_cell BK4.out 0).trans rfl; have hk4_1 : W24.cell? ⟨g4, 1, none⟩ = some (.slice Ao22 r22_1.length co22) := (blk_cell BK4.out 1).trans rfl; have hk6_0 : W24.cell? ⟨g6, 0, none⟩ = some (.int .i64 r26_0) := (blk_cell BK6.out 0).trans rfl; have hk6_1 : W24.cell? ⟨g6, 1, none⟩ = some (.slice Ao26 r26_1.length co26) := (blk_cell BK6.out 1).trans rfl; have hk7_0 : W24.cell? ⟨g7, 0, none⟩ = some (.int .i64 r29_0) := (blk_cell BK7.out 0).trans rfl; have hk7_1 : W24.cell? ⟨g7, 1, none⟩ = some (.slice Ao29 r29_1.length co29) := (blk_cell BK7.out 1).trans rfl; have hk12_0 : W24.cell? ⟨g12, 0, none⟩ = some (.int .i64 r76_0) := (blk_cell BK12.out 0).trans rfl; have hk12_1 : W24.cell? ⟨g12, 1, none⟩ = some (.slice Ao76 r76_1.length co76) := (blk_cell BK12.out 1).trans rfl)
    | ((with_reducible refine gate_dst (N := 81) rfl ?_); refine goesL_ (some 81) rfl rfl Try.func29 (by kernel_rfl) rfl #[.agg #[.int .i64 r76_0, .slice Ao76 r76_1.length co76], .agg #[.int .i64 r22_0, .slice Ao22 r22_1.length co22]] rfl (by (try simp only [List.map_toArray, List.map_cons, List.map_nil]); first | done | rfl | (simp only [List.length_drop, List.length_take]; rfl)) ?_; refine (laws_eqBook.calls k r76_0 _ _ r76_1 r22_0 _ _ r22_1 true _ (Kd.S_reads' HO76.out).2.2 (Kd.S_reads' HO76.out).2.1 (Kd.S_reads' HO22.out).2.2 (Kd.S_reads' HO22.out).2.1 E81.out).mono ?_; rintro e W25 ⟨rfl, hb⟩; refine ⟨_, rfl, ?_⟩; clear hk1_0 hk1_1; clear hk4_0 hk4_1; clear hk6_0 hk6_1; clear hk7_0 hk7_1; clear hk12_0 hk12_1; have nB1_ := Aside0.mk (blk_below BK1.out hb); have nO21_ := Aside0.mk (Kd.S_below HO21.out hb); have nO22_ := Aside0.mk (Kd.S_below HO22.out hb); have nB4_ := Aside0.mk (blk_below BK4.out hb); have nB6_ := Aside0.mk (blk_below BK6.out hb); have nO29_ := Aside0.mk (Kd.S_below HO29.out hb); have nB7_ := Aside0.mk (blk_below BK7.out hb); have nO43_ := Aside0.mk (Kd.S_below HO43.out hb); have nO75_ := Aside0.mk (Kd.S_below HO75.out hb); have nO76_ := Aside0.mk (Kd.S_below HO76.out hb); have nB12_ := Aside0.mk (blk_below BK12.out hb); have nHB_ := Aside0.mk (below_step HB.out hb); have nHT_ := Aside0.mk (Nat.le_trans HT.out hb.size); clear BK1 HO21 HO22 BK4 BK6 HO29 BK7 HO43 HO75 HO76 BK12 HB HT; have BK1 := nB1_; have HO21 := nO21_; have HO22 := nO22_; have BK4 := nB4_; have BK6 := nB6_; have HO29 := nO29_; have BK7 := nB7_; have HO43 := nO43_; have HO75 := nO75_; have HO76 := nO76_; have BK12 := nB12_; have HB := nHB_; have HT := nHT_; clear nB1_ nO21_ nO22_ nB4_ nB6_ nO29_ nB7_ nO43_ nO75_ nO76_ nB12_ nHB_ nHT_; clear hb; have hk1_0 : W25.cell? ⟨g1, 0, none⟩ = some (.int .i64 a0_0) := (blk_cell BK1.out 0).trans rfl; have hk1_1 : W25.cell? ⟨g1, 1, none⟩ = some (.slice A0_1 l0_1.length c0_1) := (blk_cell BK1.out 1).trans rfl; have hk4_0 : W25.cell? ⟨g4, 0, none⟩ = some (.int .i64 r22_0) := (blk_cell BK4.out 0).trans rfl; have hk4_1 : W25.cell? ⟨g4, 1, none⟩ = some (.slice Ao22 r22_1.length co22) := (blk_cell BK4.out 1).trans rfl; have hk6_0 : W25.cell? ⟨g6, 0, none⟩ = some (.int .i64 r26_0) := (blk_cell BK6.out 0).trans rfl; have hk6_1 : W25.cell? ⟨g6, 1, none⟩ = some (.slice Ao26 r26_1.length co26) := (blk_cell BK6.out 1).trans rfl; have hk7_0 : W25.cell? ⟨g7, 0, none⟩ = some (.int .i64 r29_0) := (blk_cell BK7.out 0).trans rfl; have hk7_1 : W25.cell? ⟨g7, 1, none⟩ = some (.slice Ao29 r29_1.length co29) := (blk_cell BK7.out 1).trans rfl; have hk12_0 : W25.cell? ⟨g12, 0, none⟩ = some (.int .i64 r76_0) := (blk_cell BK12.out 0).trans rfl; have hk12_1 : W25.cell? ⟨g12, 1, none⟩ = some (.slice Ao76 r76_1.length co76) := (blk_cell BK12.out 1).trans rfl)
    | ((with_reducible refine gate_dst (N := 90) rfl ?_); refine goesL_ (some 90) rfl rfl Try.func33 (by kernel_rfl) rfl #[.agg #[.int .i64 r29_0, .slice Ao29 r29_1.length co29], .int .i64 1] rfl (by (try simp only [List.map_toArray, List.map_cons, List.map_nil]); first | done | rfl | (simp only [List.length_drop, List.length_take]; rfl)) ?_; refine calls_args (by rw [LN29.out]) ((laws_heldBook.calls k r29_0 Ao29 co29 r64_1 1 r90_0 _ (Kd.S_reads' HO29.out).2.2 (by rw [← LN29.out]; exact (Kd.S_reads' HO29.out).2.1) E90.out).mono ?_); rintro e W26 ⟨rfl, hb⟩; refine ⟨_, rfl, ?_⟩; clear hk1_0 hk1_1; clear hk4_0 hk4_1; clear hk6_0 hk6_1; clear hk7_0 hk7_1; clear hk12_0 hk12_1; have nB1_ := Aside0.mk (blk_below BK1.out hb); have nO21_ := Aside0.mk (Kd.S_below HO21.out hb); have nO22_ := Aside0.mk (Kd.S_below HO22.out hb); have nB4_ := Aside0.mk (blk_below BK4.out hb); have nB6_ := Aside0.mk (blk_below BK6.out hb); have nO29_ := Aside0.mk (Kd.S_below HO29.out hb); have nB7_ := Aside0.mk (blk_below BK7.out hb); have nO43_ := Aside0.mk (Kd.S_below HO43.out hb); have nO75_ := Aside0.mk (Kd.S_below HO75.out hb); have nO76_ := Aside0.mk (Kd.S_below HO76.out hb); have nB12_ := Aside0.mk (blk_below BK12.out hb); have nHB_ := Aside0.mk (below_step HB.out hb); have nHT_ := Aside0.mk (Nat.le_trans HT.out hb.size); clear BK1 HO21 HO22 BK4 BK6 HO29 BK7 HO43 HO75 HO76 BK12 HB HT; have BK1 := nB1_; have HO21 := nO21_; have HO22 := nO22_; have BK4 := nB4_; have BK6 := nB6_; have HO29 := nO29_; have BK7 := nB7_; have HO43 := nO43_; have HO75 := nO75_; have HO76 := nO76_; have BK12 := nB12_; have HB := nHB_; have HT := nHT_; clear nB1_ nO21_ nO22_ nB4_ nB6_ nO29_ nB7_ nO43_ nO75_ nO76_ nB12_ nHB_ nHT_; clear hb; have hk1_0 : W26.cell? ⟨g1, 0, none⟩ = some (.int .i64 a0_0) := (blk_cell BK1.out 0).trans rfl; have hk1_1 : W26.cell? ⟨g1, 1, none⟩ = some (.slice A0_1 l0_1.length c0_1) := (blk_cell BK1.out 1).trans rfl; have hk4_0 : W26.cell? ⟨g4, 0, none⟩ = some (.int .i64 r22_0) := (blk_cell BK4.out 0).trans rfl; have hk4_1 : W26.cell? ⟨g4, 1, none⟩ = some (.slice Ao22 r22_1.length co22) := (blk_cell BK4.out 1).trans rfl; have hk6_0 : W26.cell? ⟨g6, 0, none⟩ = some (.int .i64 r26_0) := (blk_cell BK6.out 0).trans rfl; have hk6_1 : W26.cell? ⟨g6, 1, none⟩ = some (.slice Ao26 r26_1.length co26) := (blk_cell BK6.out 1).trans rfl; have hk7_0 : W26.cell? ⟨g7, 0, none⟩ = some (.int .i64 r29_0) := (blk_cell BK7.out 0).trans rfl; have hk7_1 : W26.cell? ⟨g7, 1, none⟩ = some (.slice Ao29 r29_1.length co29) := (blk_cell BK7.out 1).trans rfl; have hk12_0 : W26.cell? ⟨g12, 0, none⟩ = some (.int .i64 r76_0) := (blk_cell BK12.out 0).trans rfl; have hk12_1 : W26.cell? ⟨g12, 1, none⟩ = some (.slice Ao76 r76_1.length co76) := (blk_cell BK12.out 1).trans rfl))
  go_ret
  exact ⟨rfl, HB.out⟩

end Go.Proofs.Ytngjaajcdbodeaa.All
