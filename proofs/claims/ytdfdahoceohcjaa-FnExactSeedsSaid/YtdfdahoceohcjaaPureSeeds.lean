/- Plain law of the printed seeds, the program's and the reference's. No condition. -/
import Derived.Test.YtdfdahoceohcjaaPureC
import Derived.Test.YtdfdahoceohcjaaAllx40
import Derived.Test.YtdfdahoceohcjaaAllx41
namespace Go.Proofs.Ytdfdahoceohcjaa.Pure
open Go.RowKit Go.Proofs.Ytdfdahoceohcjaa.All Go.Proofs.YtdfdahoceohcjaaW.PrintWords Go.Proofs.YtdfdahoceohcjaaW.PrintLast
set_option linter.unusedVariables false

theorem spec_Waste_f (a b : Bx) : spec_Waste.f a.f0 a.f1 a.f2 a.f3 b.f0 b.f1 b.f2 b.f3 = some (wasteB a b) := by
  simp only [spec_Waste.f, spec_Join_f, spec_Area_f, Option.bind_some]; rfl
theorem impl_Waste_f (a b : Bx) : impl_Waste.f a.f0 a.f1 a.f2 a.f3 b.f0 b.f1 b.f2 b.f3 = some (wasteB a b) := by
  simp only [impl_Waste.f, impl_Join_f, impl_Area_f, Option.bind_some]; rfl
/-! ### Seeds -/
/-- What the seeds r satisfy behind the pair (a, b) and all pairs from (i, k) on. -/
structure SeedOk (l : List En) (r : Nat × Nat) : Prop where
  lt : r.1 < r.2
  le : r.2 < l.length

theorem seeds_both (l : List En) (hl : l.length ≤ big) : ∀ (d i k a b : Nat), i < k → k ≤ l.length → a < b → b < l.length → (l.length - i) * (l.length + 1) + (l.length - k) ≤ d →
    ∃ r : Nat × Nat, SeedOk l r ∧ wasteB (bxAt l a) (bxAt l b) ≤ wasteB (bxAt l r.1) (bxAt l r.2) ∧
      (∀ m o, m < o → o < l.length → (i < m ∨ i = m ∧ k ≤ o) → wasteB (bxAt l m) (bxAt l o) ≤ wasteB (bxAt l r.1) (bxAt l r.2)) ∧
      Evn (fun q => spec_Seeds.l1 q l a b i k) ((r.1 : Int), (r.2 : Int)) ∧ Evn (fun q => impl_Seeds.l1 q l a b i k l.length i) ((r.1 : Int), (r.2 : Int)) := by
  intro d
  induction d with
  | zero =>
    intro i k a b hik hk hab hb hd
    exfalso
    have h1 : 1 ≤ l.length - i := by omega
    have := Nat.mul_le_mul h1 (Nat.le_refl (l.length + 1))
    omega
  | succ d ih =>
    intro i k a b hik hk hab hb hd
    by_cases hkl : k < l.length
    · have hd' : (l.length - i) * (l.length + 1) + (l.length - (k + 1)) ≤ d := by omega
      have e0 : ∀ j : Nat, rd_T73 l (j : Int) = l.getD j z73 := fun _ => rfl
      have hS : ∀ x y : Nat, spec_Waste.f ((rd_T73 l (x : Int)).f1.f0) ((rd_T73 l (x : Int)).f1.f1) ((rd_T73 l (x : Int)).f1.f2) ((rd_T73 l (x : Int)).f1.f3) ((rd_T73 l (y : Int)).f1.f0) ((rd_T73 l (y : Int)).f1.f1) ((rd_T73 l (y : Int)).f1.f2) ((rd_T73 l (y : Int)).f1.f3) = some (wasteB (bxAt l x) (bxAt l y)) := fun x y => spec_Waste_f (bxAt l x) (bxAt l y)
      have hI : ∀ x y : Nat, impl_Waste.f ((rd_T73 l (x : Int)).f1.f0) ((rd_T73 l (x : Int)).f1.f1) ((rd_T73 l (x : Int)).f1.f2) ((rd_T73 l (x : Int)).f1.f3) ((rd_T73 l (y : Int)).f1.f0) ((rd_T73 l (y : Int)).f1.f1) ((rd_T73 l (y : Int)).f1.f2) ((rd_T73 l (y : Int)).f1.f3) = some (wasteB (bxAt l x) (bxAt l y)) := fun x y => impl_Waste_f (bxAt l x) (bxAt l y)
      have s1 : ∀ q, spec_Seeds.l1 (q + 1) l (a : Int) (b : Int) (i : Int) (k : Int) = if wasteB (bxAt l i) (bxAt l k) > wasteB (bxAt l a) (bxAt l b) then spec_Seeds.l1 q l i k i (wrap64 ((k : Int) + 1)) else spec_Seeds.l1 q l a b i (wrap64 ((k : Int) + 1)) := by
        intro q
        rw [spec_Seeds.l1, if_pos (by omega), if_neg (by omega), if_pos (by omega), if_pos (by omega), if_pos (by omega), hS, Option.bind_some, if_pos (by omega), if_pos (by omega), if_pos (by omega), if_pos (by omega), hS, Option.bind_some]
      have s2 : ∀ q, impl_Seeds.l1 (q + 1) l (a : Int) (b : Int) (i : Int) (k : Int) l.length i = if wasteB (bxAt l i) (bxAt l k) > wasteB (bxAt l a) (bxAt l b) then impl_Seeds.l1 q l i k i (wrap64 ((k : Int) + 1)) l.length i else impl_Seeds.l1 q l a b i (wrap64 ((k : Int) + 1)) l.length i := by
        intro q
        rw [impl_Seeds.l1, if_pos (by omega), if_pos (by omega), if_pos (by omega), if_pos (by omega), hI, Option.bind_some, if_pos (by omega), if_pos (by omega), if_pos (by omega), if_pos (by omega), hI, Option.bind_some]
      rw [wrap_succ hkl hl] at s1 s2
      by_cases hw : wasteB (bxAt l i) (bxAt l k) > wasteB (bxAt l a) (bxAt l b)
      · obtain ⟨r, ok, h1, h2, h3, h4⟩ := ih i (k + 1) i k (by omega) (by omega) hik hkl hd'
        refine ⟨r, ok, by omega, fun m o hmo ho hc => ?_, Evn.step s1 (Evn.pos hw h3), Evn.step s2 (Evn.pos hw h4)⟩
        rcases hc with hc | ⟨rfl, hc⟩
        · exact h2 m o hmo ho (.inl hc)
        · rcases Nat.eq_or_lt_of_le hc with rfl | hc
          · exact h1
          · exact h2 i o hmo ho (.inr ⟨rfl, hc⟩)
      · obtain ⟨r, ok, h1, h2, h3, h4⟩ := ih i (k + 1) a b (by omega) (by omega) hab hb hd'
        refine ⟨r, ok, h1, fun m o hmo ho hc => ?_, Evn.step s1 (Evn.neg hw h3), Evn.step s2 (Evn.neg hw h4)⟩
        rcases hc with hc | ⟨rfl, hc⟩
        · exact h2 m o hmo ho (.inl hc)
        · rcases Nat.eq_or_lt_of_le hc with rfl | hc
          · exact Int.le_trans (Int.not_lt.mp hw) h1
          · exact h2 i o hmo ho (.inr ⟨rfl, hc⟩)
    · have hkl' : k = l.length := by omega
      have s1 : ∀ q, spec_Seeds.l1 (q + 1) l (a : Int) (b : Int) (i : Int) (k : Int) = spec_Seeds.l0 q l a b (wrap64 ((i : Int) + 1)) := by
        intro q
        rw [spec_Seeds.l1, if_neg (by omega)]
      have s2 : ∀ q, impl_Seeds.l1 (q + 1) l (a : Int) (b : Int) (i : Int) (k : Int) l.length i = impl_Seeds.l0 q l a b l.length (wrap64 ((i : Int) + 1)) := by
        intro q
        rw [impl_Seeds.l1, if_neg (by omega)]
      rw [wrap_succ (show i < l.length by omega) hl] at s1 s2
      by_cases hil : i + 1 < l.length
      · have t1 : ∀ q, spec_Seeds.l0 (q + 1) l (a : Int) (b : Int) ((i + 1 : Nat) : Int) = spec_Seeds.l1 q l a b ((i + 1 : Nat) : Int) (wrap64 (((i + 1 : Nat) : Int) + 1)) := by
          intro q
          rw [spec_Seeds.l0, if_pos (by omega)]
        have t2 : ∀ q, impl_Seeds.l0 (q + 1) l (a : Int) (b : Int) l.length ((i + 1 : Nat) : Int) = impl_Seeds.l1 q l a b ((i + 1 : Nat) : Int) (wrap64 (((i + 1 : Nat) : Int) + 1)) l.length ((i + 1 : Nat) : Int) := by
          intro q
          rw [impl_Seeds.l0, if_pos (by omega)]
        rw [wrap_succ hil hl] at t1 t2
        have hdd : (l.length - (i + 1)) * (l.length + 1) + (l.length - (i + 1 + 1)) ≤ d := by
          have e : l.length - i = (l.length - (i + 1)) + 1 := by omega
          rw [e, Nat.add_mul, Nat.one_mul] at hd
          omega
        obtain ⟨r, ok, h1, h2, h3, h4⟩ := ih (i + 1) (i + 1 + 1) a b (by omega) (by omega) hab hb hdd
        refine ⟨r, ok, h1, fun m o hmo ho hc => ?_, Evn.step s1 (Evn.step t1 h3), Evn.step s2 (Evn.step t2 h4)⟩
        exact h2 m o hmo ho (by omega)
      · refine ⟨(a, b), ⟨hab, hb⟩, Int.le_refl _, fun m o hmo ho hc => by omega, Evn.step s1 (Evn.step (fun q => ?_) (Evn.ret _)), Evn.step s2 (Evn.step (fun q => ?_) (Evn.ret _))⟩
        · rw [spec_Seeds.l0, if_neg (by omega)]
        · rw [impl_Seeds.l0, if_neg (by omega)]

theorem seeds_few (l : List En) (h : l.length < 2) : Evn (fun q => spec_Seeds.f q l) (0, 0) ∧ Evn (fun q => impl_Seeds.f q l) (0, 0) := by
  refine ⟨?_, ?_⟩
  · unfold spec_Seeds.f
    by_cases h0 : l.length = 0
    · refine Evn.step (fun q => ?_) (Evn.ret _)
      rw [spec_Seeds.l0, if_neg (by omega)]
    · refine Evn.step (g' := fun q => spec_Seeds.l1 q l 0 0 0 1) (fun q => ?_) (Evn.step (g' := fun q => spec_Seeds.l0 q l 0 0 1) (fun q => ?_) (Evn.step (fun q => ?_) (Evn.ret _)))
      · rw [spec_Seeds.l0, if_pos (by omega), w01]
      · rw [spec_Seeds.l1, if_neg (by omega), w01]
      · rw [spec_Seeds.l0, if_neg (by omega)]
  · unfold impl_Seeds.f
    exact Evn.pos (by omega) (Evn.ret _)

theorem seeds_many (l : List En) (hl : l.length ≤ big) (h : 2 ≤ l.length) : ∃ r : Nat × Nat, SeedOk l r ∧ (∀ m o, m < o → o < l.length → wasteB (bxAt l m) (bxAt l o) ≤ wasteB (bxAt l r.1) (bxAt l r.2)) ∧
    Evn (fun q => spec_Seeds.f q l) ((r.1 : Int), (r.2 : Int)) ∧ Evn (fun q => impl_Seeds.f q l) ((r.1 : Int), (r.2 : Int)) := by
  obtain ⟨r, ok, h1, h2, h3, h4⟩ := seeds_both l hl _ 0 2 0 1 (by omega) (by omega) (by omega) (by omega) (Nat.le_refl _)
  refine ⟨r, ok, fun m o hmo ho => ?_, ?_, ?_⟩
  · by_cases hm : m = 0 ∧ o = 1
    · obtain ⟨rfl, rfl⟩ := hm
      exact h1
    · exact h2 m o hmo ho (by omega)
  · unfold spec_Seeds.f
    refine Evn.step (g' := fun q => spec_Seeds.l1 q l 0 0 0 1) (fun q => ?_) (Evn.step (g' := fun q => spec_Seeds.l1 q l 0 1 0 2) (fun q => ?_) h3)
    · rw [spec_Seeds.l0, if_pos (by omega), w01]
    · rw [spec_Seeds.l1, if_pos (by omega), if_pos rfl, w11]
  · unfold impl_Seeds.f
    refine Evn.neg (by omega) ?_
    have hI : ∀ x y : Nat, impl_Waste.f ((rd_T73 l (x : Int)).f1.f0) ((rd_T73 l (x : Int)).f1.f1) ((rd_T73 l (x : Int)).f1.f2) ((rd_T73 l (x : Int)).f1.f3) ((rd_T73 l (y : Int)).f1.f0) ((rd_T73 l (y : Int)).f1.f1) ((rd_T73 l (y : Int)).f1.f2) ((rd_T73 l (y : Int)).f1.f3) = some (wasteB (bxAt l x) (bxAt l y)) := fun x y => impl_Waste_f (bxAt l x) (bxAt l y)
    have hI01 := hI 0 1
    refine Evn.step (g' := fun q => impl_Seeds.l1 q l 0 1 0 1 l.length 0) (fun q => ?_) (Evn.step (g' := fun q => impl_Seeds.l1 q l 0 1 0 2 l.length 0) (fun q => ?_) h4)
    · rw [impl_Seeds.l0, if_pos (by omega), w01]
    · rw [impl_Seeds.l1, if_pos (by omega), if_pos (by omega), if_pos (by omega), if_pos (by omega)]
      have e : ∀ x : Option Int, (impl_Waste.f ((rd_T73 l 0).f1.f0) ((rd_T73 l 0).f1.f1) ((rd_T73 l 0).f1.f2) ((rd_T73 l 0).f1.f3) ((rd_T73 l 1).f1.f0) ((rd_T73 l 1).f1.f1) ((rd_T73 l 1).f1.f2) ((rd_T73 l 1).f1.f3)) = some (wasteB (bxAt l 0) (bxAt l 1)) := fun _ => hI01
      rw [e none, Option.bind_some, if_pos (by omega), if_pos (by omega), if_pos (by omega), if_pos (by omega), Option.bind_some, if_neg (by omega), w11]


end Go.Proofs.Ytdfdahoceohcjaa.Pure
