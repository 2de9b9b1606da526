/- Plain laws of the printed functions that choose: the seeds, the chosen entry, the next one. No condition. -/
import Derived.Test.YtdfdahoceohcjaaPureB
import Derived.Test.YtdfdahoceohcjaaAllx40
import Derived.Test.YtdfdahoceohcjaaAllx41
import Derived.Test.YtdfdahoceohcjaaAllx43
import Derived.Test.YtdfdahoceohcjaaAllx44
import Derived.Test.YtdfdahoceohcjaaAllx47
import Derived.Test.YtdfdahoceohcjaaAllx48
namespace Go.Proofs.Ytdfdahoceohcjaa.Pure
open Go.RowKit Go.Proofs.Ytdfdahoceohcjaa.All Go.Proofs.YtdfdahoceohcjaaW.PrintWords Go.Proofs.YtdfdahoceohcjaaW.PrintLast
set_option linter.unusedVariables false

def areaB (b : Bx) : Int := area b.f0 b.f1 b.f2 b.f3
def wasteB (a b : Bx) : Int := wrap64 (wrap64 (areaB (joinB a b) - areaB a) - areaB b)
def growB (a b : Bx) : Int := wrap64 (areaB (joinB a b) - areaB a)
def pullB (a b r : Bx) : Int := wrap64 (growB a r - growB b r)
theorem spec_Waste_f (a b : Bx) : spec_Waste.f a.f0 a.f1 a.f2 a.f3 b.f0 b.f1 b.f2 b.f3 = some (wasteB a b) := by
  simp only [spec_Waste.f, spec_Join_f, spec_Area_f, Option.bind_some]; rfl
theorem impl_Waste_f (a b : Bx) : impl_Waste.f a.f0 a.f1 a.f2 a.f3 b.f0 b.f1 b.f2 b.f3 = some (wasteB a b) := by
  simp only [impl_Waste.f, impl_Join_f, impl_Area_f, Option.bind_some]; rfl
theorem spec_Growth_f (a b : Bx) : spec_Growth.f a.f0 a.f1 a.f2 a.f3 b.f0 b.f1 b.f2 b.f3 = some (growB a b) := by
  simp only [spec_Growth.f, spec_Join_f, spec_Area_f, Option.bind_some]; rfl
theorem impl_Growth_f (a b : Bx) : impl_Growth.f a.f0 a.f1 a.f2 a.f3 b.f0 b.f1 b.f2 b.f3 = some (growB a b) := by
  simp only [impl_Growth.f, impl_Join_f, impl_Area_f, Option.bind_some]; rfl
theorem spec_Pull_f (a b r : Bx) : spec_Pull.f a.f0 a.f1 a.f2 a.f3 b.f0 b.f1 b.f2 b.f3 r.f0 r.f1 r.f2 r.f3 = some (pullB a b r) := by
  simp only [spec_Pull.f, spec_Growth_f, Option.bind_some]; rfl
theorem impl_Pull_f (a b r : Bx) : impl_Pull.f a.f0 a.f1 a.f2 a.f3 b.f0 b.f1 b.f2 b.f3 r.f0 r.f1 r.f2 r.f3 = some (pullB a b r) := by
  simp only [impl_Pull.f, impl_Growth_f, Option.bind_some]; rfl

/-- The box of entry i. -/
def bxAt (l : List En) (i : Nat) : Bx := (l.getD i z73).f1

/-! ### Seeds -/
/-- What the seeds r satisfy behind the pair (a, b) and all pairs from (i, k) on. -/
structure SeedOk (l : List En) (r : Nat × Nat) : Prop where
  lt : r.1 < r.2
  le : r.2 < l.length

theorem seeds_both (l : List En) (hl : l.length ≤ big) : ∀ (d i k a b : Nat), i < k → k ≤ l.length → a < b → b < l.length → (l.length - i) * (l.length + 1) + (l.length - k) ≤ d →
    ∃ r : Nat × Nat, SeedOk l r ∧ wasteB (bxAt l a) (bxAt l b) ≤ wasteB (bxAt l r.1) (bxAt l r.2) ∧
      (∀ m o, m < o → o < l.length → (i < m ∨ i = m ∧ k ≤ o) → wasteB (bxAt l m) (bxAt l o) ≤ wasteB (bxAt l r.1) (bxAt l r.2)) ∧
      Evn (fun q => spec_Seeds.l1 q l a b i k) ((r.1 : Int), (r.2 : Int)) ∧ Evn (fun q => impl_Seeds.l1 q l a b i k l.length i) ((r.1 : Int), (r.2 : Int)) := by
  intro d
  induction d with
  | zero =>
    intro i k a b hik hk hab hb hd
    exfalso
    have h1 : 1 ≤ l.length - i := by omega
    have := Nat.mul_le_mul h1 (Nat.le_refl (l.length + 1))
    omega
  | succ d ih =>
    intro i k a b hik hk hab hb hd
    by_cases hkl : k < l.length
    · have hd' : (l.length - i) * (l.length + 1) + (l.length - (k + 1)) ≤ d := by omega
      have e0 : ∀ j : Nat, rd_T73 l (j : Int) = l.getD j z73 := fun _ => rfl
      have hS : ∀ x y : Nat, spec_Waste.f ((rd_T73 l (x : Int)).f1.f0) ((rd_T73 l (x : Int)).f1.f1) ((rd_T73 l (x : Int)).f1.f2) ((rd_T73 l (x : Int)).f1.f3) ((rd_T73 l (y : Int)).f1.f0) ((rd_T73 l (y : Int)).f1.f1) ((rd_T73 l (y : Int)).f1.f2) ((rd_T73 l (y : Int)).f1.f3) = some (wasteB (bxAt l x) (bxAt l y)) := fun x y => spec_Waste_f (bxAt l x) (bxAt l y)
      have hI : ∀ x y : Nat, impl_Waste.f ((rd_T73 l (x : Int)).f1.f0) ((rd_T73 l (x : Int)).f1.f1) ((rd_T73 l (x : Int)).f1.f2) ((rd_T73 l (x : Int)).f1.f3) ((rd_T73 l (y : Int)).f1.f0) ((rd_T73 l (y : Int)).f1.f1) ((rd_T73 l (y : Int)).f1.f2) ((rd_T73 l (y : Int)).f1.f3) = some (wasteB (bxAt l x) (bxAt l y)) := fun x y => impl_Waste_f (bxAt l x) (bxAt l y)
      have s1 : ∀ q, spec_Seeds.l1 (q + 1) l (a : Int) (b : Int) (i : Int) (k : Int) = if wasteB (bxAt l i) (bxAt l k) > wasteB (bxAt l a) (bxAt l b) then spec_Seeds.l1 q l i k i (wrap64 ((k : Int) + 1)) else spec_Seeds.l1 q l a b i (wrap64 ((k : Int) + 1)) := by
        intro q
        rw [spec_Seeds.l1, if_pos (by omega), if_neg (by omega), if_pos (by omega), if_pos (by omega), if_pos (by omega), hS, Option.bind_some, if_pos (by omega), if_pos (by omega), if_pos (by omega), if_pos (by omega), hS, Option.bind_some]
      have s2 : ∀ q, impl_Seeds.l1 (q + 1) l (a : Int) (b : Int) (i : Int) (k : Int) l.length i = if wasteB (bxAt l i) (bxAt l k) > wasteB (bxAt l a) (bxAt l b) then impl_Seeds.l1 q l i k i (wrap64 ((k : Int) + 1)) l.length i else impl_Seeds.l1 q l a b i (wrap64 ((k : Int) + 1)) l.length i := by
        intro q
        rw [impl_Seeds.l1, if_pos (by omega), if_pos (by omega), if_pos (by omega), if_pos (by omega), hI, Option.bind_some, if_pos (by omega), if_pos (by omega), if_pos (by omega), if_pos (by omega), hI, Option.bind_some]
      rw [wrap_succ hkl hl] at s1 s2
      by_cases hw : wasteB (bxAt l i) (bxAt l k) > wasteB (bxAt l a) (bxAt l b)
      · obtain ⟨r, ok, h1, h2, h3, h4⟩ := ih i (k + 1) i k (by omega) (by omega) hik hkl hd'
        refine ⟨r, ok, by omega, fun m o hmo ho hc => ?_, Evn.step s1 (Evn.pos hw h3), Evn.step s2 (Evn.pos hw h4)⟩
        rcases hc with hc | ⟨rfl, hc⟩
        · exact h2 m o hmo ho (.inl hc)
        · rcases Nat.eq_or_lt_of_le hc with rfl | hc
          · exact h1
          · exact h2 i o hmo ho (.inr ⟨rfl, hc⟩)
      · obtain ⟨r, ok, h1, h2, h3, h4⟩ := ih i (k + 1) a b (by omega) (by omega) hab hb hd'
        refine ⟨r, ok, h1, fun m o hmo ho hc => ?_, Evn.step s1 (Evn.neg hw h3), Evn.step s2 (Evn.neg hw h4)⟩
        rcases hc with hc | ⟨rfl, hc⟩
        · exact h2 m o hmo ho (.inl hc)
        · rcases Nat.eq_or_lt_of_le hc with rfl | hc
          · exact Int.le_trans (Int.not_lt.mp hw) h1
          · exact h2 i o hmo ho (.inr ⟨rfl, hc⟩)
    · have hkl' : k = l.length := by omega
      have s1 : ∀ q, spec_Seeds.l1 (q + 1) l (a : Int) (b : Int) (i : Int) (k : Int) = spec_Seeds.l0 q l a b (wrap64 ((i : Int) + 1)) := by
        intro q
        rw [spec_Seeds.l1, if_neg (by omega)]
      have s2 : ∀ q, impl_Seeds.l1 (q + 1) l (a : Int) (b : Int) (i : Int) (k : Int) l.length i = impl_Seeds.l0 q l a b l.length (wrap64 ((i : Int) + 1)) := by
        intro q
        rw [impl_Seeds.l1, if_neg (by omega)]
      rw [wrap_succ (show i < l.length by omega) hl] at s1 s2
      by_cases hil : i + 1 < l.length
      · have t1 : ∀ q, spec_Seeds.l0 (q + 1) l (a : Int) (b : Int) ((i + 1 : Nat) : Int) = spec_Seeds.l1 q l a b ((i + 1 : Nat) : Int) (wrap64 (((i + 1 : Nat) : Int) + 1)) := by
          intro q
          rw [spec_Seeds.l0, if_pos (by omega)]
        have t2 : ∀ q, impl_Seeds.l0 (q + 1) l (a : Int) (b : Int) l.length ((i + 1 : Nat) : Int) = impl_Seeds.l1 q l a b ((i + 1 : Nat) : Int) (wrap64 (((i + 1 : Nat) : Int) + 1)) l.length ((i + 1 : Nat) : Int) := by
          intro q
          rw [impl_Seeds.l0, if_pos (by omega)]
        rw [wrap_succ hil hl] at t1 t2
        have hdd : (l.length - (i + 1)) * (l.length + 1) + (l.length - (i + 1 + 1)) ≤ d := by
          have e : l.length - i = (l.length - (i + 1)) + 1 := by omega
          rw [e, Nat.add_mul, Nat.one_mul] at hd
          omega
        obtain ⟨r, ok, h1, h2, h3, h4⟩ := ih (i + 1) (i + 1 + 1) a b (by omega) (by omega) hab hb hdd
        refine ⟨r, ok, h1, fun m o hmo ho hc => ?_, Evn.step s1 (Evn.step t1 h3), Evn.step s2 (Evn.step t2 h4)⟩
        exact h2 m o hmo ho (by omega)
      · refine ⟨(a, b), ⟨hab, hb⟩, Int.le_refl _, fun m o hmo ho hc => by omega, Evn.step s1 (Evn.step (fun q => ?_) (Evn.ret _)), Evn.step s2 (Evn.step (fun q => ?_) (Evn.ret _))⟩
        · rw [spec_Seeds.l0, if_neg (by omega)]
        · rw [impl_Seeds.l0, if_neg (by omega)]

theorem w01 : wrap64 (0 + 1) = 1 := wrap_small (by omega) (by omega)
theorem w11 : wrap64 (1 + 1) = 2 := wrap_small (by omega) (by omega)

theorem seeds_few (l : List En) (h : l.length < 2) : Evn (fun q => spec_Seeds.f q l) (0, 0) ∧ Evn (fun q => impl_Seeds.f q l) (0, 0) := by
  refine ⟨?_, ?_⟩
  · unfold spec_Seeds.f
    by_cases h0 : l.length = 0
    · refine Evn.step (fun q => ?_) (Evn.ret _)
      rw [spec_Seeds.l0, if_neg (by omega)]
    · refine Evn.step (g' := fun q => spec_Seeds.l1 q l 0 0 0 1) (fun q => ?_) (Evn.step (g' := fun q => spec_Seeds.l0 q l 0 0 1) (fun q => ?_) (Evn.step (fun q => ?_) (Evn.ret _)))
      · rw [spec_Seeds.l0, if_pos (by omega), w01]
      · rw [spec_Seeds.l1, if_neg (by omega), w01]
      · rw [spec_Seeds.l0, if_neg (by omega)]
  · unfold impl_Seeds.f
    exact Evn.pos (by omega) (Evn.ret _)

theorem seeds_many (l : List En) (hl : l.length ≤ big) (h : 2 ≤ l.length) : ∃ r : Nat × Nat, SeedOk l r ∧ (∀ m o, m < o → o < l.length → wasteB (bxAt l m) (bxAt l o) ≤ wasteB (bxAt l r.1) (bxAt l r.2)) ∧
    Evn (fun q => spec_Seeds.f q l) ((r.1 : Int), (r.2 : Int)) ∧ Evn (fun q => impl_Seeds.f q l) ((r.1 : Int), (r.2 : Int)) := by
  obtain ⟨r, ok, h1, h2, h3, h4⟩ := seeds_both l hl _ 0 2 0 1 (by omega) (by omega) (by omega) (by omega) (Nat.le_refl _)
  refine ⟨r, ok, fun m o hmo ho => ?_, ?_, ?_⟩
  · by_cases hm : m = 0 ∧ o = 1
    · obtain ⟨rfl, rfl⟩ := hm
      exact h1
    · exact h2 m o hmo ho (by omega)
  · unfold spec_Seeds.f
    refine Evn.step (g' := fun q => spec_Seeds.l1 q l 0 0 0 1) (fun q => ?_) (Evn.step (g' := fun q => spec_Seeds.l1 q l 0 1 0 2) (fun q => ?_) h3)
    · rw [spec_Seeds.l0, if_pos (by omega), w01]
    · rw [spec_Seeds.l1, if_pos (by omega), if_pos rfl, w11]
  · unfold impl_Seeds.f
    refine Evn.neg (by omega) ?_
    have hI : ∀ x y : Nat, impl_Waste.f ((rd_T73 l (x : Int)).f1.f0) ((rd_T73 l (x : Int)).f1.f1) ((rd_T73 l (x : Int)).f1.f2) ((rd_T73 l (x : Int)).f1.f3) ((rd_T73 l (y : Int)).f1.f0) ((rd_T73 l (y : Int)).f1.f1) ((rd_T73 l (y : Int)).f1.f2) ((rd_T73 l (y : Int)).f1.f3) = some (wasteB (bxAt l x) (bxAt l y)) := fun x y => impl_Waste_f (bxAt l x) (bxAt l y)
    have hI01 := hI 0 1
    refine Evn.step (g' := fun q => impl_Seeds.l1 q l 0 1 0 1 l.length 0) (fun q => ?_) (Evn.step (g' := fun q => impl_Seeds.l1 q l 0 1 0 2 l.length 0) (fun q => ?_) h4)
    · rw [impl_Seeds.l0, if_pos (by omega), w01]
    · rw [impl_Seeds.l1, if_pos (by omega), if_pos (by omega), if_pos (by omega), if_pos (by omega)]
      have e : ∀ x : Option Int, (impl_Waste.f ((rd_T73 l 0).f1.f0) ((rd_T73 l 0).f1.f1) ((rd_T73 l 0).f1.f2) ((rd_T73 l 0).f1.f3) ((rd_T73 l 1).f1.f0) ((rd_T73 l 1).f1.f1) ((rd_T73 l 1).f1.f2) ((rd_T73 l 1).f1.f3)) = some (wasteB (bxAt l 0) (bxAt l 1)) := fun _ => hI01
      rw [e none, Option.bind_some, if_pos (by omega), if_pos (by omega), if_pos (by omega), if_pos (by omega), Option.bind_some, if_neg (by omega), w11]

/-! ### Choose -/
def chStep (l : List En) (r : Bx) (b i : Nat) : Nat :=
  if growB (bxAt l i) r < growB (bxAt l b) r then i else if growB (bxAt l i) r = growB (bxAt l b) r then (if areaB (bxAt l i) < areaB (bxAt l b) then i else b) else b
def chN (l : List En) (r : Bx) : Nat → Nat
  | 0 => 0
  | i + 1 => chStep l r (chN l r i) (i + 1)
theorem chStep_le (l : List En) (r : Bx) (b i : Nat) (h : b ≤ i) : chStep l r b i ≤ i := by
  unfold chStep
  split
  · omega
  · split
    · split <;> omega
    · omega
theorem chN_le (l : List En) (r : Bx) : ∀ i, chN l r i ≤ i
  | 0 => Nat.le_refl _
  | i + 1 => chStep_le l r _ _ (Nat.le_succ_of_le (chN_le l r i))
theorem chN_least (l : List En) (r : Bx) : ∀ i m, m ≤ i → growB (bxAt l (chN l r i)) r ≤ growB (bxAt l m) r
  | 0, m, h => by
    have : m = 0 := by omega
    subst this
    exact Int.le_refl _
  | i + 1, m, h => by
    have ih := chN_least l r i
    have step : growB (bxAt l (chN l r (i + 1))) r ≤ growB (bxAt l (chN l r i)) r ∧ growB (bxAt l (chN l r (i + 1))) r ≤ growB (bxAt l (i + 1)) r := by
      show growB (bxAt l (chStep l r (chN l r i) (i + 1))) r ≤ _ ∧ growB (bxAt l (chStep l r (chN l r i) (i + 1))) r ≤ _
      unfold chStep
      split
      · exact ⟨by omega, Int.le_refl _⟩
      · split
        · split
          · exact ⟨by omega, Int.le_refl _⟩
          · exact ⟨Int.le_refl _, by omega⟩
        · exact ⟨Int.le_refl _, by omega⟩
    rcases Nat.eq_or_lt_of_le h with rfl | h
    · exact step.2
    · exact Int.le_trans step.1 (ih m (by omega))

theorem choose_none (r : Bx) : Evn (fun q => spec_Choose.f q [] r.f0 r.f1 r.f2 r.f3) (-1) ∧ Evn (fun q => impl_Choose.f q [] r.f0 r.f1 r.f2 r.f3) (-1) := by
  refine ⟨Evn.step (fun q => ?_) (Evn.ret _), Evn.step (fun q => ?_) (Evn.ret _)⟩
  · unfold spec_Choose.f
    rw [spec_Choose.l0, if_neg (by simp)]
  · unfold impl_Choose.f
    rw [impl_Choose.l0, if_neg (by simp)]

theorem choose_some (l : List En) (r : Bx) (hl : l.length ≤ big) (n : Nat) (hn : l.length = n + 1) :
    Evn (fun q => spec_Choose.f q l r.f0 r.f1 r.f2 r.f3) (chN l r n : Int) ∧ Evn (fun q => impl_Choose.f q l r.f0 r.f1 r.f2 r.f3) (chN l r n : Int) := by
  have hG : ∀ x : Nat, spec_Growth.f ((rd_T73 l (x : Int)).f1.f0) ((rd_T73 l (x : Int)).f1.f1) ((rd_T73 l (x : Int)).f1.f2) ((rd_T73 l (x : Int)).f1.f3) r.f0 r.f1 r.f2 r.f3 = some (growB (bxAt l x) r) := fun x => spec_Growth_f (bxAt l x) r
  have hG' : ∀ x : Nat, impl_Growth.f ((rd_T73 l (x : Int)).f1.f0) ((rd_T73 l (x : Int)).f1.f1) ((rd_T73 l (x : Int)).f1.f2) ((rd_T73 l (x : Int)).f1.f3) r.f0 r.f1 r.f2 r.f3 = some (growB (bxAt l x) r) := fun x => impl_Growth_f (bxAt l x) r
  have hA : ∀ x : Nat, spec_Area.f ((rd_T73 l (x : Int)).f1.f0) ((rd_T73 l (x : Int)).f1.f1) ((rd_T73 l (x : Int)).f1.f2) ((rd_T73 l (x : Int)).f1.f3) = some (areaB (bxAt l x)) := fun x => spec_Area_f _ _ _ _
  have hA' : ∀ x : Nat, impl_Area.f ((rd_T73 l (x : Int)).f1.f0) ((rd_T73 l (x : Int)).f1.f1) ((rd_T73 l (x : Int)).f1.f2) ((rd_T73 l (x : Int)).f1.f3) = some (areaB (bxAt l x)) := fun x => impl_Area_f _ _ _ _
  refine ⟨?_, ?_⟩
  · unfold spec_Choose.f
    refine Evn.step (g' := fun q => spec_Choose.l0 q l (chN l r 0 : Int) ((0 + 1 : Nat) : Int) r.f0 r.f1 r.f2 r.f3) (fun q => ?_) ?_
    · rw [spec_Choose.l0, if_pos (by omega), if_pos (by omega), w01]
      rfl
    refine down (P := fun j => Evn (fun q => spec_Choose.l0 q l (chN l r j : Int) ((j + 1 : Nat) : Int) r.f0 r.f1 r.f2 r.f3) (chN l r n : Int)) n (fun j hj h => ?_) ?_
    · have hb := chN_le l r j
      refine Evn.step (g' := fun q => spec_Choose.l0 q l (chN l r (j + 1) : Int) ((j + 1 + 1 : Nat) : Int) r.f0 r.f1 r.f2 r.f3) (fun q => ?_) h
      rw [spec_Choose.l0, if_pos (by omega), if_neg (by omega), if_pos (by omega), hG, Option.bind_some, if_pos (by omega), if_pos (by omega), hG, Option.bind_some, hA, Option.bind_some, hA, Option.bind_some, wrap_succ (show j + 1 < l.length by omega) hl]
      show _ = spec_Choose.l0 q l (chStep l r (chN l r j) (j + 1) : Int) ((j + 1 + 1 : Nat) : Int) r.f0 r.f1 r.f2 r.f3
      unfold chStep
      split
      · rfl
      · split
        · split <;> rfl
        · rfl
    · refine Evn.step (fun q => ?_) (Evn.ret _)
      rw [spec_Choose.l0, if_neg (by omega)]
  · unfold impl_Choose.f
    refine Evn.step (g' := fun q => impl_Choose.l0 q l (chN l r 0 : Int) l l.length ((0 + 1 : Nat) : Int) r.f0 r.f1 r.f2 r.f3) (fun q => ?_) ?_
    · rw [impl_Choose.l0, if_pos (by omega), if_pos (by omega), if_pos (by omega), if_pos (by omega), w01]
      rfl
    refine down (P := fun j => Evn (fun q => impl_Choose.l0 q l (chN l r j : Int) l l.length ((j + 1 : Nat) : Int) r.f0 r.f1 r.f2 r.f3) (chN l r n : Int)) n (fun j hj h => ?_) ?_
    · have hb := chN_le l r j
      refine Evn.step (g' := fun q => impl_Choose.l0 q l (chN l r (j + 1) : Int) l l.length ((j + 1 + 1 : Nat) : Int) r.f0 r.f1 r.f2 r.f3) (fun q => ?_) h
      rw [impl_Choose.l0, if_pos (by omega), if_pos (by omega), if_pos (by omega), if_neg (by omega), hG', Option.bind_some, if_pos (by omega), if_pos (by omega), hG', Option.bind_some, hA', Option.bind_some, hA', Option.bind_some, wrap_succ (show j + 1 < l.length by omega) hl]
      show _ = impl_Choose.l0 q l (chStep l r (chN l r j) (j + 1) : Int) l l.length ((j + 1 + 1 : Nat) : Int) r.f0 r.f1 r.f2 r.f3
      unfold chStep
      split
      · rfl
      · split
        · split <;> rfl
        · rfl
    · refine Evn.step (fun q => ?_) (Evn.ret _)
      rw [impl_Choose.l0, if_neg (by omega)]

/-! ### NextOf -/
def absW (n : Int) : Int := if n < 0 then wrap64 (-n) else n
def nxStep (l : List En) (a b : Bx) (m i : Nat) : Nat := if absW (pullB a b (bxAt l i)) > absW (pullB a b (bxAt l m)) then i else m
def nxN (l : List En) (a b : Bx) : Nat → Nat
  | 0 => 0
  | i + 1 => nxStep l a b (nxN l a b i) (i + 1)
theorem nxN_le (l : List En) (a b : Bx) : ∀ i, nxN l a b i ≤ i
  | 0 => Nat.le_refl _
  | i + 1 => by
    have := nxN_le l a b i
    show nxStep l a b (nxN l a b i) (i + 1) ≤ i + 1
    unfold nxStep
    split <;> omega
theorem absW_f (n : Int) : spec_l9Abs.f n = some (absW n) := by
  unfold spec_l9Abs.f absW
  split <;> rfl

theorem nextOf_none (a b : Bx) : Evn (fun q => spec_NextOf.f q [] a.f0 a.f1 a.f2 a.f3 b.f0 b.f1 b.f2 b.f3) (-1) ∧ Evn (fun q => impl_NextOf.f q [] a.f0 a.f1 a.f2 a.f3 b.f0 b.f1 b.f2 b.f3) (-1) := by
  refine ⟨Evn.step (fun q => ?_) (Evn.ret _), Evn.step (fun q => ?_) (Evn.ret _)⟩
  · unfold spec_NextOf.f
    rw [spec_NextOf.l0, if_neg (by simp)]
  · unfold impl_NextOf.f
    rw [impl_NextOf.l0, if_neg (by simp)]

theorem nextOf_some (l : List En) (a b : Bx) (hl : l.length ≤ big) (n : Nat) (hn : l.length = n + 1) :
    Evn (fun q => spec_NextOf.f q l a.f0 a.f1 a.f2 a.f3 b.f0 b.f1 b.f2 b.f3) (nxN l a b n : Int) ∧ Evn (fun q => impl_NextOf.f q l a.f0 a.f1 a.f2 a.f3 b.f0 b.f1 b.f2 b.f3) (nxN l a b n : Int) := by
  have hG : ∀ x : Nat, spec_Pull.f a.f0 a.f1 a.f2 a.f3 b.f0 b.f1 b.f2 b.f3 ((rd_T73 l (x : Int)).f1.f0) ((rd_T73 l (x : Int)).f1.f1) ((rd_T73 l (x : Int)).f1.f2) ((rd_T73 l (x : Int)).f1.f3) = some (pullB a b (bxAt l x)) := fun x => spec_Pull_f a b (bxAt l x)
  have hG' : ∀ x : Nat, impl_Pull.f a.f0 a.f1 a.f2 a.f3 b.f0 b.f1 b.f2 b.f3 ((rd_T73 l (x : Int)).f1.f0) ((rd_T73 l (x : Int)).f1.f1) ((rd_T73 l (x : Int)).f1.f2) ((rd_T73 l (x : Int)).f1.f3) = some (pullB a b (bxAt l x)) := fun x => impl_Pull_f a b (bxAt l x)
  have hG0 : impl_Pull.f a.f0 a.f1 a.f2 a.f3 b.f0 b.f1 b.f2 b.f3 ((rd_T73 l 0).f1.f0) ((rd_T73 l 0).f1.f1) ((rd_T73 l 0).f1.f2) ((rd_T73 l 0).f1.f3) = some (pullB a b (bxAt l 0)) := hG' 0
  refine ⟨?_, ?_⟩
  · unfold spec_NextOf.f
    refine Evn.step (g' := fun q => spec_NextOf.l0 q l (nxN l a b 0 : Int) ((0 + 1 : Nat) : Int) a.f0 a.f1 a.f2 a.f3 b.f0 b.f1 b.f2 b.f3) (fun q => ?_) ?_
    · rw [spec_NextOf.l0, if_pos (by omega), if_pos (by omega), w01]
      rfl
    refine down (P := fun j => Evn (fun q => spec_NextOf.l0 q l (nxN l a b j : Int) ((j + 1 : Nat) : Int) a.f0 a.f1 a.f2 a.f3 b.f0 b.f1 b.f2 b.f3) (nxN l a b n : Int)) n (fun j hj h => ?_) ?_
    · have hb := nxN_le l a b j
      refine Evn.step (g' := fun q => spec_NextOf.l0 q l (nxN l a b (j + 1) : Int) ((j + 1 + 1 : Nat) : Int) a.f0 a.f1 a.f2 a.f3 b.f0 b.f1 b.f2 b.f3) (fun q => ?_) h
      rw [spec_NextOf.l0, if_pos (by omega), if_neg (by omega), if_pos (by omega), hG, Option.bind_some, absW_f, Option.bind_some, if_pos (by omega), if_pos (by omega), hG, Option.bind_some, absW_f, Option.bind_some, wrap_succ (show j + 1 < l.length by omega) hl]
      show _ = spec_NextOf.l0 q l (nxStep l a b (nxN l a b j) (j + 1) : Int) ((j + 1 + 1 : Nat) : Int) a.f0 a.f1 a.f2 a.f3 b.f0 b.f1 b.f2 b.f3
      unfold nxStep
      split <;> rfl
    · refine Evn.step (fun q => ?_) (Evn.ret _)
      rw [spec_NextOf.l0, if_neg (by omega)]
  · unfold impl_NextOf.f
    refine Evn.step (g' := fun q => impl_NextOf.l0 q (nxN l a b 0 : Int) (absW (pullB a b (bxAt l (nxN l a b 0)))) l l.length ((0 + 1 : Nat) : Int) a.f0 a.f1 a.f2 a.f3 b.f0 b.f1 b.f2 b.f3) (fun q => ?_) ?_
    · rw [impl_NextOf.l0, if_pos (by omega), if_pos (by omega), if_pos (by omega), hG0, Option.bind_some, w01]
      show _ = impl_NextOf.l0 q 0 (absW (pullB a b (bxAt l 0))) l l.length 1 a.f0 a.f1 a.f2 a.f3 b.f0 b.f1 b.f2 b.f3
      unfold absW
      split
      · rw [if_pos (by omega)]
      · rw [if_pos (by omega)]
    refine down (P := fun j => Evn (fun q => impl_NextOf.l0 q (nxN l a b j : Int) (absW (pullB a b (bxAt l (nxN l a b j)))) l l.length ((j + 1 : Nat) : Int) a.f0 a.f1 a.f2 a.f3 b.f0 b.f1 b.f2 b.f3) (nxN l a b n : Int)) n (fun j hj h => ?_) ?_
    · have hb := nxN_le l a b j
      refine Evn.step (g' := fun q => impl_NextOf.l0 q (nxN l a b (j + 1) : Int) (absW (pullB a b (bxAt l (nxN l a b (j + 1))))) l l.length ((j + 1 + 1 : Nat) : Int) a.f0 a.f1 a.f2 a.f3 b.f0 b.f1 b.f2 b.f3) (fun q => ?_) h
      rw [impl_NextOf.l0, if_pos (by omega), if_pos (by omega), if_pos (by omega), hG', Option.bind_some, wrap_succ (show j + 1 < l.length by omega) hl]
      show _ = impl_NextOf.l0 q (nxStep l a b (nxN l a b j) (j + 1) : Int) (absW (pullB a b (bxAt l (nxStep l a b (nxN l a b j) (j + 1))))) l l.length ((j + 1 + 1 : Nat) : Int) a.f0 a.f1 a.f2 a.f3 b.f0 b.f1 b.f2 b.f3
      have hneg : ¬ ((nxN l a b j : Nat) : Int) < 0 := by omega
      by_cases hp : pullB a b (bxAt l (j + 1)) < 0
      · have e : absW (pullB a b (bxAt l (j + 1))) = wrap64 (-(pullB a b (bxAt l (j + 1)))) := by unfold absW; rw [if_pos hp]
        rw [if_pos hp, if_neg hneg, ← e]
        unfold nxStep
        by_cases hc : absW (pullB a b (bxAt l (j + 1))) > absW (pullB a b (bxAt l (nxN l a b j)))
        · rw [if_pos hc, if_pos hc]
        · rw [if_neg hc, if_neg hc]
      · have e : absW (pullB a b (bxAt l (j + 1))) = pullB a b (bxAt l (j + 1)) := by unfold absW; rw [if_neg hp]
        rw [if_neg hp, if_neg hneg]
        unfold nxStep
        by_cases hc : absW (pullB a b (bxAt l (j + 1))) > absW (pullB a b (bxAt l (nxN l a b j)))
        · rw [if_pos hc, if_pos (by rw [← e]; exact hc), e]
        · rw [if_neg hc, if_neg (by rw [← e]; exact hc)]
    · refine Evn.step (fun q => ?_) (Evn.ret _)
      rw [impl_NextOf.l0, if_neg (by omega)]

end Go.Proofs.Ytdfdahoceohcjaa.Pure
