/- Opening of arguments: what reads as data of a type is of its kind. No condition. -/
import Derived.Test.YtngjaajcdbodeaaWd1
import Derived.Deep.Slices
import Derived.ChangeSame
import Derived.ChangeArms
namespace Go.Proofs.Ytngjaajcdbodeaa.Op
open Go.Proofs.YtngjaajcdbodeaaW.PrintWords
open Go.Deep
set_option linter.unusedVariables false

/-- What reads as data of type t is of the kind d, and good. -/
def Opens {α : Type} (P : Program) (t : TypeId) (d : Kd α) (good : α → Prop) : Prop :=
  ∀ {H : Type} {enc : TypeId × Value → H} {w : World} {base : Nat} {spare : Nat → Bool} {held : Bool} {fuel : Nat} {cs : List Value} {x : DataW H × List MemPlace},
    DataW.trod enc P w base spare held fuel t cs = some x → ∃ y, d.K w y cs ∧ good y

def goodInt (n : Int) : Prop := -9223372036854775808 ≤ n ∧ n ≤ 9223372036854775807

theorem goodInt_of_wf {n : Int} (h : (Lit.int .i64 n).wf = true) : goodInt n := by
  simp [Lit.wf, IntKind.min, IntKind.max, IntKind.signed, IntKind.bits] at h
  unfold goodInt
  omega

theorem opens_int {P : Program} {t : TypeId} (ht : P.underlying t = some (.int .i64)) : Opens P t (Kd.int .i64) goodInt := by
  intro H enc w base spare held fuel cs x h
  obtain ⟨n, rfl, _, hw⟩ := DataW.trod_int ht h
  exact ⟨n, rfl, goodInt_of_wf hw⟩

theorem opens_bool {P : Program} {t : TypeId} (ht : P.underlying t = some .bool) : Opens P t Kd.bool (fun _ => True) := by
  intro H enc w base spare held fuel cs x h
  obtain ⟨n, rfl, _⟩ := DataW.trod_bool ht h
  exact ⟨n, rfl, trivial⟩

theorem opens_slice {α : Type} {P : Program} {t e : TypeId} {d : Kd α} {good : α → Prop} (ht : P.underlying t = some (.slice e)) (hC : P.cellsOf e = d.sz) (he : Opens P e d good) :
    Opens P t (Kd.slice e d) (fun xs => xs.length ≤ 9223372036854775807 ∧ ∀ y ∈ xs, good y) := by
  intro H enc w base spare held fuel cs x h
  rcases open_slice ht h with ⟨rfl, _⟩ | ⟨a, len, cap, m, n, D, Pl, rfl, hb, hl, hm, hmm, rfl, hx⟩
  · exact ⟨[], ⟨none, 0, rfl, Nat.le_refl _, ⟨rfl, by simp, fun h => absurd h (Nat.lt_irrefl 0)⟩⟩, by simp, by simp⟩
  · have hlm : len ≤ m := by rw [hmm]; split <;> omega
    have hex : ∀ i : Nat, ∃ y : α ⊕ Unit, i < len → ∃ z cs', y = .inl z ∧ d.K w z cs' ∧ good z ∧ w.cells? base (a.add (i * d.sz)) d.sz = some cs' := by
      intro i
      by_cases hi : i < len
      · obtain ⟨cs', h1, h2⟩ := hx i (by omega)
        obtain ⟨z, hz, hg⟩ := he h2
        exact ⟨.inl z, fun _ => ⟨z, cs', rfl, hz, hg, by rw [← hC]; exact h1⟩⟩
      · exact ⟨.inr (), fun h => absurd h hi⟩
    obtain ⟨f, hf⟩ := Classical.axiomOfChoice hex
    have hlist : ∀ k, k ≤ len → ∃ ys : List α, ys.length = k ∧ ∀ i y, ys[i]? = some y → f i = .inl y := by
      intro k
      induction k with
      | zero => exact fun _ => ⟨[], rfl, fun i y h => by simp at h⟩
      | succ k ih =>
        intro hk
        obtain ⟨ys, hys, hall⟩ := ih (by omega)
        obtain ⟨z, cs', hz, _⟩ := hf k (by omega)
        refine ⟨ys ++ [z], by simp [hys], fun i y hy => ?_⟩
        rcases Nat.lt_or_ge i ys.length with hi | hi
        · rw [List.getElem?_append_left hi] at hy
          exact hall i y hy
        · have hik : i = k := by
            have := (List.getElem?_eq_some_iff.1 hy).1
            simp at this
            omega
          subst hik
          rw [List.getElem?_append_right (by omega)] at hy
          simp [hys] at hy
          rw [hz, hy]
    obtain ⟨ys, hys, hall⟩ := hlist len (Nat.le_refl _)
    have hget : ∀ i y, ys[i]? = some y → ∃ cs', d.K w y cs' ∧ good y ∧ w.cells? base (a.add (i * d.sz)) d.sz = some cs' := by
      intro i y hy
      have hi : i < len := by rw [← hys]; exact (List.getElem?_eq_some_iff.1 hy).1
      obtain ⟨z, cs', hz, hK, hg, hc⟩ := hf i hi
      have := hall i y hy
      rw [hz] at this
      cases this
      exact ⟨cs', hK, hg, hc⟩
    subst hys
    refine ⟨ys, ⟨some a, cap, rfl, hl, ⟨rfl, by unfold maxLen at hm; omega, fun _ => ⟨a, rfl, fun j p hp => ?_⟩⟩⟩, by unfold maxLen at hm; omega, fun y hy => ?_⟩
    · obtain ⟨cs', hK, _, hc⟩ := hget j p hp
      obtain ⟨_, hcl, hat⟩ := World.cells?_some hc
      refine ⟨cs', hcl, hK, fun i u hu => ?_⟩
      have hi : i < d.sz := by rw [← hcl]; exact (List.getElem?_eq_some_iff.1 hu).1
      have := hat i hi
      rw [← Go.Deep.add_add, this, hu]
    · obtain ⟨i, hi⟩ := List.getElem?_of_mem hy
      obtain ⟨_, _, hg, _⟩ := hget i y hi
      exact hg

theorem opens_pair2 {α β γ : Type} {P : Program} {t : TypeId} {f0 f1 : Field} {d0 : Kd α} {d1 : Kd β} {g0 : α → Prop} {g1 : β → Prop} (f : γ → α × β) (mk : α → β → γ) (hmk : ∀ a b, f (mk a b) = (a, b))
    (ht : P.underlying t = some (.struct #[f0, f1])) (hc : P.cellsOf t = d0.sz + d1.sz) (ho0 : f0.offset = 0) (ho1 : f1.offset = d0.sz) (hc0 : P.cellsOf f0.type = d0.sz) (hc1 : P.cellsOf f1.type = d1.sz)
    (h0 : Opens P f0.type d0 g0) (h1 : Opens P f1.type d1 g1) : Opens P t (Kd.iso (Kd.pair d0 d1) f) (fun y => g0 (f y).1 ∧ g1 (f y).2) := by
  intro H enc w base spare held fuel cs x h
  obtain ⟨y0, y1, n, _, hl, ht0, ht1⟩ := ChangeShapes.trod_struct2 ht h
  obtain ⟨a, ha, ga⟩ := h0 ht0
  obtain ⟨b, hb, gb⟩ := h1 ht1
  rw [ho0, hc0] at ha
  rw [ho1, hc1] at hb
  refine ⟨mk a b, ⟨_, _, ?_, by rw [hmk]; exact ha, by rw [hmk]; exact hb⟩, show g0 (f (mk a b)).1 ∧ g1 (f (mk a b)).2 by rw [hmk]; exact ⟨ga, gb⟩⟩
  rw [List.drop_zero, List.take_of_length_le (l := List.drop d0.sz cs) (by rw [List.length_drop]; omega), List.take_append_drop]

def goodByte (n : Int) : Prop := 0 ≤ n ∧ n ≤ 255

theorem opens_byte {P : Program} {t : TypeId} (ht : P.underlying t = some (.int .u8)) : Opens P t (Kd.int .u8) goodByte := by
  intro H enc w base spare held fuel cs x h
  obtain ⟨n, rfl, _, hw⟩ := DataW.trod_int ht h
  refine ⟨n, rfl, ?_⟩
  simp [Lit.wf, IntKind.min, IntKind.max, IntKind.signed, IntKind.bits] at hw
  unfold goodByte
  omega

theorem opens_int4 {γ : Type} {P : Program} {t : TypeId} {f0 f1 f2 f3 : Field} {g0 g1 g2 g3 : Int → Prop} (f : γ → Int × Int × Int × Int) (mk : Int → Int → Int → Int → γ) (hmk : ∀ a b c d, f (mk a b c d) = (a, b, c, d))
    (ht : P.underlying t = some (.struct #[f0, f1, f2, f3])) (hc : P.cellsOf t = 4) (ho0 : f0.offset = 0) (ho1 : f1.offset = 1) (ho2 : f2.offset = 2) (ho3 : f3.offset = 3)
    (hc0 : P.cellsOf f0.type = 1) (hc1 : P.cellsOf f1.type = 1) (hc2 : P.cellsOf f2.type = 1) (hc3 : P.cellsOf f3.type = 1)
    (h0 : Opens P f0.type (Kd.int .i64) g0) (h1 : Opens P f1.type (Kd.int .i64) g1) (h2 : Opens P f2.type (Kd.int .i64) g2) (h3 : Opens P f3.type (Kd.int .i64) g3) :
    Opens P t (Kd.iso (Kd.pair (Kd.int .i64) (Kd.pair (Kd.int .i64) (Kd.pair (Kd.int .i64) (Kd.int .i64)))) f) (fun y => g0 (f y).1 ∧ g1 (f y).2.1 ∧ g2 (f y).2.2.1 ∧ g3 (f y).2.2.2) := by
  intro H enc w base spare held fuel cs x h
  obtain ⟨xs, n, _, _, hl, hlen, hf⟩ := DataW.trod_struct ht h
  have hn : ∀ i, i < 4 → ∃ y, xs[i]? = some y := fun i hi => ⟨_, List.getElem?_eq_getElem (by rw [hlen]; exact hi)⟩
  obtain ⟨y0, e0⟩ := hn 0 (by omega)
  obtain ⟨y1, e1⟩ := hn 1 (by omega)
  obtain ⟨y2, e2⟩ := hn 2 (by omega)
  obtain ⟨y3, e3⟩ := hn 3 (by omega)
  obtain ⟨a, ha, ga⟩ := h0 ((hf 0 f0 rfl).trans e0)
  obtain ⟨b, hb, gb⟩ := h1 ((hf 1 f1 rfl).trans e1)
  obtain ⟨c, hcc, gc⟩ := h2 ((hf 2 f2 rfl).trans e2)
  obtain ⟨d, hd, gd⟩ := h3 ((hf 3 f3 rfl).trans e3)
  rw [ho0, hc0] at ha
  rw [ho1, hc1] at hb
  rw [ho2, hc2] at hcc
  rw [ho3, hc3] at hd
  rw [hc] at hl
  match cs, hl with
  | [v0, v1, v2, v3], _ =>
    have ea : v0 = .int .i64 a := by simpa [Kd.int, Kd.scalar] using ha
    have eb : v1 = .int .i64 b := by simpa [Kd.int, Kd.scalar] using hb
    have ec : v2 = .int .i64 c := by simpa [Kd.int, Kd.scalar] using hcc
    have ed : v3 = .int .i64 d := by simpa [Kd.int, Kd.scalar] using hd
    subst ea eb ec ed
    refine ⟨mk a b c d, ?_, ?_⟩
    · show (Kd.pair (Kd.int .i64) (Kd.pair (Kd.int .i64) (Kd.pair (Kd.int .i64) (Kd.int .i64)))).K w (f (mk a b c d)) _
      rw [hmk]
      exact ⟨[_], [_, _, _], rfl, rfl, ⟨[_], [_, _], rfl, rfl, ⟨[_], [_], rfl, rfl, rfl⟩⟩⟩
    · show g0 (f (mk a b c d)).1 ∧ g1 (f (mk a b c d)).2.1 ∧ g2 (f (mk a b c d)).2.2.1 ∧ g3 (f (mk a b c d)).2.2.2
      rw [hmk]
      exact ⟨ga, gb, gc, gd⟩

end Go.Proofs.Ytngjaajcdbodeaa.Op
