/- The walk over a book ends, and each page that it gives is there, is used, and comes once. No condition. -/
import Derived.Test.YthenmlaleobapaaPureBook
import Derived.Test.YthenmlaleobapaaHWalk
namespace Go.Proofs.Ythenmlaleobapaa.Pure
open Go.RowKit Go.Proofs.Ythenmlaleobapaa.All Go.Proofs.YthenmlaleobapaaW.PrintWords Go.Proofs.YthenmlaleobapaaW.PrintLast
set_option linter.unusedVariables false

theorem nodup_sub : ∀ (l u : List Int), l.Nodup → (∀ x ∈ l, x ∈ u) → l.length ≤ u.length
  | [], u, _, _ => Nat.zero_le _
  | a :: l, u, hn, hs => by
    rw [List.nodup_cons] at hn
    have ha : a ∈ u := hs a (List.mem_cons_self ..)
    have h1 := nodup_sub l (u.erase a) hn.2 (fun x hx => by
      have hne : x ≠ a := fun e => hn.1 (e ▸ hx)
      exact (List.mem_erase_of_ne hne).2 (hs x (List.mem_cons_of_mem _ hx)))
    rw [List.length_erase_of_mem ha] at h1
    have h2 := List.length_pos_of_mem ha
    simp only [List.length_cons]
    omega
theorem nodup_full (l u : List Int) (hn : l.Nodup) (hs : ∀ x ∈ l, x ∈ u) (hl : u.length ≤ l.length) : ∀ x ∈ u, x ∈ l := by
  intro x hx
  by_cases h : x ∈ l
  · exact h
  · have := nodup_sub (x :: l) u (List.nodup_cons.2 ⟨h, hn⟩) (fun y hy => by
      rcases List.mem_cons.1 hy with e | e
      · exact e ▸ hx
      · exact hs y e)
    simp only [List.length_cons] at this
    omega
def upto (n : Nat) : List Int := (List.range n).map fun (i : Nat) => (i : Int)
theorem upto_len (n : Nat) : (upto n).length = n := by simp [upto]
theorem mem_upto {n : Nat} {x : Int} : x ∈ upto n ↔ 0 ≤ x ∧ x < n := by
  unfold upto
  rw [List.mem_map]
  constructor
  · rintro ⟨i, hi, rfl⟩
    rw [List.mem_range] at hi
    omega
  · intro h
    exact ⟨x.toNat, List.mem_range.2 (by omega), by omega⟩

/-- Pages that are there and used, each once. -/
def Once (ps : List Pg) (out : List Int) : Prop := out.Nodup ∧ ∀ i ∈ out, pgOk ps i
theorem Once.len {ps : List Pg} {out : List Int} (h : Once ps out) : out.length ≤ ps.length := by
  have := nodup_sub out (upto ps.length) h.1 (fun x hx => mem_upto.2 ⟨(h.2 x hx).1, (h.2 x hx).2.1⟩)
  rwa [upto_len] at this
theorem Once.nil (ps : List Pg) : Once ps [] := ⟨List.nodup_nil, fun _ h => absurd h (List.not_mem_nil)⟩
theorem Once.snoc {ps : List Pg} {out : List Int} (h : Once ps out) {i : Int} (hi : pgOk ps i) (hn : i ∉ out) : Once ps (out ++ [i]) := by
  refine ⟨?_, fun x hx => ?_⟩
  · rw [List.nodup_append]
    refine ⟨h.1, by simp, ?_⟩
    intro a ha b hb e
    rw [List.mem_singleton] at hb
    subst hb
    subst e
    exact hn ha
  · rcases List.mem_append.1 hx with hx | hx
    · exact h.2 x hx
    · rw [List.mem_singleton] at hx
      exact hx ▸ hi

theorem walkL_ends (ps : List Pg) (n : Nat) (ih : ∀ out, Once ps out → ps.length ≤ out.length + n → ∀ i, ∃ r, Evn (fun k => walkM k ps i out) r ∧ Once ps r ∧ out.length ≤ r.length) (b : Bool) (es : List En) (he : es.length ≤ 1048576) :
    ∀ d x : Nat, x + d = es.length → ∀ o, Once ps o → ps.length ≤ o.length + n → ∃ r, Evn (fun k => walkL k ps b es o (x : Int)) r ∧ Once ps r ∧ o.length ≤ r.length
  | 0, x, hx, o, ho, hn => ⟨o, Evn.step (fun k => by rw [walkL, if_neg (by omega)]) (Evn.ret _), ho, Nat.le_refl _⟩
  | d + 1, x, hx, o, ho, hn => by
    cases b with
    | true => exact ⟨o, Evn.step (fun k => by rw [walkL, if_pos (by omega), if_pos rfl]) (Evn.ret _), ho, Nat.le_refl _⟩
    | false =>
      obtain ⟨r1, h1, o1, l1⟩ := ih o ho hn (rd_T82 es (x : Int)).f0
      obtain ⟨r2, h2, o2, l2⟩ := walkL_ends ps n ih false es he d (x + 1) (by omega) r1 o1 (by omega)
      have hw : wrap64 ((x : Int) + 1) = ((x + 1 : Nat) : Int) := by
        unfold wrap64
        omega
      exact ⟨r2, Evn.step (fun k => by rw [walkL, if_pos (by omega), if_neg (by decide), if_pos (by omega), hw]) (Evn.bind h1 h2), o2, by omega⟩
theorem walk_ends (ps : List Pg) (hp : ps.length ≤ 1048576) (he : ∀ p ∈ ps, p.f1.f1.length ≤ 1048576) : ∀ n out, Once ps out → ps.length ≤ out.length + n → ∀ i, ∃ r, Evn (fun k => walkM k ps i out) r ∧ Once ps r ∧ out.length ≤ r.length := by
  intro n
  induction n with
  | zero =>
    intro out ho hn i
    have hl := ho.len
    by_cases h1 : pgOk ps i
    · by_cases h2 : i ∈ out
      · exact ⟨out, Evn.step (fun k => by rw [walkM, if_pos h1, if_pos (by omega), if_pos h2]) (Evn.ret _), ho, Nat.le_refl _⟩
      · have := (ho.snoc h1 h2).len
        rw [List.length_append, List.length_singleton] at this
        omega
    · exact ⟨out, Evn.step (fun k => by rw [walkM, if_neg h1]) (Evn.ret _), ho, Nat.le_refl _⟩
  | succ n ih =>
    intro out ho hn i
    have hl := ho.len
    by_cases h1 : pgOk ps i
    · by_cases h2 : i ∈ out
      · exact ⟨out, Evn.step (fun k => by rw [walkM, if_pos h1, if_pos (by omega), if_pos h2]) (Evn.ret _), ho, Nat.le_refl _⟩
      · have hes : (rd_T77 ps i).f1.f1.length ≤ 1048576 := by
          obtain ⟨m, rfl⟩ : ∃ m : Nat, i = (m : Int) := ⟨i.toNat, by have := h1.1; omega⟩
          have hm : m < ps.length := by have := h1.2.1; omega
          rw [rdPg_at ps m hm]
          exact he _ (List.getElem_mem hm)
        obtain ⟨r, hr, h3, h4⟩ := walkL_ends ps n ih _ _ hes _ 0 (Nat.zero_add _) (out ++ [i]) (ho.snoc h1 h2) (by rw [List.length_append, List.length_singleton]; omega)
        refine ⟨r, Evn.step (fun k => by rw [walkM, if_pos h1, if_pos (by omega), if_neg h2]; rfl) hr, h3, ?_⟩
        rw [List.length_append, List.length_singleton] at h4
        omega
    · exact ⟨out, Evn.step (fun k => by rw [walkM, if_neg h1]) (Evn.ret _), ho, Nat.le_refl _⟩
/-- What is reached from the root on. -/
theorem reach_ends (ps : List Pg) (hp : ps.length ≤ 1048576) (he : ∀ p ∈ ps, p.f1.f1.length ≤ 1048576) (i : Int) : ∃ r, Evn (fun k => walkM k ps i []) r ∧ Once ps r := by
  obtain ⟨r, h1, h2, _⟩ := walk_ends ps hp he ps.length [] (Once.nil ps) (by simp) i
  exact ⟨r, h1, h2⟩

end Go.Proofs.Ythenmlaleobapaa.Pure
