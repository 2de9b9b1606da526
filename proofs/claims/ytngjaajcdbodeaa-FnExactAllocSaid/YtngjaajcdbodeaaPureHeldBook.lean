/- A book that was marked holds its marks. No condition. -/
import Derived.Test.YtngjaajcdbodeaaPureMarkBook
import Derived.Test.YtngjaajcdbodeaaAllx62
namespace Go.Proofs.Ytngjaajcdbodeaa.Pure
open Go.RowKit Go.Proofs.Ytngjaajcdbodeaa.All Go.Proofs.YtngjaajcdbodeaaW.PrintWords Go.Proofs.YtngjaajcdbodeaaW.PrintLast
set_option linter.unusedVariables false

theorem heldPageS_f : ∀ (rest done : List Pg) (n : Int), 0 ≤ n → n + bookCost rest ≤ 4611686018427387904 → done.length + rest.length ≤ 4611686018427387904 → Evn (fun k => laws_heldPageS.l0 k (done ++ bookMarks n rest) n done.length) (n + bookCost rest)
  | [], done, n, _, _, _ => by
    refine Evn.step (fun k => ?_) (Evn.ret _)
    rw [bookMarks, List.append_nil, laws_heldPageS.l0, if_neg (by omega)]
    simp [bookCost]
  | p :: rest, done, n, hn, hb, hl => by
    rw [bookCost] at hb
    rw [List.length_cons] at hl
    have hc := bookCost_nn rest
    have h1 := heldEntryS_f p.f1.f1.length (n + 2) (by omega) (by omega)
    have ih := heldPageS_f rest (done ++ [⟨m3 n, ⟨m3 (n + 1), marks mkE 5 (n + 2) p.f1.f1.length⟩⟩]) (n + 2 + 5 * p.f1.f1.length) (by omega) (by omega) (by rw [List.length_append]; simp; omega)
    rw [bookMarks]
    have hrd : rd_T90 (done ++ ⟨m3 n, ⟨m3 (n + 1), marks mkE 5 (n + 2) p.f1.f1.length⟩⟩ :: bookMarks (n + 2 + 5 * p.f1.f1.length) rest) (done.length : Int) = ⟨m3 n, ⟨m3 (n + 1), marks mkE 5 (n + 2) p.f1.f1.length⟩⟩ := getD_mid done _ _ _
    refine Evn.step (g' := fun k => (laws_heldEntryS.f k (marks mkE 5 (n + 2) p.f1.f1.length) (n + 2)).bind fun t => if t < 0 then some (-1) else laws_heldPageS.l0 k (done ++ ⟨m3 n, ⟨m3 (n + 1), marks mkE 5 (n + 2) p.f1.f1.length⟩⟩ :: bookMarks (n + 2 + 5 * p.f1.f1.length) rest) t ((done.length + 1 : Nat) : Int)) (fun k => ?_) (Evn.bind h1 (Evn.neg (by omega) ?_))
    · rw [laws_heldPageS.l0, if_pos (mid_lt _ _ _), if_pos (by omega), hrd, succ_small (by omega), w1_up hn (by omega), w1_up (show 0 ≤ n + 1 by omega) (by omega), show n + 1 + 1 = n + 2 by omega]
      rw [if_neg (show ¬ (m3 n != (Int.tmod n 3 == 0)) = true by unfold m3; simp), if_neg (show ¬ (m3 (n + 1) != (Int.tmod (n + 1) 3 == 0)) = true by unfold m3; simp)]
    · rw [bookCost, show n + (2 + 5 * (p.f1.f1.length : Int) + bookCost rest) = n + 2 + 5 * (p.f1.f1.length : Int) + bookCost rest by omega]
      simpa using ih
theorem heldBook_f (a : Int) (l : List Pg) (n : Int) (hn : 0 ≤ n) (hb : n + bookCost l ≤ 4611686018427387904) (hl : l.length ≤ 4611686018427387904) : Evn (fun k => laws_heldBook.f k a (bookMarks n l) n) (n + bookCost l) := by
  have hc := bookCost_nn l
  exact Evn.bind (heldPageS_f l [] n hn hb (by simpa using hl)) (Evn.neg (by omega) (Evn.ret _))
/-- What is known of a book that a program made. -/
structure Fair (l : List Pg) : Prop where
  len : l.length ≤ 2097152
  ent : ∀ p ∈ l, p.f1.f1.length ≤ 2097152
theorem Fair.cost {l : List Pg} (h : Fair l) : bookCost l ≤ 50000000000000 := by
  have h1 := bookCost_le 2097152 l h.ent
  have h2 : (l.length : Int) * ((2 + 5 * 2097152 : Nat) : Int) ≤ 2097152 * ((2 + 5 * 2097152 : Nat) : Int) := Int.mul_le_mul_of_nonneg_right (by have := h.len; omega) (by omega)
  omega
theorem Fair.same {l : List Pg} (h : Fair l) (a : Int) : Evn (fun k => laws_eqBook.f k a l a l) true := eqBook_same a l (by have := h.len; unfold big; omega) (fun p hp => by have := h.ent p hp; unfold big; omega)
theorem Fair.mark {l : List Pg} (h : Fair l) (a : Int) : Evn (fun k => laws_markBook.f k a l 1) (1 + bookCost l, bookMarks 1 l) := markBook_f a l 1 (by decide) (by have := h.cost; omega) (by have := h.len; omega)
theorem Fair.held {l : List Pg} (h : Fair l) (a : Int) : Evn (fun k => laws_heldBook.f k a (bookMarks 1 l) 1) (1 + bookCost l) := heldBook_f a l 1 (by decide) (by have := h.cost; omega) (by have := h.len; omega)
theorem Fair.of {l : List Pg} (hl : l.length ≤ 1048576) (hp : ∀ p ∈ l, p.f1.f1.length ≤ 1048576) : Fair l := ⟨by omega, fun p h => by have := hp p h; omega⟩

end Go.Proofs.Ytngjaajcdbodeaa.Pure
