/- Plain laws of the marks of a book. No condition. -/
import Derived.Test.YtngjaajcdbodeaaPureBook
import Derived.Test.YtngjaajcdbodeaaPureMarkEntry
import Derived.Test.YtngjaajcdbodeaaHMarkBook
namespace Go.Proofs.Ytngjaajcdbodeaa.Pure
open Go.RowKit Go.Proofs.Ytngjaajcdbodeaa.All Go.Proofs.YtngjaajcdbodeaaW.PrintWords Go.Proofs.YtngjaajcdbodeaaW.PrintLast
set_option linter.unusedVariables false

/-- What the marks cost, and what they leave. -/
def bookCost : List Pg → Int
  | [] => 0
  | p :: t => 2 + 5 * p.f1.f1.length + bookCost t
def bookMarks : Int → List Pg → List Pg
  | _, [] => []
  | n, p :: t => ⟨m3 n, ⟨m3 (n + 1), marks mkE 5 (n + 2) p.f1.f1.length⟩⟩ :: bookMarks (n + 2 + 5 * p.f1.f1.length) t
theorem bookCost_nn : ∀ l, 0 ≤ bookCost l
  | [] => Int.le_refl _
  | p :: t => by
    have := bookCost_nn t
    rw [bookCost]
    omega
theorem markPageS_f : ∀ (rest done : List Pg) (n : Int), 0 ≤ n → n + bookCost rest ≤ 4611686018427387904 → done.length + rest.length ≤ 4611686018427387904 → Evn (fun k => laws_markPageS.l0 k (done ++ rest) n done.length) (n + bookCost rest, done ++ bookMarks n rest)
  | [], done, n, _, _, _ => by
    refine Evn.step (fun k => ?_) (Evn.ret _)
    rw [List.append_nil, laws_markPageS.l0, if_neg (by omega)]
    simp [bookCost, bookMarks]
  | p :: rest, done, n, hn, hb, hl => by
    rw [bookCost] at hb
    rw [List.length_cons] at hl
    have hc := bookCost_nn rest
    have h1 := markEntryS_f p.f1.f1 (n + 2) (by omega) (by omega)
    have ih := markPageS_f rest (done ++ [⟨m3 n, ⟨m3 (n + 1), marks mkE 5 (n + 2) p.f1.f1.length⟩⟩]) (n + 2 + 5 * p.f1.f1.length) (by omega) (by omega) (by rw [List.length_append]; simp; omega)
    have hrd : rd_T90 (done ++ p :: rest) (done.length : Int) = p := getD_mid done p rest _
    refine Evn.step (g' := fun k => (laws_markEntryS.f k p.f1.f1 (n + 2)).bind fun t => laws_markPageS.l0 k (done ++ ⟨m3 n, ⟨m3 (n + 1), t.2⟩⟩ :: rest) t.1 ((done.length + 1 : Nat) : Int)) (fun k => ?_) (Evn.bind h1 ?_)
    · rw [laws_markPageS.l0, if_pos (mid_lt _ _ _), if_pos (by omega), hrd, succ_small (by omega), Int.toNat_natCast]
      simp only [w1]
      rw [w1_up hn (by omega), w1_up (show 0 ≤ n + 1 by omega) (by omega), show n + 1 + 1 = n + 2 by omega]
      simp only [set_mid]
    · rw [bookCost, bookMarks, show n + (2 + 5 * (p.f1.f1.length : Int) + bookCost rest) = n + 2 + 5 * (p.f1.f1.length : Int) + bookCost rest by omega]
      simpa using ih
theorem markBook_f (a : Int) (l : List Pg) (n : Int) (hn : 0 ≤ n) (hb : n + bookCost l ≤ 4611686018427387904) (hl : l.length ≤ 4611686018427387904) : Evn (fun k => laws_markBook.f k a l n) (n + bookCost l, bookMarks n l) :=
  markPageS_f l [] n hn hb (by simpa using hl)
theorem bookCost_le (b : Nat) : ∀ l : List Pg, (∀ p ∈ l, p.f1.f1.length ≤ b) → bookCost l ≤ l.length * (2 + 5 * b : Nat)
  | [], _ => by simp [bookCost]
  | p :: t, h => by
    have ih := bookCost_le b t (fun q hq => h q (List.mem_cons_of_mem _ hq))
    have hp := h p (List.mem_cons_self ..)
    rw [bookCost, List.length_cons, Int.natCast_succ, Int.add_mul, Int.one_mul]
    omega
theorem bookCost_small (l : List Pg) (hl : l.length ≤ 1048576) (hp : ∀ p ∈ l, p.f1.f1.length ≤ 1048576) : bookCost l ≤ 6597069766656000 := by
  have h := bookCost_le 1048576 l hp
  have h2 : (l.length : Int) * ((2 + 5 * 1048576 : Nat) : Int) ≤ 1048576 * ((2 + 5 * 1048576 : Nat) : Int) := Int.mul_le_mul_of_nonneg_right (by omega) (by omega)
  omega

end Go.Proofs.Ytngjaajcdbodeaa.Pure
