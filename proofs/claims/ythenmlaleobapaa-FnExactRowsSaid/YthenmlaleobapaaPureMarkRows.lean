/- Plain laws of the marks of rows of entries. No condition. -/
import Derived.Test.YthenmlaleobapaaPureMarkEntry
import Derived.Test.YthenmlaleobapaaHMarkEntrySS
import Derived.Test.YthenmlaleobapaaAllx16
import Derived.Test.YthenmlaleobapaaAllx12
namespace Go.Proofs.Ythenmlaleobapaa.Pure
open Go.RowKit Go.Proofs.Ythenmlaleobapaa.All Go.Proofs.YthenmlaleobapaaW.PrintWords Go.Proofs.YthenmlaleobapaaW.PrintLast
set_option linter.unusedVariables false

/-- What the marks cost, and what they leave. -/
def rowsCost : List (List En) → Int
  | [] => 0
  | p :: t => 5 * p.length + rowsCost t
def rowsMarks : Int → List (List En) → List (List En)
  | _, [] => []
  | n, p :: t => marks mkE 5 n p.length :: rowsMarks (n + 5 * p.length) t
theorem rowsCost_nn : ∀ l, 0 ≤ rowsCost l
  | [] => Int.le_refl _
  | p :: t => by
    have := rowsCost_nn t
    rw [rowsCost]
    omega
theorem markEntrySS_loop : ∀ (rest done : List (List En)) (n : Int), 0 ≤ n → n + rowsCost rest ≤ 4611686018427387904 → done.length + rest.length ≤ 4611686018427387904 → Evn (fun k => laws_markEntrySS.l0 k (done ++ rest) n done.length) (n + rowsCost rest, done ++ rowsMarks n rest)
  | [], done, n, _, _, _ => by
    refine Evn.step (fun k => ?_) (Evn.ret _)
    rw [List.append_nil, laws_markEntrySS.l0, if_neg (by omega)]
    simp [rowsCost, rowsMarks]
  | p :: rest, done, n, hn, hb, hl => by
    rw [rowsCost] at hb
    rw [List.length_cons] at hl
    have hc := rowsCost_nn rest
    have h1 := markEntryS_f p n (by omega) (by omega)
    have ih := markEntrySS_loop rest (done ++ [marks mkE 5 n p.length]) (n + 5 * p.length) (by omega) (by omega) (by rw [List.length_append]; simp; omega)
    refine Evn.step (g' := fun k => (laws_markEntryS.f k p n).bind fun t => laws_markEntrySS.l0 k (done ++ t.2 :: rest) t.1 ((done.length + 1 : Nat) : Int)) (fun k => ?_) (Evn.bind h1 ?_)
    · rw [laws_markEntrySS.l0, if_pos (mid_lt _ _ _), if_pos (by omega), Int.toNat_natCast, getD_mid, succ_small (by omega)]
      simp only [set_mid]
    · rw [rowsCost, rowsMarks, show n + (5 * (p.length : Int) + rowsCost rest) = n + 5 * (p.length : Int) + rowsCost rest by omega]
      simpa using ih
theorem markEntrySS_f (l : List (List En)) (n : Int) (hn : 0 ≤ n) (hb : n + rowsCost l ≤ 4611686018427387904) (hl : l.length ≤ 4611686018427387904) : Evn (fun k => laws_markEntrySS.f k l n) (n + rowsCost l, rowsMarks n l) :=
  markEntrySS_loop l [] n hn hb (by simpa using hl)
theorem heldEntrySS_loop : ∀ (rest done : List (List En)) (n : Int), 0 ≤ n → n + rowsCost rest ≤ 4611686018427387904 → done.length + rest.length ≤ 4611686018427387904 → Evn (fun k => laws_heldEntrySS.l0 k (done ++ rowsMarks n rest) n done.length) (n + rowsCost rest)
  | [], done, n, _, _, _ => by
    refine Evn.step (fun k => ?_) (Evn.ret _)
    rw [rowsMarks, List.append_nil, laws_heldEntrySS.l0, if_neg (by omega)]
    simp [rowsCost]
  | p :: rest, done, n, hn, hb, hl => by
    rw [rowsCost] at hb
    rw [List.length_cons] at hl
    have hc := rowsCost_nn rest
    have h1 := heldEntryS_f p.length n (by omega) (by omega)
    have ih := heldEntrySS_loop rest (done ++ [marks mkE 5 n p.length]) (n + 5 * p.length) (by omega) (by omega) (by rw [List.length_append]; simp; omega)
    rw [rowsMarks]
    refine Evn.step (g' := fun k => (laws_heldEntryS.f k (marks mkE 5 n p.length) n).bind fun t => if t < 0 then some (-1) else laws_heldEntrySS.l0 k (done ++ marks mkE 5 n p.length :: rowsMarks (n + 5 * p.length) rest) t ((done.length + 1 : Nat) : Int)) (fun k => ?_) (Evn.bind h1 (Evn.neg (by omega) ?_))
    · rw [laws_heldEntrySS.l0, if_pos (mid_lt _ _ _), if_pos (by omega), succ_small (by omega)]
      congr 1
      exact congrArg (fun z => laws_heldEntryS.f k z n) (getD_mid done (marks mkE 5 n p.length) _ [])
    · rw [rowsCost, show n + (5 * (p.length : Int) + rowsCost rest) = n + 5 * (p.length : Int) + rowsCost rest by omega]
      simpa using ih
theorem heldEntrySS_f (l : List (List En)) (n : Int) (hn : 0 ≤ n) (hb : n + rowsCost l ≤ 4611686018427387904) (hl : l.length ≤ 4611686018427387904) : Evn (fun k => laws_heldEntrySS.f k (rowsMarks n l) n) (n + rowsCost l) :=
  heldEntrySS_loop l [] n hn hb (by simpa using hl)
theorem rowsCost_le (b : Nat) : ∀ l : List (List En), (∀ p ∈ l, p.length ≤ b) → rowsCost l ≤ l.length * (5 * b : Nat)
  | [], _ => by simp [rowsCost]
  | p :: t, h => by
    have ih := rowsCost_le b t (fun q hq => h q (List.mem_cons_of_mem _ hq))
    have hp := h p (List.mem_cons_self ..)
    rw [rowsCost, List.length_cons, Int.natCast_succ, Int.add_mul, Int.one_mul]
    omega
theorem eqEntrySS_same (l : List (List En)) (hl : l.length ≤ big) (hp : ∀ p ∈ l, p.length ≤ big) : Evn (fun k => laws_eqEntrySS.f k l l) true := by
  unfold laws_eqEntrySS.f
  refine Evn.pos rfl ?_
  refine down (P := fun i => Evn (fun k => laws_eqEntrySS.l0 k l l (i : Int)) true) l.length (fun i hi h => ?_) (Evn.step (fun k => by rw [laws_eqEntrySS.l0, if_neg (by omega)]) (Evn.ret _))
  have hrd : ∀ k, laws_eqEntrySS.l0 (k + 1) l l (i : Int) = (laws_eqEntryS.f k l[i] l[i]).bind fun t => if t = true then laws_eqEntrySS.l0 k l l ((i + 1 : Nat) : Int) else some false := by
    intro k
    rw [laws_eqEntrySS.l0, if_pos (by omega), if_pos (by omega), if_pos (by omega), wrap_succ hi hl]
    have e : l.getD i [] = l[i] := by
      rw [List.getD_eq_getElem?_getD, List.getElem?_eq_getElem hi]
      rfl
    congr 1
    exact congrArg (fun z => laws_eqEntryS.f k z z) e
  exact Evn.step hrd (Evn.bind (eqEntryS_same _ (hp _ (List.getElem_mem hi))) (Evn.pos rfl h))

end Go.Proofs.Ythenmlaleobapaa.Pure
