/- Plain laws of the printed marks: a row that is marked from n on holds the marks from n on. No condition. -/
import Derived.Test.YtngjaajcdbodeaaPureB0
namespace Go.Proofs.Ytngjaajcdbodeaa.Pure
open Go.RowKit Go.Proofs.Ytngjaajcdbodeaa.All Go.Proofs.YtngjaajcdbodeaaW.PrintWords Go.Proofs.YtngjaajcdbodeaaW.PrintLast
set_option linter.unusedVariables false

def marks {α : Type} (f : Int → α) (s : Int) : Int → Nat → List α
  | _, 0 => []
  | n, m + 1 => f n :: marks f s (n + s) m
theorem marks_len {α : Type} (f : Int → α) (s : Int) : ∀ (n : Int) (m : Nat), (marks f s n m).length = m
  | _, 0 => rfl
  | n, m + 1 => by rw [marks, List.length_cons, marks_len f s (n + s) m]
theorem cost_succ (s n : Int) (m : Nat) : n + s * ((m + 1 : Nat) : Int) = n + s + s * (m : Int) := by
  rw [Int.natCast_succ, Int.mul_add, Int.mul_one]
  omega
theorem mark_loop {α : Type} {L : Nat → List α → Int → Int → Option (Int × List α)} {f : Int → α} {s : Int} (hs : 0 ≤ s)
    (hstep : ∀ k (done : List α) (a : α) (rest : List α) (n : Int), 0 ≤ n → n + s ≤ 4611686018427387904 → done.length ≤ 4611686018427387904 → L (k + 1) (done ++ a :: rest) n done.length = L k (done ++ f n :: rest) (n + s) ((done.length + 1 : Nat) : Int))
    (hstop : ∀ k (xs : List α) (n : Int), L (k + 1) xs n xs.length = some (n, xs)) :
    ∀ (rest done : List α) (n : Int), 0 ≤ n → n + s * rest.length ≤ 4611686018427387904 → done.length + rest.length ≤ 4611686018427387904 → Evn (fun k => L k (done ++ rest) n done.length) (n + s * rest.length, done ++ marks f s n rest.length)
  | [], done, n, _, _, _ => by
    refine Evn.step (fun k => ?_) (Evn.ret _)
    rw [List.append_nil, hstop]
    simp [marks]
  | a :: rest, done, n, hn, hb, hl => by
    rw [List.length_cons, cost_succ] at hb
    rw [List.length_cons] at hl
    have hp : 0 ≤ s * (rest.length : Int) := Int.mul_nonneg hs (by omega)
    have ih := mark_loop hs hstep hstop rest (done ++ [f n]) (n + s) (by omega) hb (by rw [List.length_append]; simp; omega)
    refine Evn.step (fun k => hstep k done a rest n hn (by omega) (by omega)) ?_
    rw [List.length_cons, cost_succ, marks]
    simpa using ih
theorem held_loop {α : Type} {H : Nat → List α → Int → Int → Option Int} {f : Int → α} {s : Int} (hs : 0 ≤ s)
    (hstep : ∀ k (done rest : List α) (n : Int), 0 ≤ n → n + s ≤ 4611686018427387904 → done.length ≤ 4611686018427387904 → H (k + 1) (done ++ f n :: rest) n done.length = H k (done ++ f n :: rest) (n + s) ((done.length + 1 : Nat) : Int))
    (hstop : ∀ k (xs : List α) (n : Int), H (k + 1) xs n xs.length = some n) :
    ∀ (m : Nat) (done : List α) (n : Int), 0 ≤ n → n + s * m ≤ 4611686018427387904 → done.length + m ≤ 4611686018427387904 → Evn (fun k => H k (done ++ marks f s n m) n done.length) (n + s * m)
  | 0, done, n, _, _, _ => by
    refine Evn.step (fun k => ?_) (Evn.ret _)
    rw [marks, List.append_nil, hstop]
    simp
  | m + 1, done, n, hn, hb, hl => by
    rw [cost_succ] at hb
    have hp : 0 ≤ s * (m : Int) := Int.mul_nonneg hs (by omega)
    have ih := held_loop hs hstep hstop m (done ++ [f n]) (n + s) (by omega) hb (by rw [List.length_append]; simp; omega)
    rw [marks]
    refine Evn.step (fun k => hstep k done _ n hn (by omega) (by omega)) ?_
    rw [cost_succ]
    simpa using ih
theorem getD_mid {α : Type} (done : List α) (a : α) (rest : List α) (z : α) : (done ++ a :: rest).getD done.length z = a := by
  rw [List.getD_eq_getElem?_getD, List.getElem?_append_right (Nat.le_refl _), Nat.sub_self]
  rfl
theorem set_mid {α : Type} (done : List α) (a b : α) (rest : List α) : (done ++ a :: rest).set done.length b = done ++ b :: rest := by
  rw [List.set_append, if_neg (by omega), Nat.sub_self, List.set_cons_zero]
theorem succ_small {n : Nat} (h : n ≤ 4611686018427387904) : wrap64 ((n : Int) + 1) = ((n + 1 : Nat) : Int) := by
  rw [wrap_small (by omega) (by omega)]
  omega
theorem mid_lt {α : Type} (done : List α) (a : α) (rest : List α) : (done.length : Int) < ((done ++ a :: rest).length : Int) := by
  rw [List.length_append, List.length_cons]
  omega

end Go.Proofs.Ytngjaajcdbodeaa.Pure
