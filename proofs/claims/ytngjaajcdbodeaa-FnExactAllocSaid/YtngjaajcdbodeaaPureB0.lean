/- Plain laws of the printed functions over lists of entries: what is made of a list. No condition. -/
import Derived.Test.YtngjaajcdbodeaaPureA0
import Derived.Test.YtngjaajcdbodeaaAllx40
import Derived.Test.YtngjaajcdbodeaaAllx31
import Derived.Test.YtngjaajcdbodeaaAllx51
namespace Go.Proofs.Ytngjaajcdbodeaa.Pure
open Go.RowKit Go.Proofs.Ytngjaajcdbodeaa.All Go.Proofs.YtngjaajcdbodeaaW.PrintWords Go.Proofs.YtngjaajcdbodeaaW.PrintLast
set_option linter.unusedVariables false

def big : Nat := 1152921504606846976
theorem wrap_small {a : Int} (h0 : -9223372036854775808 ≤ a) (h1 : a ≤ 9223372036854775807) : wrap64 a = a := by
  unfold wrap64
  omega
theorem wrap_succ {i n : Nat} (h : i < n) (hn : n ≤ big) : wrap64 ((i : Int) + 1) = ((i + 1 : Nat) : Int) := by
  unfold big at hn
  rw [wrap_small (by omega) (by omega)]
  omega
/-- A loop, told from its end. -/
theorem down {P : Nat → Prop} : ∀ (n : Nat), (∀ i, i < n → P (i + 1) → P i) → P n → P 0
  | 0, _, h => h
  | n + 1, hs, h => down n (fun i hi => hs i (by omega)) (hs n (by omega) h)
/-- The same from i on. -/
theorem downFrom {P : Nat → Prop} (i : Nat) : ∀ (d : Nat), (∀ j, i ≤ j → j < i + d → P (j + 1) → P j) → P (i + d) → P i
  | 0, _, h => h
  | d + 1, hs, h => downFrom i d (fun j h0 hj => hs j h0 (by omega)) (hs (i + d) (by omega) (by omega) h)

theorem rdE_at (l : List En) (i : Nat) : rd_T103 l (i : Int) = l.getD i z103 := rfl
theorem rdB_at (l : List Bx) (i : Nat) : rd_T32 l (i : Int) = l.getD i z32 := rfl

/-- A loop that fills a row of the same length. -/
theorem fill_loop {α β : Type} {L : Nat → List α → List β → Int → Option (List β)} {f : α → β} {F : Nat → α → Option β} (d : α)
    (hstep : ∀ k (xs : List α) (acc : List β) (i : Nat), i < xs.length → acc.length = xs.length → L (k + 1) xs acc i = (F k (xs.getD i d)).bind fun y => L k xs (acc.set i y) (wrap64 ((i : Int) + 1)))
    (hstop : ∀ k (xs : List α) (acc : List β), L (k + 1) xs acc xs.length = some acc)
    (xs : List α) (hl : xs.length ≤ big) (hF : ∀ x ∈ xs, Evn (fun k => F k x) (f x)) (z : β) : Evn (fun k => L k xs (List.replicate xs.length z) 0) (xs.map f) := by
  have key : Evn (fun k => L k xs ((xs.take 0).map f ++ List.replicate (xs.length - 0) z) ((0 : Nat) : Int)) (xs.map f) := by
    refine down (P := fun i => Evn (fun k => L k xs ((xs.take i).map f ++ List.replicate (xs.length - i) z) (i : Int)) (xs.map f)) xs.length (fun i hi h => ?_) ?_
    · refine Evn.step (fun k => hstep k xs _ i hi (by simp; omega)) ?_
      refine Evn.bind (hF _ ?_) ?_
      · rw [List.getD_eq_getElem?_getD, List.getElem?_eq_getElem hi]
        exact List.getElem_mem hi
      · rw [wrap_succ hi hl]
        refine Evn.same h (fun k => ?_)
        congr 1
        have hi' : (List.map f (List.take i xs)).length = i := by simp; omega
        rw [List.set_append, if_neg (by omega), hi', Nat.sub_self]
        obtain ⟨m, hm⟩ : ∃ m, xs.length - i = m + 1 := ⟨xs.length - i - 1, by omega⟩
        rw [hm, show xs.length - (i + 1) = m from by omega, List.replicate_succ, List.set_cons_zero, List.take_succ_eq_append_getElem hi, List.map_append, List.append_assoc, List.getD_eq_getElem?_getD, List.getElem?_eq_getElem hi]
        rfl
    · refine Evn.step (fun k => ?_) (Evn.ret _)
      rw [hstop]
      simp
  simpa using key

def toB (b : LBx) : Bx := ⟨b.f0, b.f1, b.f2, b.f3⟩
def toE (e : LEn) : En := ⟨e.f0, toB e.f1⟩
theorem toEntryS_f (l : List LEn) (hl : l.length ≤ 1048576) : Evn (fun k => laws_toEntryS.f k l) (l.map toE) := by
  have h := fill_loop (L := laws_toEntryS.l0) (f := toE) (F := fun _ x => some (toE x)) z122 (fun k xs acc i hi ha => by
    simp only [laws_toEntryS.l0]
    rw [if_pos (by omega), if_pos (by omega)]
    simp only [laws_toEntry.f, laws_toBox.f, Option.bind_some]
    rw [if_pos (by omega)]
    rfl) (fun k xs acc => by simp only [laws_toEntryS.l0]; rw [if_neg (by omega)]) l (by unfold big; omega) (fun x _ => Evn.ret _) z103
  unfold laws_toEntryS.f
  refine Evn.pos (by omega) (Evn.pos (by omega) ?_)
  exact h

/-- A loop that compares a row with itself. -/
theorem same_loop {α : Type} {L : Nat → List α → List α → Int → Option Bool}
    (hstep : ∀ k (xs : List α) (i : Nat), i < xs.length → L (k + 1) xs xs i = L k xs xs (wrap64 ((i : Int) + 1)))
    (hstop : ∀ k (xs : List α), L (k + 1) xs xs xs.length = some true) (xs : List α) (hl : xs.length ≤ big) : Evn (fun k => L k xs xs 0) true := by
  refine down (P := fun i => Evn (fun k => L k xs xs (i : Int)) true) xs.length (fun i hi h => ?_) (Evn.step (fun k => hstop k xs) (Evn.ret _))
  refine Evn.step (fun k => hstep k xs i hi) ?_
  rw [wrap_succ hi hl]
  exact h
theorem eqBox_same (a b c d : Int) : laws_eqBox.f a b c d a b c d = some true := by simp [laws_eqBox.f]
theorem eqEntryS_same (l : List En) (hl : l.length ≤ big) : Evn (fun k => laws_eqEntryS.f k l l) true := by
  unfold laws_eqEntryS.f
  refine Evn.pos rfl ?_
  refine same_loop (L := laws_eqEntryS.l0) (fun k xs i hi => ?_) (fun k xs => ?_) l hl
  · simp only [laws_eqEntryS.l0]
    rw [if_pos (by omega), if_pos (by omega), if_pos (by omega)]
    simp only [laws_eqEntry.f, eqBox_same, Option.bind_some, if_true]
  · simp only [laws_eqEntryS.l0]
    rw [if_neg (by omega)]

/-- The count of what came in, and what it leaves of a bound. -/
theorem szEntryS_f (l : List LEn) (n : Int) (hn : 0 ≤ n ∧ n ≤ 1048576) (hl : l.length ≤ 9223372036854775807) : laws_szEntryS.f l n = some (if n < l.length then -1 else n - l.length) := by
  unfold laws_szEntryS.f
  rw [wrap_small (by omega) (by omega)]
  by_cases h : n < l.length
  · rw [if_pos (by omega), if_pos h]
  · rw [if_neg (by omega), if_neg h]

end Go.Proofs.Ytngjaajcdbodeaa.Pure
