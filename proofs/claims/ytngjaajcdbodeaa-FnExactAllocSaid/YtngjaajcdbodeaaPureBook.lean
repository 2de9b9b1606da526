/- Plain laws of the printed functions that make, weigh and compare books. No condition. -/
import Derived.Test.YtngjaajcdbodeaaPureB0
import Derived.Test.YtngjaajcdbodeaaAllx44
import Derived.Test.YtngjaajcdbodeaaAllx35
import Derived.Test.YtngjaajcdbodeaaAllx55
namespace Go.Proofs.Ytngjaajcdbodeaa.Pure
open Go.RowKit Go.Proofs.Ytngjaajcdbodeaa.All Go.Proofs.YtngjaajcdbodeaaW.PrintWords Go.Proofs.YtngjaajcdbodeaaW.PrintLast
set_option linter.unusedVariables false

abbrev LPg := S118
abbrev Pg := S90
abbrev Nd := S54
abbrev zPg : Pg := z90
def toPg (p : LPg) : Pg := ⟨p.f0, ⟨p.f1.f0, p.f1.f1.map toE⟩⟩
/-- How many entries the pages have together. -/
def heap (l : List LPg) : Nat := (l.map fun p => p.f1.f1.length).sum
theorem heap_snoc (l : List LPg) (i : Nat) (h : i < l.length) : heap (l.take (i + 1)) = heap (l.take i) + l[i].f1.f1.length := by
  unfold heap
  rw [List.take_succ_eq_append_getElem h, List.map_append, List.sum_append]
  simp
theorem heap_le (l : List LPg) (i : Nat) : heap (l.take i) ≤ heap l := by
  unfold heap
  rw [← List.take_append_drop i l, List.map_append, List.sum_append]
  simp
theorem heap_mem (l : List LPg) (p : LPg) (h : p ∈ l) : p.f1.f1.length ≤ heap l := by
  obtain ⟨i, hi, rfl⟩ := List.getElem_of_mem h
  have h1 := heap_snoc l i hi
  have h2 := heap_le l (i + 1)
  omega
theorem getD_LPg (l : List LPg) (i : Nat) (h : i < l.length) : l.getD i z118 = l[i] := by rw [List.getD_eq_getElem?_getD, List.getElem?_eq_getElem h]; rfl
theorem rdLPg_at (l : List LPg) (i : Nat) (h : i < l.length) : rd_T118 l (i : Int) = l[i] := getD_LPg l i h
theorem rdPg_at (l : List Pg) (i : Nat) (h : i < l.length) : rd_T90 l (i : Int) = l[i] := by
  show l.getD i zPg = l[i]
  rw [List.getD_eq_getElem?_getD, List.getElem?_eq_getElem h]; rfl

theorem szPage_f (a b : Bool) (l : List LEn) (n : Int) (hn : 0 ≤ n ∧ n ≤ 1048576) (hl : l.length ≤ 9223372036854775807) : laws_szPage.f a b l n = some (if n < l.length then -1 else n - l.length) := by
  unfold laws_szPage.f laws_szNode.f
  rw [szEntryS_f l n hn hl]
  simp only [Option.bind_some]
  by_cases h : n < l.length
  · simp [if_pos h]
  · rw [if_neg h, if_neg (by omega)]
    simp only [Option.bind_some]
    rw [if_neg (by omega)]
/-- What is weighed: -1 where it is too much. -/
theorem szPageS_f (l : List LPg) (n : Int) (hn : 0 ≤ n ∧ n ≤ 1048576) (hl : l.length ≤ 9223372036854775807) (hp : ∀ p ∈ l, p.f1.f1.length ≤ 9223372036854775807) :
    Evn (fun k => laws_szPageS.f k l n) (if n < l.length + heap l then -1 else n - l.length - heap l) := by
  unfold laws_szPageS.f
  rw [wrap_small (by omega) (by omega)]
  by_cases h0 : n - l.length < 0
  · rw [if_pos (show n < l.length + heap l by omega)]
    exact Evn.pos h0 (Evn.ret _)
  · refine Evn.neg h0 ?_
    have hb : l.length ≤ big := by unfold big; omega
    have key : ∀ i, ∀ hi : i < l.length, ∀ k (m : Int), 0 ≤ m → m ≤ 1048576 → laws_szPageS.l0 (k + 1) l m (i : Int) = if m < (l[i]'hi).f1.f1.length then some (-1) else laws_szPageS.l0 k l (m - (l[i]'hi).f1.f1.length) ((i + 1 : Nat) : Int) := by
      intro i hi k m hm0 hm1
      rw [laws_szPageS.l0, if_pos (by omega), if_pos (by omega), rdLPg_at l i hi, szPage_f _ _ _ _ ⟨hm0, hm1⟩ (hp _ (List.getElem_mem hi)), Option.bind_some, wrap_succ hi hb]
      by_cases hm : m < (l[i]).f1.f1.length
      · rw [if_pos hm, if_pos hm, if_pos (by omega)]
      · rw [if_neg hm, if_neg hm, if_neg (by omega)]
    have hend : ∀ k (m : Int), laws_szPageS.l0 (k + 1) l m (l.length : Int) = some m := fun k m => by rw [laws_szPageS.l0, if_neg (by omega)]
    by_cases hbig : n < l.length + heap l
    · rw [if_pos hbig]
      have := down (P := fun i => 0 ≤ n - l.length - heap (l.take i) → Evn (fun k => laws_szPageS.l0 k l (n - l.length - heap (l.take i)) (i : Int)) (-1)) l.length (fun i hi h hm => ?_) (fun hm => by rw [List.take_length] at hm; omega)
      · have h1 := this (by simp [heap]; omega)
        simpa [heap] using h1
      · refine Evn.step (fun k => key i hi k _ hm (by omega)) ?_
        by_cases hc : n - l.length - heap (l.take i) < (l[i]).f1.f1.length
        · exact Evn.pos hc (Evn.ret _)
        · refine Evn.neg hc ?_
          have hs := heap_snoc l i hi
          rw [show n - l.length - heap (l.take i) - (l[i]).f1.f1.length = n - l.length - heap (l.take (i + 1)) by omega]
          exact h (by omega)
    · rw [if_neg hbig]
      have := down (P := fun i => Evn (fun k => laws_szPageS.l0 k l (n - l.length - heap (l.take i)) (i : Int)) (n - l.length - heap l)) l.length (fun i hi h => ?_) (Evn.step (fun k => hend k _) (by rw [List.take_length]; exact Evn.ret _))
      · simpa [heap] using this
      · have hs := heap_snoc l i hi
        have hle := heap_le l (i + 1)
        refine Evn.step (fun k => key i hi k _ (by omega) (by omega)) (Evn.neg (by omega) ?_)
        rw [show n - l.length - heap (l.take i) - (l[i]).f1.f1.length = n - l.length - heap (l.take (i + 1)) by omega]
        exact h
theorem szBook_f (a : Int) (l : List LPg) (n : Int) (hn : 0 ≤ n ∧ n ≤ 1048576) (hl : l.length ≤ 9223372036854775807) (hp : ∀ p ∈ l, p.f1.f1.length ≤ 9223372036854775807) :
    Evn (fun k => laws_szBook.f k a l n) (if n < l.length + heap l then -1 else n - l.length - heap l) := by
  unfold laws_szBook.f
  refine Evn.bind (szPageS_f l n hn hl hp) ?_
  by_cases h : n < l.length + heap l
  · rw [if_pos h]
    exact Evn.ret _
  · rw [if_neg h, if_neg (by omega)]
    exact Evn.ret _

theorem toPage_f (p : LPg) (h : p.f1.f1.length ≤ 1048576) : Evn (fun k => laws_toPage.f k p.f0 p.f1.f0 p.f1.f1) (p.f0, p.f1.f0, p.f1.f1.map toE) := by
  unfold laws_toPage.f laws_toNode.f
  exact Evn.bind (Evn.bind (toEntryS_f _ h) (Evn.ret _)) (Evn.ret _)
theorem toPageS_f (l : List LPg) (hl : l.length ≤ 1048576) (hp : ∀ p ∈ l, p.f1.f1.length ≤ 1048576) : Evn (fun k => laws_toPageS.f k l) (l.map toPg) := by
  have h := fill_loop (L := laws_toPageS.l0) (f := toPg) (F := fun k p => (laws_toPage.f k p.f0 p.f1.f0 p.f1.f1).bind fun t => some (⟨t.1, ⟨t.2.1, t.2.2⟩⟩ : Pg)) z118 (fun k xs acc i hi ha => by
    simp only [laws_toPageS.l0]
    rw [if_pos (by omega), if_pos (by omega), rdLPg_at xs i hi, getD_LPg xs i hi]
    cases laws_toPage.f k (xs[i]).f0 (xs[i]).f1.f0 (xs[i]).f1.f1 with
    | none => rfl
    | some t =>
      simp only [Option.bind_some]
      rw [if_pos (by omega)]
      rfl) (fun k xs acc => by simp only [laws_toPageS.l0]; rw [if_neg (by omega)]) l (by unfold big; omega) (fun x hx => Evn.bind (toPage_f x (hp x hx)) (Evn.ret _)) zPg
  unfold laws_toPageS.f
  exact Evn.pos (by omega) (Evn.pos (by omega) h)
theorem toBook_f (a : Int) (l : List LPg) (hl : l.length ≤ 1048576) (hp : ∀ p ∈ l, p.f1.f1.length ≤ 1048576) : Evn (fun k => laws_toBook.f k a l) (a, l.map toPg) := by
  unfold laws_toBook.f
  exact Evn.bind (toPageS_f l hl hp) (Evn.ret _)

theorem eqNode_same (b : Bool) (l : List En) (hl : l.length ≤ big) : Evn (fun k => laws_eqNode.f k b l b l) true := by
  unfold laws_eqNode.f
  exact Evn.neg (by simp) (Evn.bind (eqEntryS_same l hl) (Evn.ret _))
theorem eqPageS_same (l : List Pg) (hl : l.length ≤ big) (hp : ∀ p ∈ l, p.f1.f1.length ≤ big) : Evn (fun k => laws_eqPageS.f k l l) true := by
  unfold laws_eqPageS.f
  refine Evn.pos rfl ?_
  refine down (P := fun i => Evn (fun k => laws_eqPageS.l0 k l l (i : Int)) true) l.length (fun i hi h => ?_) (Evn.step (fun k => by rw [laws_eqPageS.l0, if_neg (by omega)]) (Evn.ret _))
  refine Evn.step (fun k => by rw [laws_eqPageS.l0, if_pos (by omega), if_pos (by omega), if_pos (by omega), rdPg_at l i hi, wrap_succ hi hl]) ?_
  refine Evn.bind (a := true) ?_ (Evn.pos rfl h)
  unfold laws_eqPage.f
  exact Evn.neg (by simp) (Evn.bind (eqNode_same _ _ (hp _ (List.getElem_mem hi))) (Evn.ret _))
theorem eqBook_same (a : Int) (l : List Pg) (hl : l.length ≤ big) (hp : ∀ p ∈ l, p.f1.f1.length ≤ big) : Evn (fun k => laws_eqBook.f k a l a l) true := by
  unfold laws_eqBook.f
  exact Evn.pos rfl (Evn.bind (eqPageS_same l hl hp) (Evn.ret _))

/-- What a law over a book does: weigh it, make it, ask both, compare. -/
structure Small (l : List LPg) : Prop where
  len : l.length ≤ 1048576
  ent : ∀ p ∈ l, p.f1.f1.length ≤ 1048576
  sum : l.length + heap l ≤ 1048576
theorem Small.of (l : List LPg) (h : l.length + heap l ≤ 1048576) : Small l := ⟨by omega, fun p hp => by have := heap_mem l p hp; omega, h⟩
theorem Small.made (l : List LPg) (h : Small l) : (l.map toPg).length ≤ 1048576 ∧ ∀ p ∈ l.map toPg, p.f1.f1.length ≤ 1048576 := by
  refine ⟨by rw [List.length_map]; exact h.len, fun p hp => ?_⟩
  obtain ⟨q, hq, rfl⟩ := List.mem_map.mp hp
  show (q.f1.f1.map toE).length ≤ _
  rw [List.length_map]
  exact h.ent q hq
theorem big_of {n : Nat} (h : n ≤ 1048576) : n ≤ big := by unfold big; omega

end Go.Proofs.Ytngjaajcdbodeaa.Pure
