/- The texts on which the row FnExactDense rests, part 6: contracts of the functions that it reaches and plain laws of what they compute. No condition. -/
import Derived.Test.YtngjaajcdbodeaaMgFnExactDense1
import Derived.Test.YtngjaajcdbodeaaMgFnExactDense2
import Derived.Test.YtngjaajcdbodeaaMgFnExactDense3
import Derived.Test.YtngjaajcdbodeaaMgFnExactDense4
import Derived.Test.YtngjaajcdbodeaaMgFnExactDense5
/- Plain law of Dense, the program's and the reference's. No condition. -/
namespace Go.Proofs.Ytngjaajcdbodeaa.Pure
open Go.RowKit Go.Proofs.Ytngjaajcdbodeaa.All Go.Proofs.YtngjaajcdbodeaaW.PrintWords Go.Proofs.YtngjaajcdbodeaaW.PrintLast Go.Proofs.Ytngjaajcdbodeaa.Sq
set_option linter.unusedVariables false

/-- The pages n steps below a page. -/
def lvl (l : List Pg) : Nat → Int → List Int
  | 0, i => [i]
  | n + 1, i => (kids l i).flatMap (lvl l n)
theorem lvl_next (l : List Pg) : ∀ n i, lvl l (n + 1) i = (lvl l n i).flatMap (kids l)
  | 0, i => by
    show (kids l i).flatMap (fun c => [c]) = [i].flatMap (kids l)
    rw [List.flatMap_cons, List.flatMap_nil, List.append_nil]; exact List.flatMap_singleton' _
  | n + 1, i => by
    have e : (fun c => lvl l (n + 1) c) = fun c => (lvl l n c).flatMap (kids l) := funext fun c => lvl_next l n c
    show (kids l i).flatMap (fun c => lvl l (n + 1) c) = ((kids l i).flatMap (lvl l n)).flatMap (kids l)
    rw [e, List.flatMap_assoc]
theorem lvl_mem {l : List Pg} {a : Int} {r : List Int} (h : Right l a r) (hr : Reached l a r) : ∀ n i, i ∈ r → ∀ c ∈ lvl l n i, c ∈ r
  | 0, i, hi, c, hc => by
    rw [lvl, List.mem_singleton] at hc; exact hc ▸ hi
  | n + 1, i, hi, c, hc => by
    obtain ⟨j, hj, hc⟩ := List.mem_flatMap.1 hc; exact lvl_mem h hr n j (h.kid hr hi hj) c hc
theorem lvl_len {l : List Pg} {a : Int} {r : List Int} (h : Right l a r) (hr : Reached l a r) : ∀ n i, i ∈ r → (lvl l n i).length ≤ 4 ^ n
  | 0, i, hi => Nat.le_refl _
  | n + 1, i, hi => by
    have h1 := flat_le (lvl l n) (4 ^ n) (kids l i) (fun c hc => lvl_len h hr n c (h.kid hr hi hc)); have h2 := Nat.le_trans (kids_len (l := l) (i := i)) (h.len4 (hr.once.2 i hi)); have h3 := Nat.mul_le_mul_right (4 ^ n) h2; rw [Nat.pow_succ, Nat.mul_comm (4 ^ n) 4]; exact Nat.le_trans h1 h3
theorem pow12' {n : Nat} (h : n ≤ 12) : 4 ^ n ≤ 16777216 := by
  have := Nat.pow_le_pow_right (n := 4) (by omega) h; exact this
theorem spec_level {l : List Pg} {a : Int} {r : List Int} (h : Right l a r) (hr : Reached l a r) : ∀ (n : Nat) (i : Int), i ∈ r → n ≤ 11 → Evn (fun k => spec_l15Level.f k a l i ((n + 1 : Nat) : Int)) (lvl l n i) := by
  intro n
  induction n with
  | zero =>
    intro i hi hn
    have ho := hr.once.2 i hi; have hlen := h.len.2; refine Evn.step (fun k => by rw [spec_l15Level.f]) ?_; refine Evn.bind (Evn.const fun _ => spec_l1In_f _ _ _) ?_; rw [show wrap64 ((l.length : Int) - 1) = (l.length : Int) - 1 from wrap_small (by omega) (by omega)]; rw [decide_eq_true (show 0 ≤ i ∧ i ≤ (l.length : Int) - 1 from ⟨ho.1, by have := ho.2.1; omega⟩)]; refine Evn.pos rfl (Evn.pos ho.1 (Evn.pos ho.2.1 (Evn.pos ho.2.2 ?_))); rw [decide_eq_false (by omega)]; exact Evn.step (fun k => by rw [spec_l15Level.j0, if_neg (by decide), if_pos (by rfl)]; rfl) (Evn.ret _)
  | succ n ih =>
    intro i hi hn
    have ho := hr.once.2 i hi; have hlen := h.len.2; have hb : (pgL l i).length ≤ 4 := h.len4 ho; refine Evn.step (fun k => by rw [spec_l15Level.f]) ?_; refine Evn.bind (Evn.const fun _ => spec_l1In_f _ _ _) ?_; rw [show wrap64 ((l.length : Int) - 1) = (l.length : Int) - 1 from wrap_small (by omega) (by omega)]; rw [decide_eq_true (show 0 ≤ i ∧ i ≤ (l.length : Int) - 1 from ⟨ho.1, by have := ho.2.1; omega⟩)]; refine Evn.pos rfl (Evn.pos ho.1 (Evn.pos ho.2.1 (Evn.pos ho.2.2 ?_))); rw [decide_eq_false (by omega)]; refine Evn.step (fun k => by rw [spec_l15Level.j0, if_neg (by decide), if_neg (by omega), if_pos ho.1, if_pos ho.2.1]) ?_; rw [lvl]
    have hw : wrap64 (((n + 1 + 1 : Nat) : Int) - 1) = ((n + 1 : Nat) : Int) := by
      rw [wrap_small (by omega) (by omega)]
      omega
    cases hl : pgLeaf l i with
    | true =>
      rw [kids_leaf hl, List.flatMap_nil]; rw [show (rd_T90 l i).f1.f0 = true from hl]
      by_cases h0 : (0 : Int) < ((pgL l i).length : Int)
      · exact Evn.step (fun k => by rw [spec_l15Level.l0, if_pos h0, if_pos rfl]) (Evn.ret _)
      · exact Evn.step (fun k => by rw [spec_l15Level.l0, if_neg h0]) (Evn.ret _)
    | false =>
      rw [show (rd_T90 l i).f1.f0 = false from hl]; have hk := kids_inner hl
      have key : ∀ d x : Nat, x + d = (pgL l i).length → ∀ out : List Int, out.length ≤ x * 16777216 → Evn (fun k => spec_l15Level.l0 k ((n + 1 + 1 : Nat) : Int) out (x : Int) a l false (pgL l i)) (out ++ ((kids l i).drop x).flatMap (lvl l n)) := by
        intro d
        induction d with
        | zero =>
          intro x hx out ho2
          rw [List.drop_eq_nil_of_le (by rw [hk, List.length_map]; omega), List.flatMap_nil, List.append_nil]; exact Evn.step (fun k => by rw [spec_l15Level.l0, if_neg (by omega)]) (Evn.ret _)
        | succ d ihd =>
          intro x hx out ho2
          have hxl : x < (pgL l i).length := by omega
          have hxk : x < (kids l i).length := by rw [hk, List.length_map]; exact hxl
          have hc : (rd_T103 (pgL l i) (x : Int)).f0 = (kids l i)[x] := by
            rw [rdEnF _ _ hxl]
            simp only [hk]
          refine Evn.step (fun k => by rw [spec_l15Level.l0, if_pos (by omega), if_neg (by decide), if_pos (by omega), hc, hw, wrapI (by omega)]) ?_; have hmem : (kids l i)[x] ∈ kids l i := List.getElem_mem _; have hcr := h.kid hr hi hmem; have hl1 := Nat.le_trans (lvl_len h hr n _ hcr) (pow12' (by omega)); refine Evn.bind (ih _ hcr (by omega)) (Evn.pos (by omega) ?_); rw [List.drop_eq_getElem_cons hxk, List.flatMap_cons, ← List.append_assoc]; refine ihd (x + 1) (by omega) _ ?_; rw [List.length_append]
          omega
      have := key _ 0 (Nat.zero_add _) [] (by simp); rw [List.drop_zero, List.nil_append] at this; exact this
def fullB (l : List Pg) (i : Int) : Bool := decide ((pgL l i).length = 4)
/-- All but the last are full. -/
def okL (l : List Pg) (L : List Int) : Bool := L.dropLast.all (fullB l)
def denseF (l : List Pg) : Nat → List Int → Bool
  | 0, _ => true
  | n + 1, L => okL l L && denseF l n (L.flatMap (kids l))
theorem denseF_nil (l : List Pg) : ∀ n, denseF l n [] = true
  | 0 => rfl
  | n + 1 => by
    show (true && denseF l n []) = true
    rw [denseF_nil l n]
    rfl
theorem ok_last (l : List Pg) (L : List Int) (x : Nat) (h : x + 1 = L.length) : okL l (L.drop x) = true := by
  rw [List.drop_eq_getElem_cons (by omega), List.drop_eq_nil_of_le (by omega)]
  rfl
theorem ok_more (l : List Pg) (L : List Int) (x : Nat) (h : x + 1 < L.length) : okL l (L.drop x) = (fullB l (L[x]'(by omega)) && okL l (L.drop (x + 1))) := by
  rw [List.drop_eq_getElem_cons (by omega), List.drop_eq_getElem_cons h]
  rfl
theorem rdI' (r : List Int) (x : Nat) (h : x < r.length) : rd r (x : Int) = r[x] := by
  show r.getD x 0 = _
  rw [List.getD_eq_getElem?_getD, List.getElem?_eq_getElem h]
  rfl
theorem spec_dl1 (a : Int) (l : List Pg) (dep : Int) (L : List Int) (ho : ∀ i ∈ L, pgOk l i) (hL : L.length ≤ 4294967296) (b : Bool) (hn : Evn (fun k => spec_Dense.l0 k (wrap64 (dep + 1)) a l) b) : ∀ d x : Nat, x + d = L.length → Evn (fun k => spec_Dense.l1 k dep L (x : Int) a l) (okL l (L.drop x) && b)
  | 0, x, hx => by
    rw [List.drop_eq_nil_of_le (by omega)]; exact Evn.step (fun k => by rw [spec_Dense.l1, wrapI (by omega), if_neg (by omega)]) hn
  | d + 1, x, hx => by
    by_cases h : x + 1 < L.length
    · have hg := ho _ (List.getElem_mem (show x < L.length by omega))
      refine Evn.step (fun k => by rw [spec_Dense.l1, wrapI (by omega), if_pos (by omega), if_pos (by omega), if_pos (by omega), rdI' L x (by omega), if_pos hg.1, if_pos hg.2.1]) ?_; rw [ok_more l L x h]
      by_cases hf : (pgL l (L[x]'(by omega))).length = 4
      · rw [show fullB l (L[x]'(by omega)) = true from decide_eq_true hf, Bool.true_and]
        exact Evn.pos (by rw [show ((rd_T90 l (L[x]'(by omega))).f1.f1).length = 4 from hf]; rfl) (spec_dl1 a l dep L ho hL b hn d (x + 1) (by omega))
      · rw [show fullB l (L[x]'(by omega)) = false from decide_eq_false hf, Bool.false_and, Bool.false_and]
        exact Evn.neg (fun e => hf (by exact_mod_cast e)) (Evn.ret _)
    · rw [ok_last l L x (by omega), Bool.true_and]
      exact Evn.step (fun k => by rw [spec_Dense.l1, wrapI (by omega), if_neg (by omega)]) hn
theorem spec_dl0 {l : List Pg} {a : Int} {r : List Int} (h : Right l a r) (hr : Reached l a r) (har : a ∈ r) (b : Bool) (hend : Evn (fun k => (spec_All.f k a l).bind fun t => (spec_InOrder.f k t).bind fun u => some u) b) : ∀ n m : Nat, m + n = 12 → Evn (fun k => spec_Dense.l0 k ((m + 1 : Nat) : Int) a l) (denseF l n (lvl l m a) && b)
  | 0, m, hm => Evn.step (fun k => by rw [spec_Dense.l0, if_neg (by omega)]) hend
  | n + 1, m, hm => by
    have ih := spec_dl0 h hr har b hend n (m + 1) (by omega); have h1 := spec_level h hr m a har (by omega); have hmem := lvl_mem h hr m a har; have hlen := Nat.le_trans (lvl_len h hr m a har) (pow12' (by omega)); refine Evn.step (fun k => by rw [spec_Dense.l0, if_pos (by omega)]) (Evn.bind h1 ?_); rw [lvl_next] at ih; rw [denseF, Bool.and_assoc]; have := spec_dl1 a l ((m + 1 : Nat) : Int) (lvl l m a) (fun i hi => hr.once.2 i (hmem i hi)) (by omega) _ (by rw [wrapI (by omega)]; exact ih) _ 0 (Nat.zero_add _); rw [List.drop_zero] at this; exact this
theorem impl_dl2 (a : Int) (l : List Pg) (L : List Int) (dep x : Int) (es : List En) (he : es.length ≤ 4) (R : Bool) : ∀ d y : Nat, y + d = es.length → ∀ out : List Int, out.length + d ≤ 4294967296 →
    Evn (fun k => impl_Dense.l1 k L dep (out ++ (es.drop y).map fun e => e.f0) L (L.length : Int) (wrap64 (x + 1)) a l) R → Evn (fun k => impl_Dense.l2 k L dep out L (L.length : Int) x es (es.length : Int) (y : Int) a l) R
  | 0, y, hy, out, ho, h => by
    rw [List.drop_eq_nil_of_le (by omega), List.map_nil, List.append_nil] at h; exact Evn.step (fun k => by rw [impl_Dense.l2, if_neg (by omega)]) h
  | d + 1, y, hy, out, ho, h => by
    have hyl : y < es.length := by omega
    have e : (rd_T103 es (y : Int)).f0 = (es[y]).f0 := by
      rw [rdEnF es y hyl]
      simp
    refine Evn.step (fun k => by rw [impl_Dense.l2, if_pos (by omega), if_pos (by omega), if_pos (by omega), if_pos (by omega), e, wrapI (by omega)]) ?_; refine impl_dl2 a l L dep x es he R d (y + 1) (by omega) _ (by rw [List.length_append, List.length_singleton]; omega) ?_; rw [List.append_assoc, List.singleton_append]; rw [List.drop_eq_getElem_cons hyl, List.map_cons] at h; exact h
theorem impl_dl1 {l : List Pg} {a : Int} {r : List Int} (h : Right l a r) (hr : Reached l a r) (dep : Int) (L : List Int) (hm : ∀ i ∈ L, i ∈ r) (hL : L.length ≤ 16777216) (n : Nat)
    (hn : ∀ Q : List Int, Q = L.flatMap (kids l) → Evn (fun k => impl_Dense.l0 k Q (wrap64 (dep + 1)) a l) (denseF l n Q)) :
    ∀ d x : Nat, x + d = L.length → ∀ out : List Int, out = (L.take x).flatMap (kids l) → Evn (fun k => impl_Dense.l1 k L dep out L (L.length : Int) (x : Int) a l) (okL l (L.drop x) && denseF l n (L.flatMap (kids l)))
  | 0, x, hx, out, ho => by
    rw [List.take_of_length_le (by omega)] at ho; rw [List.drop_eq_nil_of_le (by omega)]; subst ho; exact Evn.step (fun k => by rw [impl_Dense.l1, if_neg (by omega)]) (hn _ rfl)
  | d + 1, x, hx, out, ho => by
    have hxl : x < L.length := by omega
    have hxr := hm _ (List.getElem_mem hxl); have hg := hr.once.2 _ hxr; have h4 : (pgL l L[x]).length ≤ 4 := h.len4 hg
    have hout : out.length ≤ x * 4 := by
      rw [ho]; have h1 := flat_le (kids l) 4 (L.take x) (fun c hc => Nat.le_trans kids_len (h.len4 (hr.once.2 c (hm c (List.mem_of_mem_take hc))))); rw [List.length_take] at h1
      have : min x L.length = x := by omega
      rw [this] at h1; exact h1
    have ih := impl_dl1 h hr dep L hm hL n hn d (x + 1) (by omega) (out ++ kids l L[x]) (by
      rw [ho, List.take_add_one, List.getElem?_eq_getElem hxl, Option.toList_some, List.flatMap_append, List.flatMap_cons, List.flatMap_nil, List.append_nil])
    refine Evn.step (fun k => by rw [impl_Dense.l1, if_pos (by omega), if_pos (by omega), if_pos (by omega), rdI' L x hxl, if_pos hg.1, if_pos hg.2.1]) ?_; have hw : wrap64 ((L.length : Int) - 1) = (L.length : Int) - 1 := wrap_small (by omega) (by omega); rw [hw]
    have tail : Evn (fun k => impl_Dense.j4 k L dep out L (L.length : Int) (x : Int) false a l (pgLeaf l L[x]) (pgL l L[x])) (okL l (L.drop (x + 1)) && denseF l n (L.flatMap (kids l))) := by
      refine Evn.step (fun k => by rw [impl_Dense.j4, if_neg (by decide)]) ?_
      cases hl : pgLeaf l L[x] with
      | true =>
        refine Evn.pos rfl ?_; rw [kids_leaf hl, List.append_nil] at ih; rw [wrapI (by omega)]; exact ih
      | false =>
        refine Evn.neg (by decide) ?_; rw [kids_inner hl] at ih; refine impl_dl2 a l L dep (x : Int) (pgL l L[x]) h4 _ _ 0 (Nat.zero_add _) out (by omega) ?_; rw [List.drop_zero, wrapI (by omega)]; exact ih
    by_cases hlast : x + 1 < L.length
    · refine Evn.pos (by omega) ?_
      rw [ok_more l L x hlast]
      by_cases hf : (pgL l L[x]).length = 4
      · rw [show fullB l L[x] = true from decide_eq_true hf, Bool.true_and]
        rw [show ((((rd_T90 l L[x]).f1.f1).length : Int) != 4) = false by rw [show ((rd_T90 l L[x]).f1.f1).length = 4 from hf]; rfl]; exact tail
      · rw [show fullB l L[x] = false from decide_eq_false hf, Bool.false_and, Bool.false_and]
        rw [show ((((rd_T90 l L[x]).f1.f1).length : Int) != 4) = true by rw [bne_iff_ne]; exact fun e => hf (by exact_mod_cast e)]; exact Evn.step (fun k => by rw [impl_Dense.j4, if_pos rfl]) (Evn.ret _)
    · refine Evn.neg (by omega) ?_
      rw [ok_last l L x (by omega)]; rw [List.drop_eq_nil_of_le (by omega)] at tail; exact tail
theorem impl_dl0 {l : List Pg} {a : Int} {r : List Int} (h : Right l a r) (hr : Reached l a r) (har : a ∈ r) : ∀ n m : Nat, m + n = 12 → Evn (fun k => impl_Dense.l0 k (lvl l m a) ((m + 1 : Nat) : Int) a l) (denseF l n (lvl l m a))
  | 0, m, hm => Evn.step (fun k => by rw [impl_Dense.l0, if_neg (by omega)]) (Evn.step (fun k => by rw [impl_Dense.j2, if_neg (by decide)]; rfl) (Evn.ret _))
  | n + 1, m, hm => by
    have ih := impl_dl0 h hr har n (m + 1) (by omega); have hmem := lvl_mem h hr m a har; have hlen := Nat.le_trans (lvl_len h hr m a har) (pow12' (by omega)); rw [lvl_next] at ih; refine Evn.step (fun k => by rw [impl_Dense.l0, if_pos (by omega)]) ?_
    generalize lvl l m a = L at ih hmem hlen
    cases L with
    | nil =>
      rw [denseF_nil]; exact Evn.step (fun k => by rw [impl_Dense.j2, if_neg (by decide)]) (Evn.ret _)
    | cons c t =>
      rw [decide_eq_true (show (((c :: t).length : Int) > 0) by rw [List.length_cons]; omega)]; refine Evn.step (fun k => by rw [impl_Dense.j2, if_pos rfl]) ?_; have := impl_dl1 h hr ((m + 1 : Nat) : Int) (c :: t) hmem hlen n (fun Q hQ => by rw [hQ, wrapI (by omega)]; exact ih) _ 0 (Nat.zero_add _) [] rfl; rw [List.drop_zero] at this; exact this
theorem dense_both (a : Int) (l : List Pg) (hl : l.length ≤ 1048576) (hp : ∀ p ∈ l, p.f1.f1.length ≤ 1048576) : ∃ b : Bool, Evn (fun k => spec_Dense.f k a l) b ∧ Evn (fun k => impl_Dense.f k a l) b := by
  obtain ⟨r, hw, hr⟩ := reached l hl hp a; have h1 := spec_bookOk a l r hl hp hw hr; have h2 := impl_bookOk a l r hl hp hw hr; have hrl := hr.once.len; have hfl := flat_len l hp r hr.once.2
  by_cases h : Right l a r
  · rw [decide_eq_true h] at h1 h2
    have har := hr.root_mem h.root; have hsa := spec_all a l r hw hp hr.once.2 (by omega); have hia := impl_all a l r hw hp hr.once.2 (by omega)
    have hbig : (r.flatMap (pgItems l)).length ≤ big := by
      unfold big
      omega
    have hso := spec_InOrder_f _ hbig; have hio := impl_InOrder_f _ hbig; refine ⟨denseF l 12 [a] && inOrderB (r.flatMap (pgItems l)), ?_, ?_⟩
    · unfold spec_Dense.f
      refine Evn.bind h1 (Evn.pos rfl ?_); exact spec_dl0 h hr har _ (Evn.bind hsa (Evn.bind hso (Evn.ret _))) 12 0 (by omega)
    · unfold impl_Dense.f
      refine Evn.bind h2 (Evn.pos rfl (Evn.bind hia (Evn.bind hio ?_)))
      cases inOrderB (r.flatMap (pgItems l)) with
      | false =>
        rw [Bool.and_false]; exact Evn.step (fun k => by rw [impl_Dense.j0]; rfl) (Evn.ret _)
      | true =>
        rw [Bool.and_true]; exact Evn.step (fun k => by rw [impl_Dense.j0, if_neg (by decide)]; rfl) (impl_dl0 h hr har 12 0 (by omega))
  · rw [decide_eq_false h] at h1 h2
    refine ⟨false, Evn.bind h1 (Evn.neg (by decide) (Evn.ret _)), Evn.bind h2 (Evn.neg (by decide) ?_)⟩; exact Evn.step (fun k => by rw [impl_Dense.j0, if_pos rfl]) (Evn.ret _)

end Go.Proofs.Ytngjaajcdbodeaa.Pure

/- The program's Dense returns what the reference's returns, for all arguments. No condition. -/
namespace Go.Proofs.Ytngjaajcdbodeaa.Pure
open Go.RowKit Go.Proofs.Ytngjaajcdbodeaa.All Go.Proofs.Ytngjaajcdbodeaa.Op Go.Proofs.Ytngjaajcdbodeaa.Sq
set_option linter.unusedVariables false

theorem FnExactDense (y0 : Int × List LPg) (hg0 : good41 y0) : ∃ k, laws_FnExactDense.f k y0.1 y0.2 = some true := by
  obtain ⟨a, l⟩ := y0; have hg : l.length ≤ 9223372036854775807 ∧ ∀ p ∈ l, p.f1.f1.length ≤ 9223372036854775807 := ⟨hg0.2.1, fun p hp => (hg0.2.2 p hp).2.2.1⟩
  apply Evn.some_k
  unfold laws_FnExactDense.f; refine Evn.bind (szBook_f a l 1048576 (by omega) hg.1 hg.2) ?_
  by_cases h : (1048576 : Int) < l.length + heap l
  · rw [if_pos h]
    exact Evn.ret _
  · rw [if_neg h]
    refine Evn.neg (by omega) ?_; have hs : Small l := Small.of l (by omega); have hm := hs.made; obtain ⟨r, h1, h2⟩ := dense_both a (l.map toPg) hm.1 hm.2; refine Evn.bind (toBook_f a l hs.len hs.ent) (Evn.bind h1 (Evn.bind (toBook_f a l hs.len hs.ent) (Evn.bind h2 (Evn.neg (by simp) ?_)))); exact Evn.bind (toBook_f a l hs.len hs.ent) (Evn.bind (eqBook_same a _ (big_of hm.1) fun p hp => big_of (hm.2 p hp)) (Evn.ret _))

end Go.Proofs.Ytngjaajcdbodeaa.Pure
