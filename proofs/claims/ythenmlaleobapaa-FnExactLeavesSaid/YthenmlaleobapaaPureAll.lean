/- Plain law of the printed lists of leaves and of items of a book, the program's and the reference's. No condition. -/
import Derived.Test.YthenmlaleobapaaPureReach
import Derived.Test.YthenmlaleobapaaHReach
import Derived.Test.YthenmlaleobapaaAllx52
import Derived.Test.YthenmlaleobapaaAllx57
import Derived.Test.YthenmlaleobapaaAllx49
namespace Go.Proofs.Ythenmlaleobapaa.Pure
open Go.RowKit Go.Proofs.Ythenmlaleobapaa.All Go.Proofs.YthenmlaleobapaaW.PrintWords Go.Proofs.YthenmlaleobapaaW.PrintLast
set_option linter.unusedVariables false

theorem rdInt (r : List Int) (x : Nat) (h : x < r.length) : rd r (x : Int) = r[x] := by
  show r.getD x 0 = _
  rw [List.getD_eq_getElem?_getD, List.getElem?_eq_getElem h]
  rfl
theorem take_snoc {α : Type} (l : List α) (x : Nat) (h : x < l.length) : l.take (x + 1) = l.take x ++ [l[x]] := by
  rw [List.take_add_one, List.getElem?_eq_getElem h]
  rfl
theorem rdEn_at (l : List En) (i : Nat) (h : i < l.length) : rd_T82 l (i : Int) = l[i] := by
  show l.getD i z82 = _
  rw [List.getD_eq_getElem?_getD, List.getElem?_eq_getElem h]
  rfl
def itOf (e : En) : It := ⟨e.f0, ⟨e.f1.f0, e.f1.f1, e.f1.f2, e.f1.f3⟩⟩
def itemsOf (b : Bool) (es : List En) : List It := if b = true then es.map itOf else []
theorem itemsOf_len (b : Bool) (es : List En) : (itemsOf b es).length ≤ es.length := by
  unfold itemsOf
  split <;> simp
theorem spec_itemsOf (b : Bool) (es : List En) (he : es.length ≤ 1048576) : Evn (fun k => spec_ItemsOf.f k b es) (itemsOf b es) := by
  unfold spec_ItemsOf.f
  cases b with
  | false =>
    by_cases h : (0 : Int) < es.length
    · exact Evn.step (fun k => by rw [spec_ItemsOf.l0, if_pos h, if_neg (by decide)]; rfl) (Evn.ret _)
    · exact Evn.step (fun k => by rw [spec_ItemsOf.l0, if_neg h]; rfl) (Evn.ret _)
  | true =>
    have key : ∀ d x : Nat, x + d = es.length → Evn (fun k => spec_ItemsOf.l0 k ((es.take x).map itOf) (x : Int) true es) (es.map itOf) := by
      intro d
      induction d with
      | zero =>
        intro x hx
        obtain rfl : x = es.length := by omega
        rw [List.take_length]
        exact Evn.step (fun k => by rw [spec_ItemsOf.l0, if_neg (by omega)]) (Evn.ret _)
      | succ d ih =>
        intro x hx
        have h := ih (x + 1) (by omega)
        rw [take_snoc es x (by omega), List.map_append] at h
        refine Evn.step (fun k => ?_) h
        have hw : wrap64 ((x : Int) + 1) = ((x + 1 : Nat) : Int) := by
          unfold wrap64
          omega
        rw [spec_ItemsOf.l0, if_pos (by omega), if_pos rfl, if_pos (by omega), if_pos (by rw [List.length_map, List.length_take]; omega), hw, rdEn_at es x (by omega)]
        rfl
    exact key es.length 0 (by omega)
theorem impl_itemsOf (b : Bool) (es : List En) (he : es.length ≤ 1048576) : Evn (fun k => impl_ItemsOf.f k b es) (itemsOf b es) := by
  unfold impl_ItemsOf.f
  cases b with
  | false => exact Evn.ret _
  | true =>
    have key : ∀ d x : Nat, x + d = es.length → Evn (fun k => impl_ItemsOf.l0 k ((es.take x).map itOf) es (es.length : Int) (x : Int)) (es.map itOf) := by
      intro d
      induction d with
      | zero =>
        intro x hx
        obtain rfl : x = es.length := by omega
        rw [List.take_length]
        exact Evn.step (fun k => by rw [impl_ItemsOf.l0, if_neg (by omega)]) (Evn.ret _)
      | succ d ih =>
        intro x hx
        have h := ih (x + 1) (by omega)
        rw [take_snoc es x (by omega), List.map_append] at h
        refine Evn.step (fun k => ?_) h
        have hw : wrap64 ((x : Int) + 1) = ((x + 1 : Nat) : Int) := by
          unfold wrap64
          omega
        rw [impl_ItemsOf.l0, if_pos (by omega), if_pos (by omega), if_pos (by omega), if_pos (by rw [List.length_map, List.length_take]; omega), hw, rdEn_at es x (by omega)]
        rfl
    exact Evn.pos rfl (key es.length 0 (by omega))

def leafB (l : List Pg) (i : Int) : Bool := (rd_T77 l i).f1.f0
def pgItems (l : List Pg) (i : Int) : List It := itemsOf (rd_T77 l i).f1.f0 (rd_T77 l i).f1.f1
theorem leaves_items (l : List Pg) (r : List Int) : (r.filter (leafB l)).flatMap (pgItems l) = r.flatMap (pgItems l) := by
  induction r with
  | nil => rfl
  | cons i r ih =>
    by_cases h : leafB l i = true
    · rw [List.filter_cons_of_pos h, List.flatMap_cons, List.flatMap_cons, ih]
    · rw [List.filter_cons_of_neg h, List.flatMap_cons, ih]
      have : pgItems l i = [] := by
        unfold pgItems itemsOf
        exact if_neg h
      rw [this, List.nil_append]
theorem spec_leaves (a : Int) (l : List Pg) (r : List Int) (hw : Evn (fun k => walkM k l a []) r) (ho : ∀ i ∈ r, pgOk l i) (hr : r.length ≤ 1048576) : Evn (fun k => spec_Leaves.f k a l) (r.filter (leafB l)) := by
  have key : ∀ d x : Nat, x + d = r.length → Evn (fun k => spec_Leaves.l0 k ((r.take x).filter (leafB l)) r (x : Int) a l) (r.filter (leafB l)) := by
    intro d
    induction d with
    | zero =>
      intro x hx
      obtain rfl : x = r.length := by omega
      rw [List.take_length]
      exact Evn.step (fun k => by rw [spec_Leaves.l0, if_neg (by omega)]) (Evn.ret _)
    | succ d ih =>
      intro x hx
      have h := ih (x + 1) (by omega)
      rw [take_snoc r x (by omega), List.filter_append] at h
      have hg := ho _ (List.getElem_mem (show x < r.length by omega))
      have hlen : ((r.take x).filter (leafB l)).length ≤ x := Nat.le_trans (List.length_filter_le _ _) (by rw [List.length_take]; omega)
      refine Evn.step (fun k => ?_) h
      have hw : wrap64 ((x : Int) + 1) = ((x + 1 : Nat) : Int) := by
        unfold wrap64
        omega
      rw [spec_Leaves.l0, if_pos (by omega), if_pos (by omega), rdInt r x (by omega), if_pos hg.1, if_pos hg.2.1, hw]
      by_cases hf : leafB l r[x] = true
      · rw [List.filter_cons_of_pos hf, List.filter_nil]
        unfold leafB at hf
        rw [if_pos hf, if_pos (by omega)]
      · rw [List.filter_cons_of_neg hf, List.filter_nil, List.append_nil]
        unfold leafB at hf
        rw [if_neg hf]
  exact Evn.bind hw (key r.length 0 (by omega))
theorem pgItems_len (l : List Pg) (hp : ∀ p ∈ l, p.f1.f1.length ≤ 1048576) (i : Int) (hi : pgOk l i) : (rd_T77 l i).f1.f1.length ≤ 1048576 := by
  obtain ⟨m, rfl⟩ : ∃ m : Nat, i = (m : Int) := ⟨i.toNat, by have := hi.1; omega⟩
  have hm : m < l.length := by have := hi.2.1; omega
  rw [rdPg_at l m hm]
  exact hp _ (List.getElem_mem hm)
theorem flat_len (l : List Pg) (hp : ∀ p ∈ l, p.f1.f1.length ≤ 1048576) : ∀ r : List Int, (∀ i ∈ r, pgOk l i) → (r.flatMap (pgItems l)).length ≤ r.length * 1048576
  | [], _ => Nat.zero_le _
  | i :: r, ho => by
    have h1 := flat_len l hp r (fun j hj => ho j (List.mem_cons_of_mem _ hj))
    have h2 := pgItems_len l hp i (ho i (List.mem_cons_self ..))
    have h3 := itemsOf_len (rd_T77 l i).f1.f0 (rd_T77 l i).f1.f1
    rw [List.flatMap_cons, List.length_append, List.length_cons]
    have h4 : (pgItems l i).length ≤ 1048576 := Nat.le_trans h3 h2
    omega
theorem spec_all (a : Int) (l : List Pg) (r : List Int) (hw : Evn (fun k => walkM k l a []) r) (hp : ∀ p ∈ l, p.f1.f1.length ≤ 1048576) (ho : ∀ i ∈ r, pgOk l i) (hr : r.length ≤ 1048576) : Evn (fun k => spec_All.f k a l) (r.flatMap (pgItems l)) := by
  refine Evn.bind (spec_leaves a l r hw ho hr) ?_
  rw [← leaves_items]
  have hs : ∀ i ∈ r.filter (leafB l), pgOk l i := fun i hi => ho i (List.mem_filter.1 hi).1
  have hs2 : (r.filter (leafB l)).length ≤ 1048576 := Nat.le_trans (List.length_filter_le _ _) hr
  generalize r.filter (leafB l) = q at hs hs2
  have key : ∀ d x : Nat, x + d = q.length → Evn (fun k => spec_All.l0 k ((q.take x).flatMap (pgItems l)) q (x : Int) a l) (q.flatMap (pgItems l)) := by
    intro d
    induction d with
    | zero =>
      intro x hx
      obtain rfl : x = q.length := by omega
      rw [List.take_length]
      exact Evn.step (fun k => by rw [spec_All.l0, if_neg (by omega)]) (Evn.ret _)
    | succ d ih =>
      intro x hx
      have h := ih (x + 1) (by omega)
      rw [take_snoc q x (by omega), List.flatMap_append, List.flatMap_singleton] at h
      have hg := hs _ (List.getElem_mem (show x < q.length by omega))
      have hl1 := flat_len l hp (q.take x) (fun i hi => hs i (List.mem_of_mem_take hi))
      rw [List.length_take] at hl1
      have hl2 := pgItems_len l hp _ hg
      have hl3 := itemsOf_len (rd_T77 l q[x]).f1.f0 (rd_T77 l q[x]).f1.f1
      have hw : wrap64 ((x : Int) + 1) = ((x + 1 : Nat) : Int) := by
        unfold wrap64
        omega
      have s1 : ∀ k, spec_All.l0 (k + 1) ((q.take x).flatMap (pgItems l)) q (x : Int) a l = (spec_ItemsOf.f k (rd_T77 l q[x]).f1.f0 (rd_T77 l q[x]).f1.f1).bind fun t => (if ((q.take x).flatMap (pgItems l)).length + t.length < 3518437208883 then (spec_All.l0 k ((q.take x).flatMap (pgItems l) ++ t) q ((x + 1 : Nat) : Int) a l) else none) := by
        intro k
        rw [spec_All.l0, if_pos (by omega), if_pos (by omega), rdInt q x (by omega), if_pos hg.1, if_pos hg.2.1, hw]
      refine Evn.step s1 (Evn.bind (spec_itemsOf _ _ hl2) (Evn.pos (by omega) h))
  exact key q.length 0 (by omega)
theorem impl_all (a : Int) (l : List Pg) (r : List Int) (hw : Evn (fun k => walkM k l a []) r) (hp : ∀ p ∈ l, p.f1.f1.length ≤ 1048576) (ho : ∀ i ∈ r, pgOk l i) (hr : r.length ≤ 1048576) : Evn (fun k => impl_All.f k a l) (r.flatMap (pgItems l)) := by
  unfold impl_All.f
  refine Evn.bind (a := r.flatMap (pgItems l)) ?_ (Evn.ret _)
  unfold impl_itemsFrom.f
  refine Evn.bind (a := r) hw ?_
  have key : ∀ d x : Nat, x + d = r.length → Evn (fun k => impl_itemsFrom.l0 k ((r.take x).flatMap (pgItems l)) r (r.length : Int) (x : Int) a l) (r.flatMap (pgItems l)) := by
    intro d
    induction d with
    | zero =>
      intro x hx
      obtain rfl : x = r.length := by omega
      rw [List.take_length]
      exact Evn.step (fun k => by rw [impl_itemsFrom.l0, if_neg (by omega)]) (Evn.ret _)
    | succ d ih =>
      intro x hx
      have h := ih (x + 1) (by omega)
      rw [take_snoc r x (by omega), List.flatMap_append, List.flatMap_singleton] at h
      have hg := ho _ (List.getElem_mem (show x < r.length by omega))
      have hl1 := flat_len l hp (r.take x) (fun i hi => ho i (List.mem_of_mem_take hi))
      rw [List.length_take] at hl1
      have hl2 := pgItems_len l hp _ hg
      have hl3 := itemsOf_len (rd_T77 l r[x]).f1.f0 (rd_T77 l r[x]).f1.f1
      have hw : wrap64 ((x : Int) + 1) = ((x + 1 : Nat) : Int) := by
        unfold wrap64
        omega
      have s1 : ∀ k, impl_itemsFrom.l0 (k + 1) ((r.take x).flatMap (pgItems l)) r (r.length : Int) (x : Int) a l = (impl_ItemsOf.f k (rd_T77 l r[x]).f1.f0 (rd_T77 l r[x]).f1.f1).bind fun t => (if ((r.take x).flatMap (pgItems l)).length + t.length < 3518437208883 then (impl_itemsFrom.l0 k ((r.take x).flatMap (pgItems l) ++ t) r (r.length : Int) ((x + 1 : Nat) : Int) a l) else none) := by
        intro k
        rw [impl_itemsFrom.l0, if_pos (by omega), if_pos (by omega), if_pos (by omega), rdInt r x (by omega), if_pos hg.1, if_pos hg.2.1, hw]
      refine Evn.step s1 (Evn.bind (impl_itemsOf _ _ hl2) (Evn.pos (by omega) h))
  exact key r.length 0 (by omega)
theorem impl_leaves (a : Int) (l : List Pg) (r : List Int) (hw : Evn (fun k => walkM k l a []) r) (ho : ∀ i ∈ r, pgOk l i) (hr : r.length ≤ 1048576) : Evn (fun k => impl_Leaves.f k a l) (r.filter (leafB l)) := by
  have key : ∀ d x : Nat, x + d = r.length → Evn (fun k => impl_Leaves.l0 k ((r.take x).filter (leafB l)) r (r.length : Int) (x : Int) a l) (r.filter (leafB l)) := by
    intro d
    induction d with
    | zero =>
      intro x hx
      obtain rfl : x = r.length := by omega
      rw [List.take_length]
      exact Evn.step (fun k => by rw [impl_Leaves.l0, if_neg (by omega)]) (Evn.ret _)
    | succ d ih =>
      intro x hx
      have h := ih (x + 1) (by omega)
      rw [take_snoc r x (by omega), List.filter_append] at h
      have hg := ho _ (List.getElem_mem (show x < r.length by omega))
      have hlen : ((r.take x).filter (leafB l)).length ≤ x := Nat.le_trans (List.length_filter_le _ _) (by rw [List.length_take]; omega)
      refine Evn.step (fun k => ?_) h
      have hw : wrap64 ((x : Int) + 1) = ((x + 1 : Nat) : Int) := by
        unfold wrap64
        omega
      rw [impl_Leaves.l0, if_pos (by omega), if_pos (by omega), if_pos (by omega), rdInt r x (by omega), if_pos hg.1, if_pos hg.2.1, hw]
      by_cases hf : leafB l r[x] = true
      · rw [List.filter_cons_of_pos hf, List.filter_nil]
        unfold leafB at hf
        rw [if_pos hf, if_pos (by omega)]
      · rw [List.filter_cons_of_neg hf, List.filter_nil, List.append_nil]
        unfold leafB at hf
        rw [if_neg hf]
  exact Evn.bind (Evn.bind (a := r) hw (Evn.ret _)) (key r.length 0 (by omega))
theorem leaves_both (a : Int) (l : List Pg) (hl : l.length ≤ 1048576) (hp : ∀ p ∈ l, p.f1.f1.length ≤ 1048576) : ∃ r : List Int, r.length ≤ 1048576 ∧ Evn (fun k => spec_Leaves.f k a l) r ∧ Evn (fun k => impl_Leaves.f k a l) r := by
  obtain ⟨r, hw, ho⟩ := reach_ends l hl hp a
  have hrl := ho.len
  exact ⟨_, Nat.le_trans (List.length_filter_le _ _) (by omega), spec_leaves a l r hw ho.2 (by omega), impl_leaves a l r hw ho.2 (by omega)⟩
theorem all_both (a : Int) (l : List Pg) (hl : l.length ≤ 1048576) (hp : ∀ p ∈ l, p.f1.f1.length ≤ 1048576) : ∃ r : List It, r.length ≤ 1099511627776 ∧ Evn (fun k => spec_All.f k a l) r ∧ Evn (fun k => impl_All.f k a l) r := by
  obtain ⟨r, hw, ho⟩ := reach_ends l hl hp a
  have hrl := ho.len
  have := flat_len l hp r ho.2
  exact ⟨r.flatMap (pgItems l), by omega, spec_all a l r hw hp ho.2 (by omega), impl_all a l r hw hp ho.2 (by omega)⟩

end Go.Proofs.Ythenmlaleobapaa.Pure
