/- Plain laws of the printed copies of a book. No condition. -/
import Derived.Test.YtngjaajcdbodeaaPureBook
import Derived.Test.YtngjaajcdbodeaaAllx47
import Derived.Test.YtngjaajcdbodeaaAllx37
namespace Go.Proofs.Ytngjaajcdbodeaa.Pure
open Go.RowKit Go.Proofs.Ytngjaajcdbodeaa.All Go.Proofs.YtngjaajcdbodeaaW.PrintWords Go.Proofs.YtngjaajcdbodeaaW.PrintLast
set_option linter.unusedVariables false

theorem impl_copyNode_f (b : Bool) (es : List En) (h : es.length ≤ 1048576) : impl_copyNode.f b es = some (b, es) := by
  unfold impl_copyNode.f slices_Clone_Entry.f
  rw [if_pos (by omega)]
  rfl
theorem spec_l5Copy_f (b : Bool) (es : List En) (h : es.length ≤ 1048576) : spec_l5Copy.f b es = some (b, es) := by
  unfold spec_l5Copy.f
  simp only [Option.bind_some, List.nil_append, List.length_nil]
  rw [if_pos (by omega)]
theorem takeSnoc {α : Type} (l : List α) (x : Nat) (h : x < l.length) : l.take (x + 1) = l.take x ++ [l[x]] := by
  rw [List.take_add_one, List.getElem?_eq_getElem h]
  rfl
theorem impl_copyBook_f (a : Int) (l : List Pg) (hl : l.length ≤ 1048576) (hp : ∀ p ∈ l, p.f1.f1.length ≤ 1048576) : Evn (fun k => impl_copyBook.f k a l) (a, l) := by
  have key : ∀ d x : Nat, x + d = l.length → Evn (fun k => impl_copyBook.l0 k (l.take x) l (l.length : Int) (x : Int) a l) (a, l) := by
    intro d
    induction d with
    | zero =>
      intro x hx
      obtain rfl : x = l.length := by omega
      rw [List.take_length]
      exact Evn.step (fun k => by rw [impl_copyBook.l0, if_neg (by omega)]) (Evn.ret _)
    | succ d ih =>
      intro x hx
      have hxl : x < l.length := by omega
      have h := ih (x + 1) (by omega)
      rw [takeSnoc l x hxl] at h
      refine Evn.step (fun k => ?_) h
      rw [impl_copyBook.l0, if_pos (by omega), if_pos (by omega), if_pos (by omega), rdPg_at l x hxl, impl_copyNode_f _ _ (hp _ (List.getElem_mem hxl))]
      simp only [Option.bind_some]
      rw [if_pos (by rw [List.length_take]; omega), wrap_succ hxl (big_of hl)]
  exact key l.length 0 (by omega)
theorem spec_l7Copy_f (a : Int) (l : List Pg) (hl : l.length ≤ 1048576) (hp : ∀ p ∈ l, p.f1.f1.length ≤ 1048576) : Evn (fun k => spec_l7Copy.f k a l) (a, l) := by
  have key : ∀ d x : Nat, x + d = l.length → Evn (fun k => spec_l7Copy.l0 k (x : Int) a l a (l.take x)) (a, l) := by
    intro d
    induction d with
    | zero =>
      intro x hx
      obtain rfl : x = l.length := by omega
      rw [List.take_length]
      exact Evn.step (fun k => by rw [spec_l7Copy.l0, if_neg (by omega)]) (Evn.ret _)
    | succ d ih =>
      intro x hx
      have hxl : x < l.length := by omega
      have h := ih (x + 1) (by omega)
      rw [takeSnoc l x hxl] at h
      refine Evn.step (fun k => ?_) h
      rw [spec_l7Copy.l0, if_pos (by omega), if_pos (by omega), rdPg_at l x hxl, spec_l5Copy_f _ _ (hp _ (List.getElem_mem hxl))]
      simp only [Option.bind_some]
      rw [if_pos (by rw [List.length_take]; omega), wrap_succ hxl (big_of hl)]
  exact key l.length 0 (by omega)

end Go.Proofs.Ytngjaajcdbodeaa.Pure
