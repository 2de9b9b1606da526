/- Plain laws of the printed functions over lists of items: what is made of a list, and that it equals itself. No condition. -/
import Derived.Test.YthenmlaleobapaaPureB0
import Derived.Test.YthenmlaleobapaaAllx10
import Derived.Test.YthenmlaleobapaaAllx1
import Derived.Test.YthenmlaleobapaaAllx23
namespace Go.Proofs.Ythenmlaleobapaa.Pure
open Go.RowKit Go.Proofs.Ythenmlaleobapaa.All Go.Proofs.YthenmlaleobapaaW.PrintWords Go.Proofs.YthenmlaleobapaaW.PrintLast
set_option linter.unusedVariables false

def toI (e : LIt) : It := ⟨e.f0, toB e.f1⟩
theorem getD_I (l : List It) (i : Nat) (h : i < l.length) : l.getD i z68 = l[i] := by rw [List.getD_eq_getElem?_getD, List.getElem?_eq_getElem h]; rfl
theorem rdI_at (l : List It) (i : Nat) (h : i < l.length) : rd_T68 l (i : Int) = l[i] := getD_I l i h
theorem toItemS_f (l : List LIt) (hl : l.length ≤ 1048576) : Evn (fun k => laws_toItemS.f k l) (l.map toI) := by
  have h := fill_loop (L := laws_toItemS.l0) (f := toI) (F := fun _ x => some (toI x)) z72 (fun k xs acc i hi ha => by
    simp only [laws_toItemS.l0]
    rw [if_pos (by omega), if_pos (by omega)]
    simp only [laws_toItem.f, laws_toBox.f, Option.bind_some]
    rw [if_pos (by omega)]
    rfl) (fun k xs acc => by simp only [laws_toItemS.l0]; rw [if_neg (by omega)]) l (by unfold big; omega) (fun x _ => Evn.ret _) z68
  unfold laws_toItemS.f
  refine Evn.pos (by omega) (Evn.pos (by omega) ?_)
  exact h
theorem eqItemS_same (l : List It) (hl : l.length ≤ big) : Evn (fun k => laws_eqItemS.f k l l) true := by
  unfold laws_eqItemS.f
  refine Evn.pos rfl ?_
  refine same_loop (L := laws_eqItemS.l0) (fun k xs i hi => ?_) (fun k xs => ?_) l hl
  · simp only [laws_eqItemS.l0]
    rw [if_pos (by omega), if_pos (by omega), if_pos (by omega)]
    simp only [laws_eqItem.f, eqBox_same, Option.bind_some, if_true]
  · simp only [laws_eqItemS.l0]
    rw [if_neg (by omega)]
theorem szItemS_f (l : List LIt) (n : Int) (hn : 0 ≤ n ∧ n ≤ 1048576) (hl : l.length ≤ 9223372036854775807) : laws_szItemS.f l n = some (if n < l.length then -1 else n - l.length) := by
  unfold laws_szItemS.f
  rw [wrap_small (by omega) (by omega)]
  by_cases h : n < l.length
  · rw [if_pos (by omega), if_pos h]
  · rw [if_neg (by omega), if_neg h]

end Go.Proofs.Ythenmlaleobapaa.Pure
