/- Plain laws of the printed marks of whole numbers. No condition. -/
import Derived.Test.YthenmlaleobapaaPureMark
import Derived.Test.YthenmlaleobapaaAllx45
import Derived.Test.YthenmlaleobapaaAllx46
import Derived.Test.YthenmlaleobapaaAllx42
namespace Go.Proofs.Ythenmlaleobapaa.Pure
open Go.RowKit Go.Proofs.Ythenmlaleobapaa.All Go.Proofs.YthenmlaleobapaaW.PrintWords Go.Proofs.YthenmlaleobapaaW.PrintLast
set_option linter.unusedVariables false

theorem markIntS_f (l : List Int) (n : Int) (hn : 0 ≤ n) (hb : n + l.length ≤ 4611686018427387904) : Evn (fun k => laws_markIntS.f k l n) (n + l.length, marks (fun n => n) 1 n l.length) := by
  have h := mark_loop (L := laws_markIntS.l0) (f := fun n => n) (s := 1) (by decide) (fun k done a rest n hn hb hl => by
    rw [laws_markIntS.l0, if_pos (mid_lt _ _ _), if_pos (by omega), Int.toNat_natCast, set_mid, succ_small hl, wrap_small (by omega) (by omega)]) (fun k xs n => by rw [laws_markIntS.l0, if_neg (by omega)]) l [] n hn (by rw [Int.one_mul]; exact hb) (by simp; omega)
  rw [Int.one_mul] at h
  exact h
theorem heldIntS_f (m : Nat) (n : Int) (hn : 0 ≤ n) (hb : n + m ≤ 4611686018427387904) : Evn (fun k => laws_heldIntS.f k (marks (fun n => n) 1 n m) n) (n + m) := by
  have h := held_loop (H := laws_heldIntS.l0) (f := fun n => n) (s := 1) (by decide) (fun k done rest n hn hb hl => by
    rw [laws_heldIntS.l0, if_pos (mid_lt _ _ _), if_pos (by omega), show rd (done ++ n :: rest) (done.length : Int) = n from getD_mid done n rest 0, if_pos rfl, succ_small hl, wrap_small (by omega) (by omega)]) (fun k xs n => by rw [laws_heldIntS.l0, if_neg (by omega)]) m [] n hn (by rw [Int.one_mul]; exact hb) (by simp; omega)
  rw [Int.one_mul] at h
  exact h
theorem eqIntS_same (l : List Int) (hl : l.length ≤ big) : Evn (fun k => laws_eqIntS.f k l l) true := by
  unfold laws_eqIntS.f
  refine Evn.pos rfl ?_
  refine same_loop (L := laws_eqIntS.l0) (fun k xs i hi => ?_) (fun k xs => ?_) l hl
  · rw [laws_eqIntS.l0, if_pos (by omega), if_pos (by omega), if_pos (by omega), if_pos rfl]
  · rw [laws_eqIntS.l0, if_neg (by omega)]

end Go.Proofs.Ythenmlaleobapaa.Pure
