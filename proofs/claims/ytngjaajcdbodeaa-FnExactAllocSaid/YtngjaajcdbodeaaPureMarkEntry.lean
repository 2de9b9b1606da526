/- Plain laws of the printed marks of entries. No condition. -/
import Derived.Test.YtngjaajcdbodeaaPureMark
import Derived.Test.YtngjaajcdbodeaaHMarkEntryS
import Derived.Test.YtngjaajcdbodeaaAllx60
namespace Go.Proofs.Ytngjaajcdbodeaa.Pure
open Go.RowKit Go.Proofs.Ytngjaajcdbodeaa.All Go.Proofs.YtngjaajcdbodeaaW.PrintWords Go.Proofs.YtngjaajcdbodeaaW.PrintLast
set_option linter.unusedVariables false

def mkE (n : Int) : S103 := ⟨n, ⟨n + 1, n + 2, n + 3, n + 4⟩⟩
theorem w1_up {n : Int} (h0 : 0 ≤ n) (h1 : n + 1 ≤ 4611686018427387904) : wrap64 (n + 1) = n + 1 := wrap_small (by omega) (by omega)
theorem markEntryS_f (l : List S103) (n : Int) (hn : 0 ≤ n) (hb : n + 5 * l.length ≤ 4611686018427387904) : Evn (fun k => laws_markEntryS.f k l n) (n + 5 * l.length, marks mkE 5 n l.length) := by
  exact mark_loop (L := laws_markEntryS.l0) (f := mkE) (s := 5) (by decide) (fun k done a rest n hn hb hl => by
    rw [laws_markEntryS.l0, if_pos (mid_lt _ _ _), if_pos (by omega), Int.toNat_natCast, set_mid, succ_small hl]
    simp only [w1]
    rw [w1_up hn (by omega), w1_up (show 0 ≤ n + 1 by omega) (by omega), w1_up (show 0 ≤ n + 1 + 1 by omega) (by omega), w1_up (show 0 ≤ n + 1 + 1 + 1 by omega) (by omega), w1_up (show 0 ≤ n + 1 + 1 + 1 + 1 by omega) (by omega)]
    have e2 : n + 1 + 1 = n + 2 := by omega
    have e3 : n + 1 + 1 + 1 = n + 3 := by omega
    have e4 : n + 1 + 1 + 1 + 1 = n + 4 := by omega
    have e5 : n + 1 + 1 + 1 + 1 + 1 = n + 5 := by omega
    rw [e5, e4, e3, e2]
    rfl) (fun k xs n => by rw [laws_markEntryS.l0, if_neg (by omega)]) l [] n hn hb (by simp; omega)
theorem heldEntryS_f (m : Nat) (n : Int) (hn : 0 ≤ n) (hb : n + 5 * m ≤ 4611686018427387904) : Evn (fun k => laws_heldEntryS.f k (marks mkE 5 n m) n) (n + 5 * m) := by
  exact held_loop (H := laws_heldEntryS.l0) (f := mkE) (s := 5) (by decide) (fun k done rest n hn hb hl => by
    rw [laws_heldEntryS.l0, if_pos (mid_lt _ _ _), if_pos (by omega), show rd_T103 (done ++ mkE n :: rest) (done.length : Int) = mkE n from getD_mid done (mkE n) rest _, succ_small hl]
    rw [w1_up hn (by omega), w1_up (show 0 ≤ n + 1 by omega) (by omega), w1_up (show 0 ≤ n + 1 + 1 by omega) (by omega), w1_up (show 0 ≤ n + 1 + 1 + 1 by omega) (by omega), w1_up (show 0 ≤ n + 1 + 1 + 1 + 1 by omega) (by omega)]
    rw [if_pos (show (mkE n).f0 = n from rfl), if_pos (show (mkE n).f1.f0 = n + 1 from rfl), if_pos (show (mkE n).f1.f1 = n + 1 + 1 by show n + 2 = _; omega), if_pos (show (mkE n).f1.f2 = n + 1 + 1 + 1 by show n + 3 = _; omega), if_pos (show (mkE n).f1.f3 = n + 1 + 1 + 1 + 1 by show n + 4 = _; omega), show n + 1 + 1 + 1 + 1 + 1 = n + 5 by omega]) (fun k xs n => by rw [laws_heldEntryS.l0, if_neg (by omega)]) m [] n hn hb (by simp; omega)

end Go.Proofs.Ytngjaajcdbodeaa.Pure
