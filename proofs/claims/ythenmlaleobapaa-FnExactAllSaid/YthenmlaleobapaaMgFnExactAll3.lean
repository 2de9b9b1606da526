/- The texts on which the row FnExactAll rests, part 3: contracts of the functions that it reaches and plain laws of what they compute. No condition. -/
import Derived.Maps.OwnOps
import Derived.Maps.Views
import Derived.Test.YthenmlaleobapaaWd1
import Derived.Deep.Slices
import Derived.ChangeSame
import Derived.ChangeArms
import Derived.KernelRfl
import Derived.Test.YthenmlaleobapaaMgFnExactAll1
import Derived.Test.YthenmlaleobapaaMgFnExactAll2
/- The program's walk over the pages, by a closure over a map and a row: it comes to the model of the reference's walk. No condition. -/
namespace Go.Proofs.Ythenmlaleobapaa.All
open Go.RowKit Go.Proofs.YthenmlaleobapaaW.PrintWords Go.Proofs.YthenmlaleobapaaW.PrintLast Go.Proofs.YthenmlaleobapaaW.PrintMore
set_option linter.unusedVariables false
set_option linter.unusedSimpArgs false

/-- Block b is the map of those that were met. -/
def MetOk (w : World) (b : Nat) (out : List Int) : Prop := ∃ (n : Nat) (D : DataW Unit), n ≤ out.length ∧ Go.Maps.IsMap D ∧ w.ownsMap Try.prog 3 (plainElem Try.prog 3) b n D ∧ ∀ i, (Lit.int .i64 i).wf = true → D.atKey (.int .i64 i) (.lit (.int .i64 0)) = .lit (.int .i64 (if i ∈ out then 1 else 0))
theorem MetOk.step {w w' : World} {b : Nat} {out : List Int} (h : MetOk w b out) (he : w'.heap[b]? = w.heap[b]?) : MetOk w' b out := by
  obtain ⟨n, D, h1, h2, ⟨es, clock, hb, hr⟩, h4⟩ := h
  exact ⟨n, D, h1, h2, ⟨es, clock, he.trans hb, hr⟩, h4⟩
theorem MetOk.isMap {w : World} {b : Nat} {out : List Int} (h : MetOk w b out) : ∃ es clock, w.heap[b]? = some (.map es clock) := by
  obtain ⟨n, D, h1, h2, ⟨es, clock, hb, hr⟩, h4⟩ := h
  exact ⟨es, clock, hb⟩
theorem MetOk.made (w : World) : MetOk (w.alloc (.map #[] 0)) w.heap.size [] := ⟨0, .map [], Nat.le_refl _, ⟨[], rfl⟩, World.ownsMap_made w _ _ _, fun i _ => rfl⟩
theorem MetOk.put {w' : World} {b : Nat} {out : List Int} {i : Int} {n : Nat} {D : DataW Unit} (hn : n ≤ out.length) (hm : Go.Maps.IsMap D) (h : w'.ownsMap Try.prog 3 (plainElem Try.prog 3) b (n + 1) (D.put (.int .i64 i) (.lit (.int .i64 1)))) (ha : ∀ i, (Lit.int .i64 i).wf = true → D.atKey (.int .i64 i) (.lit (.int .i64 0)) = .lit (.int .i64 (if i ∈ out then 1 else 0))) : MetOk w' b (out ++ [i]) := by
  refine ⟨n + 1, _, by simp; omega, ?_, h, fun j hj => ?_⟩
  · obtain ⟨es, rfl⟩ := hm
    exact ⟨_, DataW.put_eq _ _ _⟩
  · by_cases hji : j = i
    · subst hji
      rw [Go.Maps.atKey_put_same hm (show WideAt.IsKeyLit (.int .i64 j) from trivial)]
      simp
    · rw [Go.Maps.atKey_put_other (fun e => hji (by injection e)), ha j hj]
      simp [hji]
/-- What stands while the walk goes on. -/
structure VState (w0 : World) (g2 g5 g6 g7 bm : Nat) (root : Int) (A : Option Addr) (c n : Nat) (w : World) (out mo : List Int) : Prop where
  below : Below w0.heap.size w0 w
  box : w.heap[g2]? = some (.cells #[.int .i64 root, .slice A n c] 36 (0, 0))
  met : w.heap[g6]? = some (.cells #[.map (some bm)] 105 (0, 0))
  row : ∃ A v c, v = .slice A out.length c ∧ w.heap[g5]? = some (.cells #[v] 54 (0, 0)) ∧ Kd.R (Kd.int .i64) 3 w w0.heap.size (fun _ => True) v out
  fn : w.heap[g7]? = some (.cells #[.func (.func 88) #[] #[.pointer (some ⟨g2, 0, none⟩), .pointer (some ⟨g6, 0, none⟩), .pointer (some ⟨g5, 0, none⟩), .pointer (some ⟨g7, 0, none⟩)]] 106 (0, 0))
  map : MetOk w bm mo
  g5b : w0.heap.size ≤ g5
  bmb : w0.heap.size ≤ bm
section
variable {w0 : World} {g2 g5 g6 g7 bm : Nat} {root : Int} {A : Option Addr} {c n : Nat} {w w' : World} {out mo mo' : List Int}
theorem VState.next (h : VState w0 g2 g5 g6 g7 bm root A c n w out mo) (hb : Below w.heap.size w w') : VState w0 g2 g5 g6 g7 bm root A c n w' out mo := by
  obtain ⟨Av, v, cv, ev, h5, hr⟩ := h.row
  obtain ⟨es, clock, hm⟩ := h.map.isMap
  exact ⟨below_step h.below hb, blk_below h.box hb, blk_below h.met hb, ⟨Av, v, cv, ev, blk_below h5 hb, Kd.R_below hr hb⟩, blk_below h.fn hb, h.map.step ((blk_below hm hb).trans hm.symm), h.g5b, h.bmb⟩
theorem VState.drewN (h : VState w0 g2 g5 g6 g7 bm root A c n w out mo) (m : Nat) : VState w0 g2 g5 g6 g7 bm root A c n (w.drewN m) out mo := h.next (pw_below_drewN (Below.refl _ _) m)
theorem blkNe {g g' : Nat} {t t' : TypeId} {cs cs' : Array Value} (h : w.heap[g]? = some (.cells cs t (0, 0))) (h' : w.heap[g']? = some (.cells cs' t' (0, 0))) (hne : t ≠ t') : g ≠ g' := by
  rintro rfl
  rw [h] at h'
  injection h' with h'
  injection h' with _ ht
  exact hne ht
theorem cells_ne_map {g b : Nat} {cs : Array Value} {t : TypeId} {fr : Nat × Nat} {es : Array _} {clock : Nat} (hc : w.heap[g]? = some (.cells cs t fr)) (hm : w.heap[b]? = some (.map es clock)) : some g ≠ some b := by
  intro e
  injection e with e
  subst e
  rw [hc] at hm
  cases hm
theorem VState.put (h : VState w0 g2 g5 g6 g7 bm root A c n w out mo) (hg : w.grownBy w' (some bm)) (hm : MetOk w' bm mo') : VState w0 g2 g5 g6 g7 bm root A c n w' out mo' := by
  obtain ⟨Av, v, cv, ev, h5, hr⟩ := h.row
  obtain ⟨es, clock, hmm⟩ := h.map.isMap
  refine ⟨h.below.grown hg h.below.size (fun k hk => ?_), blk_grown h.box hg (cells_ne_map h.box hmm), blk_grown h.met hg (cells_ne_map h.met hmm), ⟨Av, v, cv, ev, blk_grown h5 hg (cells_ne_map h5 hmm), ?_⟩, blk_grown h.fn hg (cells_ne_map h.fn hmm), hm, h.g5b, h.bmb⟩
  · injection hk with hk
    rw [← hk]
    exact h.bmb
  · refine Kd.R_mono (Kd.R_step (Kd.R_bound hr) (fun k hk hlt => hg.block k hlt ?_)) (fun _ _ => trivial)
    obtain ⟨_, _, _, q, hq, cells, hc⟩ := hk
    exact cells_ne_map hc hmm
theorem VState.app (h : VState w0 g2 g5 g6 g7 bm root A c n w out mo) {v v5 : Value} {xs : List Int} (hcell : w.heap[g5]? = some (.cells #[v] 54 (0, 0))) (hv : Kd.R (Kd.int .i64) 3 w w0.heap.size (fun _ => True) v out) (hg : w.grownBy w' v.ownBlock) (hb : Below w0.heap.size w0 w') (hr : Kd.R (Kd.int .i64) 3 w' w0.heap.size (fun _ => True) v5 xs) :
    VState w0 g2 g5 g6 g7 bm root A c n (w'.setCell ⟨g5, 0, none⟩ v5) xs mo := by
  obtain ⟨es, clock, hmm⟩ := h.map.isMap
  obtain ⟨A5, c5, e5⟩ := Kd.R_slice hr
  have k2 := blk_grown h.box hg (Kd.R_ne hv h.box (by decide))
  have k6 := blk_grown h.met hg (Kd.R_ne hv h.met (by decide))
  have k5 := blk_grown hcell hg (Kd.R_ne hv hcell (by decide))
  have k7 := blk_grown h.fn hg (Kd.R_ne hv h.fn (by decide))
  have km : w'.heap[bm]? = w.heap[bm]? := hg.block bm (blk_lt hmm) (fun e => by
    obtain ⟨inner, ho⟩ := Kd.R_own hv
    obtain ⟨cells, hc⟩ := Kd.R_typed hv bm e.symm
    exact cells_ne_map hc hmm rfl)
  have far : ∀ {g : Nat}, g ≠ g5 → (w'.setCell ⟨g5, 0, none⟩ v5).heap[g]? = w'.heap[g]? := fun hne => Below.heap_setCell w' _ v5 _ hne
  exact ⟨below_set hb h.g5b, (far (blkNe k2 k5 (by decide))).trans k2, (far (blkNe k6 k5 (by decide))).trans k6, ⟨A5, v5, c5, e5, blk_put k5 0 v5 rfl, Kd.R_mono (Kd.R_far (Kd.R_types hr k5 (by decide)) (fun _ hk => hk.2) v5) (fun _ _ => trivial)⟩,
    (far (blkNe k7 k5 (by decide))).trans k7, h.map.step ((far (fun e => cells_ne_map hcell hmm (by rw [e]))).trans km), h.g5b, h.bmb⟩
end

def VisitSaid (w0 : World) (g2 g5 g6 g7 bm : Nat) (root : Int) (A : Option Addr) (c : Nat) (ps : List S77) (k : Nat) : Prop :=
  ∀ (i : Int) (xs r : List Int) (w : World), VState w0 g2 g5 g6 g7 bm root A c ps.length w xs xs → walkM k ps i xs = some r →
    Calls Try.prog 88 #[.int .i64 i, .pointer (some ⟨g2, 0, none⟩), .pointer (some ⟨g6, 0, none⟩), .pointer (some ⟨g5, 0, none⟩), .pointer (some ⟨g7, 0, none⟩)] w (fun e w' => ∃ v, e = .returned v ∧ VState w0 g2 g5 g6 g7 bm root A c ps.length w' r r)


theorem used_f (a : Int) (ps : List S77) (i : Int) : impl_used.f a ps i = some (decide (pgOk ps i)) := by
  unfold impl_used.f impl_exists.f pgOk
  by_cases h0 : i ≥ 0
  · rw [if_pos h0]
    simp only [Option.bind_some]
    by_cases h1 : i < ps.length
    · simp only [h1, decide_true, if_true]
      rw [if_pos (by omega)]
      simp [show (0 : Int) ≤ i from h0]
    · simp [h1]
  · rw [if_neg h0]
    simp [h0]

set_option maxHeartbeats 8000000 in
set_option maxRecDepth 100000 in
theorem visit_out (w0 : World) (g2 g5 g6 g7 bm : Nat) (A : Option Addr) (c : Nat) (ps : List S77) (hr0 : Kd.C k77 w0 A ps.length ps) (hc0 : ps.length ≤ c)
    (root i : Int) (xs : List Int) (w : World) (hv : VState w0 g2 g5 g6 g7 bm root A c ps.length w xs xs) (hno : ¬ pgOk ps i) :
    Calls Try.prog 88 #[.int .i64 i, .pointer (some ⟨g2, 0, none⟩), .pointer (some ⟨g6, 0, none⟩), .pointer (some ⟨g5, 0, none⟩), .pointer (some ⟨g7, 0, none⟩)] w (fun e w' => ∃ v, e = .returned v ∧ VState w0 g2 g5 g6 g7 bm root A c ps.length w' xs xs) := by
  have HR := Aside0.mk hr0
  have HC := Aside0.mk hc0
  have HV := Aside0.mk hv
  have HU := Aside0.mk ((used_f root ps i).trans (congrArg some (decide_eq_false hno)))
  clear hr0 hc0 hv hno
  have hu1 := Try.underlying77
  have hu2 := Try.underlying36
  have hk0 : w.cell? ⟨g2, 0, none⟩ = some (.int .i64 root) := (blk_cell HV.out.box 0).trans rfl
  have hk1 : w.cell? ⟨g2, 1, none⟩ = some (.slice A ps.length c) := (blk_cell HV.out.box 1).trans rfl
  go_enter Try.func88, Try.ntmps88
  go_wp2_with (go_at_call 67; refine (impl_used.calls root _ c ps i _ _ (Kd.C_below HR.out HV.out.below) HC.out HU.out).mono ?_; rintro e w1 ⟨rfl, hb1⟩; have HV1 := Aside0.mk (HV.out.next hb1); clear hb1 hk0 hk1 HV)
  refine bodyPost_ret (results_none rfl _ _ _) rfl ?_
  exact ⟨_, rfl, HV1.out⟩

theorem zero_int (w : World) : (zeroValue 3).run Try.prog w = .ok (.int .i64 0) w := by kernel_rfl
theorem look_eq {D : DataW Unit} {i c m : Int} (h : D.atKey (.int .i64 i) (.lit (.int .i64 0)) = .lit (.int .i64 m)) (hc : D.atKey (.int .i64 i) (.lit (.int .i64 0)) = .lit (.int .i64 c)) : c = m := by
  rw [h] at hc
  injection hc with hc
  injection hc with _ hc
  exact hc.symm
set_option maxHeartbeats 8000000 in
set_option maxRecDepth 100000 in
theorem visit_met (w0 : World) (g2 g5 g6 g7 bm : Nat) (A : Option Addr) (c : Nat) (ps : List S77) (hr0 : Kd.C k77 w0 A ps.length ps) (hc0 : ps.length ≤ c)
    (root i : Int) (xs : List Int) (w : World) (hv : VState w0 g2 g5 g6 g7 bm root A c ps.length w xs xs) (hyes : pgOk ps i) (hwf : (Lit.int .i64 i).wf = true) (hin : i ∈ xs) :
    Calls Try.prog 88 #[.int .i64 i, .pointer (some ⟨g2, 0, none⟩), .pointer (some ⟨g6, 0, none⟩), .pointer (some ⟨g5, 0, none⟩), .pointer (some ⟨g7, 0, none⟩)] w (fun e w' => ∃ v, e = .returned v ∧ VState w0 g2 g5 g6 g7 bm root A c ps.length w' xs xs) := by
  have HR := Aside0.mk hr0
  have HC := Aside0.mk hc0
  have HV := Aside0.mk hv
  have HU := Aside0.mk ((used_f root ps i).trans (congrArg some (decide_eq_true hyes)))
  have HIN := Aside0.mk hin
  have HWF := Aside0.mk hwf
  clear hr0 hc0 hv hyes hin hwf
  have hu1 := Try.underlying77
  have hu2 := Try.underlying36
  have hk0 : w.cell? ⟨g2, 0, none⟩ = some (.int .i64 root) := (blk_cell HV.out.box 0).trans rfl
  have hk1 : w.cell? ⟨g2, 1, none⟩ = some (.slice A ps.length c) := (blk_cell HV.out.box 1).trans rfl
  go_enter Try.func88, Try.ntmps88
  go_wp2_with (first
    | (go_at_call 67; refine (impl_used.calls root _ c ps i _ _ (Kd.C_below HR.out HV.out.below) HC.out HU.out).mono ?_; rintro e w1 ⟨rfl, hb1⟩; have HV1 := Aside0.mk (HV.out.next hb1); clear hb1 hk0 hk1 HV; have hk6 : w1.cell? ⟨g6, 0, none⟩ = some (.map (some bm)) := (blk_cell HV1.out.met 0).trans rfl; obtain ⟨nm, Dm, hnm, him, hom, hcm⟩ := HV1.out.map; have HNM := Aside0.mk hnm; have HIM := Aside0.mk him; have HOM := Aside0.mk hom; have HCM := Aside0.mk hcm; clear hnm him hom hcm) | ((try (refine gate_guard (by rfl) ?_; dsimp only)); at_lookup; refine wpList_lookup_own_int _ rfl _ _ 105 rfl 3 3 .i64 (Go.Maps.int_keyed Try.underlying3) Try.underlying105 Try.underlying3 (zero_int _) bm nm Dm rfl HOM.out _ _ rfl (Go.Maps.keyOf_int_mk Try.underlying3 HWF.out) ?_; intro cm hat hwc; obtain rfl : cm = 1 := (look_eq (HCM.out i HWF.out) hat).trans (if_pos HIN.out); clear hat hwc))
  refine bodyPost_ret (results_none rfl _ _ _) rfl ?_
  exact ⟨_, rfl, HV1.out⟩

theorem walkL_leaf {k : Nat} {ps : List S77} {es : List S82} {o r : List Int} {x : Int} (h : walkL k ps true es o x = some r) : r = o := by
  cases k with
  | zero => simp [walkL] at h
  | succ k =>
    rw [walkL, if_pos rfl] at h
    split at h <;> exact (Option.some.inj h).symm
theorem set5_below {W w7 : World} {g : Nat} (h : Below W.heap.size W w7) (hg : g = W.heap.size) (a b c d e : Value) : Below W.heap.size W (((((w7.setCell ⟨g, 0, none⟩ a).setCell ⟨g, 1, none⟩ b).setCell ⟨g, 2, none⟩ c).setCell ⟨g, 3, none⟩ d).setCell ⟨g, 4, none⟩ e) := by
  have hl := Nat.le_of_eq hg.symm
  exact below_set (below_set (below_set (below_set (below_set h hl) hl) hl) hl) hl
theorem VState.fncell {w0 : World} {g2 g5 g6 g7 bm : Nat} {root : Int} {A : Option Addr} {c n : Nat} {w : World} {out mo : List Int} (h : VState w0 g2 g5 g6 g7 bm root A c n w out mo) : w.cell? ⟨g7, 0, none⟩ = some (.func (.func 88) #[] #[.pointer (some ⟨g2, 0, none⟩), .pointer (some ⟨g6, 0, none⟩), .pointer (some ⟨g5, 0, none⟩), .pointer (some ⟨g7, 0, none⟩)]) := (blk_cell h.fn 0).trans rfl
theorem set5_cell {w7 : World} {g t : Nat} {z0 z1 z2 z3 z4 : Value} (h : w7.heap[g]? = some (.cells #[z0, z1, z2, z3, z4] t (0, 0))) (a b c d e : Value) : (((((w7.setCell ⟨g, 0, none⟩ a).setCell ⟨g, 1, none⟩ b).setCell ⟨g, 2, none⟩ c).setCell ⟨g, 3, none⟩ d).setCell ⟨g, 4, none⟩ e).cell? ⟨g, 0, none⟩ = some a := by
  have h1 := blk_put (cs' := #[a, z1, z2, z3, z4]) h 0 a rfl
  have h2 := blk_put (cs' := #[a, b, z2, z3, z4]) h1 1 b rfl
  have h3 := blk_put (cs' := #[a, b, c, z3, z4]) h2 2 c rfl
  have h4 := blk_put (cs' := #[a, b, c, d, z4]) h3 3 d rfl
  have h5 := blk_put (cs' := #[a, b, c, d, e]) h4 4 e rfl
  exact (blk_cell h5 0).trans rfl
theorem store5_run (o : Oper) (a : Act) (p v : Tmp) (hop : o.op = .store 82 (.tmp p) (.tmp v)) (g : Nat) (w7 : World) (b0 b1 b2 b3 b4 : Int) (hp : a.eval (.tmp p) = .pointer (some ⟨g, 0, none⟩)) (hv : a.eval (.tmp v) = .agg #[.int .i64 b0, .int .i64 b1, .int .i64 b2, .int .i64 b3, .int .i64 b4])
    (hbox : w7.heap[g]? = some (.cells #[.int .i64 0, .int .i64 0, .int .i64 0, .int .i64 0, .int .i64 0] 82 (0, 0))) :
    (execOp a.eval o).run Try.prog w7 = .ok .skip (((((w7.setCell ⟨g, 0, none⟩ (.int .i64 b0)).setCell ⟨g, 1, none⟩ (.int .i64 b1)).setCell ⟨g, 2, none⟩ (.int .i64 b2)).setCell ⟨g, 3, none⟩ (.int .i64 b3)).setCell ⟨g, 4, none⟩ (.int .i64 b4)) := by
  have hu1 := Try.underlying82
  have hs0 : w7.cell? ⟨g, 0, none⟩ = some (.int .i64 0) := (blk_cell hbox 0).trans rfl
  have hs1 : w7.cell? ⟨g, 1, none⟩ = some (.int .i64 0) := (blk_cell hbox 1).trans rfl
  have hs2 : w7.cell? ⟨g, 2, none⟩ = some (.int .i64 0) := (blk_cell hbox 2).trans rfl
  have hs3 : w7.cell? ⟨g, 3, none⟩ = some (.int .i64 0) := (blk_cell hbox 3).trans rfl
  have hs4 : w7.cell? ⟨g, 4, none⟩ = some (.int .i64 0) := (blk_cell hbox 4).trans rfl
  have hf0 := blk_frozen hbox 0
  have hf1 := blk_frozen hbox 1
  have hf2 := blk_frozen hbox 2
  have hf3 := blk_frozen hbox 3
  have hf4 := blk_frozen hbox 4
  clear hbox
  unfold execOp
  rw [hop]
  simp only [hp, hv]
  clear hop hp hv
  first | (go_simp; done) | (go_simp; rfl)
theorem hinfoInt5 : (Try.prog.info? 3).map (fun i => (i.zero, i.size, i.bytes)) = some (some (.int .i64 0), 1, 8) := hinfoInt
set_option maxHeartbeats 16000000 in
set_option maxRecDepth 100000 in
theorem visit_new (w0 : World) (g2 g5 g6 g7 bm : Nat) (A : Option Addr) (c : Nat) (ps : List S77) (hr0 : Kd.C k77 w0 A ps.length ps) (hc0 : ps.length ≤ c)
    (root i : Int) (xs : List Int) (w : World) (hv : VState w0 g2 g5 g6 g7 bm root A c ps.length w xs xs) (hyes : pgOk ps i) (hwf : (Lit.int .i64 i).wf = true) (hin : ¬ i ∈ xs) (hlen : xs.length < 17592186044415)
    (k : Nat) (ih : ∀ k', k' ≤ k → VisitSaid w0 g2 g5 g6 g7 bm root A c ps k') (r : List Int) (h : walkL k ps (rd_T77 ps i).f1.f0 (rd_T77 ps i).f1.f1 (xs ++ [i]) 0 = some r) :
    Calls Try.prog 88 #[.int .i64 i, .pointer (some ⟨g2, 0, none⟩), .pointer (some ⟨g6, 0, none⟩), .pointer (some ⟨g5, 0, none⟩), .pointer (some ⟨g7, 0, none⟩)] w (fun e w' => ∃ v, e = .returned v ∧ VState w0 g2 g5 g6 g7 bm root A c ps.length w' r r) := by
  have HR := Aside0.mk hr0
  have HC := Aside0.mk hc0
  have HV := Aside0.mk hv
  have HU := Aside0.mk ((used_f root ps i).trans (congrArg some (decide_eq_true hyes)))
  have HIN := Aside0.mk hin
  have HWF := Aside0.mk hwf
  have HLEN := Aside0.mk hlen
  have IH := Aside0.mk ih
  have H' := Aside0.mk h
  clear hr0 hc0 hv hin hwf hlen ih h
  have hu1 := Try.underlying77
  have hu2 := Try.underlying36
  have hk0 : w.cell? ⟨g2, 0, none⟩ = some (.int .i64 root) := (blk_cell HV.out.box 0).trans rfl
  have hk1 : w.cell? ⟨g2, 1, none⟩ = some (.slice A ps.length c) := (blk_cell HV.out.box 1).trans rfl
  have hu3 := Try.underlying75
  obtain ⟨h0, h1, hus⟩ := hyes
  obtain ⟨ad, A2, c2, e2, hz0, hz1, hz2, hl2, hC2⟩ := at_T77 HR.out i h0 h1
  subst e2
  have HC2 := Aside0.mk hC2
  have HL2 := Aside0.mk hl2
  have HZ1 := Aside0.mk hz1
  have HZ2 := Aside0.mk hz2
  clear hC2 hl2 hz0 hz1 hz2 hus
  obtain ⟨bl, hbl⟩ : ∃ b : Bool, b = (rd_T77 ps i).f1.f0 := ⟨_, rfl⟩
  obtain ⟨es, hes⟩ : ∃ l : List S82, l = (rd_T77 ps i).f1.f1 := ⟨_, rfl⟩
  rw [← hbl] at HZ1 H'
  rw [← hes] at HZ2 H' HC2 HL2
  clear hbl hes
  cases bl with
  | true =>
    go_enter Try.func88, Try.ntmps88
    go_wp2_with (first
      | (go_at_call 67; refine (impl_used.calls root _ c ps i _ _ (Kd.C_below HR.out HV.out.below) HC.out HU.out).mono ?_; rintro e w1 ⟨rfl, hb1⟩; have HV1 := Aside0.mk (HV.out.next hb1); clear hb1 hk0 hk1 HV; have hk6 : w1.cell? ⟨g6, 0, none⟩ = some (.map (some bm)) := (blk_cell HV1.out.met 0).trans rfl; obtain ⟨nm, Dm, hnm, him, hom, hcm⟩ := HV1.out.map; have HNM := Aside0.mk hnm; have HIM := Aside0.mk him; have HOM := Aside0.mk hom; have HCM := Aside0.mk hcm; clear hnm him hom hcm) | ((try (refine gate_guard (by rfl) ?_; dsimp only)); at_lookup; refine wpList_lookup_own_int _ rfl _ _ 105 rfl 3 3 .i64 (Go.Maps.int_keyed Try.underlying3) Try.underlying105 Try.underlying3 (zero_int _) bm nm Dm rfl HOM.out _ _ rfl (Go.Maps.keyOf_int_mk Try.underlying3 HWF.out) ?_; intro cm hat hwc; obtain rfl : cm = 0 := (look_eq (HCM.out i HWF.out) hat).trans (if_neg HIN.out); clear hat hwc)
      | (at_mapUpdate; refine wpList_mapUpdate_own _ rfl _ _ _ 105 rfl 3 3 (Go.Maps.int_keyed Try.underlying3) Try.underlying105 _ bm nm Dm rfl HOM.out (by have := HNM.out; have := HLEN.out; unfold maxLen; omega) _ _ (.int .i64 i) rfl rfl (Go.Maps.keyOf_int_mk Try.underlying3 HWF.out) (.lit (.int .i64 1)) [] (plainElem_int Try.underlying3 (by decide)) ?_; intro w2 hown2 hg2; have HV2 := Aside0.mk (HV1.out.put hg2 (MetOk.put HNM.out HIM.out hown2 HCM.out)); clear hown2 hg2 hk6; obtain ⟨Av, vv, cv, evv, h5c, hvr⟩ := HV2.out.row; subst evv; have HVR := Aside0.mk hvr; have H5C := Aside0.mk h5c; have hk5 : w2.cell? ⟨g5, 0, none⟩ = some (.slice Av xs.length cv) := (blk_cell h5c 0).trans rfl; have hf5 := blk_frozen h5c 0; clear hvr h5c)
      | ((with_reducible refine gate_builtin (b := .append) (xs := #[.tmp 20, .tmp 22]) rfl ?_); at_builtin; refine Kd.R_append (Kd.int .i64) (w0 := w0) w0.heap.size rfl (.tmp 20) (.tmp 22) 54 3 (.int .i64 0) 8 rfl Try.underlying54 hinfoInt rfl (by decide) (by omega) (.slice Av xs.length cv) xs i [.int .i64 i] (fun _ => True) (fun _ => False) rfl rfl rfl (fun _ hk => hk.elim) (fun _ _ => trivial) HVR.out HV2.out.below HV2.out.below.size (by have := HLEN.out; omega) ?_; intro v5 w5 ho5 hb5 hg5 hat5; obtain ⟨A5, c5, e5⟩ := Kd.R_slice ho5; subst e5; have HV5 := Aside0.mk (HV2.out.app H5C.out HVR.out hg5 hb5 ho5); have hk5b : w5.cell? ⟨g5, 0, none⟩ = some (.slice Av xs.length cv) := (blk_cell (blk_grown H5C.out hg5 (Kd.R_ne HVR.out H5C.out (by decide))) 0).trans rfl; have hf5b := blk_frozen (blk_grown H5C.out hg5 (Kd.R_ne HVR.out H5C.out (by decide))) 0; clear ho5 hb5 hg5 hat5 hk5 hf5 HV2 HV1)
      | ((with_reducible refine gate_store (t := 54) (p := 3) rfl ?_); refine store_event (t := 54) (p := 3) (v := ?vo8) (w1 := (w5.setCell ⟨g5, 0, none⟩ (.slice A5 (xs ++ [i]).length c5))) ?hg ?ho ?hn ?hr ?_; (case ho => rfl); (case hg => rfl); (case hn => rfl); (case hr => first | (go_simp; done) | (go_simp; rfl)); intro w6 hw; rw [← hw] at HV5; clear hw; have hx1 := (HV5.out.below.cell (World.block_lt_of_cell? w0 _ HZ1.out)).trans HZ1.out; have hx2 := (HV5.out.below.cell (World.block_lt_of_cell? w0 _ HZ2.out)).trans HZ2.out; have hk1 : w6.cell? ⟨g2, 1, none⟩ = some (.slice (some ad) ps.length c) := (blk_cell HV5.out.box 1).trans rfl))
    go_end0
    obtain rfl := walkL_leaf H'.out
    exact ⟨_, rfl, HV5.out⟩
  | false =>
    go_enter Try.func88, Try.ntmps88
    go_wp2_with (first
      | (go_at_call 67; refine (impl_used.calls root _ c ps i _ _ (Kd.C_below HR.out HV.out.below) HC.out HU.out).mono ?_; rintro e w1 ⟨rfl, hb1⟩; have HV1 := Aside0.mk (HV.out.next hb1); clear hb1 hk0 hk1 HV; have hk6 : w1.cell? ⟨g6, 0, none⟩ = some (.map (some bm)) := (blk_cell HV1.out.met 0).trans rfl; obtain ⟨nm, Dm, hnm, him, hom, hcm⟩ := HV1.out.map; have HNM := Aside0.mk hnm; have HIM := Aside0.mk him; have HOM := Aside0.mk hom; have HCM := Aside0.mk hcm; clear hnm him hom hcm) | ((try (refine gate_guard (by rfl) ?_; dsimp only)); at_lookup; refine wpList_lookup_own_int _ rfl _ _ 105 rfl 3 3 .i64 (Go.Maps.int_keyed Try.underlying3) Try.underlying105 Try.underlying3 (zero_int _) bm nm Dm rfl HOM.out _ _ rfl (Go.Maps.keyOf_int_mk Try.underlying3 HWF.out) ?_; intro cm hat hwc; obtain rfl : cm = 0 := (look_eq (HCM.out i HWF.out) hat).trans (if_neg HIN.out); clear hat hwc)
      | (at_mapUpdate; refine wpList_mapUpdate_own _ rfl _ _ _ 105 rfl 3 3 (Go.Maps.int_keyed Try.underlying3) Try.underlying105 _ bm nm Dm rfl HOM.out (by have := HNM.out; have := HLEN.out; unfold maxLen; omega) _ _ (.int .i64 i) rfl rfl (Go.Maps.keyOf_int_mk Try.underlying3 HWF.out) (.lit (.int .i64 1)) [] (plainElem_int Try.underlying3 (by decide)) ?_; intro w2 hown2 hg2; have HV2 := Aside0.mk (HV1.out.put hg2 (MetOk.put HNM.out HIM.out hown2 HCM.out)); clear hown2 hg2 hk6; obtain ⟨Av, vv, cv, evv, h5c, hvr⟩ := HV2.out.row; subst evv; have HVR := Aside0.mk hvr; have H5C := Aside0.mk h5c; have hk5 : w2.cell? ⟨g5, 0, none⟩ = some (.slice Av xs.length cv) := (blk_cell h5c 0).trans rfl; have hf5 := blk_frozen h5c 0; clear hvr h5c)
      | ((with_reducible refine gate_builtin (b := .append) (xs := #[.tmp 20, .tmp 22]) rfl ?_); at_builtin; refine Kd.R_append (Kd.int .i64) (w0 := w0) w0.heap.size rfl (.tmp 20) (.tmp 22) 54 3 (.int .i64 0) 8 rfl Try.underlying54 hinfoInt rfl (by decide) (by omega) (.slice Av xs.length cv) xs i [.int .i64 i] (fun _ => True) (fun _ => False) rfl rfl rfl (fun _ hk => hk.elim) (fun _ _ => trivial) HVR.out HV2.out.below HV2.out.below.size (by have := HLEN.out; omega) ?_; intro v5 w5 ho5 hb5 hg5 hat5; obtain ⟨A5, c5, e5⟩ := Kd.R_slice ho5; subst e5; have HV5 := Aside0.mk (HV2.out.app H5C.out HVR.out hg5 hb5 ho5); have hk5b : w5.cell? ⟨g5, 0, none⟩ = some (.slice Av xs.length cv) := (blk_cell (blk_grown H5C.out hg5 (Kd.R_ne HVR.out H5C.out (by decide))) 0).trans rfl; have hf5b := blk_frozen (blk_grown H5C.out hg5 (Kd.R_ne HVR.out H5C.out (by decide))) 0; clear ho5 hb5 hg5 hat5 hk5 hf5 HV2 HV1)
      | ((with_reducible refine gate_store (t := 54) (p := 3) rfl ?_); refine store_event (t := 54) (p := 3) (v := ?vo8) (w1 := (w5.setCell ⟨g5, 0, none⟩ (.slice A5 (xs ++ [i]).length c5))) ?hg ?ho ?hn ?hr ?_; (case ho => rfl); (case hg => rfl); (case hn => rfl); (case hr => first | (go_simp; done) | (go_simp; rfl)); intro w6 hw; rw [← hw] at HV5; clear hw; have hx1 := (HV5.out.below.cell (World.block_lt_of_cell? w0 _ HZ1.out)).trans HZ1.out; have hx2 := (HV5.out.below.cell (World.block_lt_of_cell? w0 _ HZ2.out)).trans HZ2.out; have hk1 : w6.cell? ⟨g2, 1, none⟩ = some (.slice (some ad) ps.length c) := (blk_cell HV5.out.box 1).trans rfl))
    go_loopg [40] k (fun kq v40 w' => ∃ (o : List Int) (x : Int), v40 = .int .i64 x ∧ Aside0 (walkL kq ps false es o x = some r) ∧ Aside0 (kq ≤ k) ∧ Aside0 (VState w0 g2 g5 g6 g7 bm root (some ad) c ps.length w' o o))
    case atStart => exact ⟨xs ++ [i], 0, rfl, H', ⟨Nat.le_refl _⟩, HV5⟩
    case round =>
      clear H' HV5 hx1 hx2 hk1
      obtain ⟨o, x, rfl, HA, HK1, HV⟩ := hrel
      cases gk with
      | zero => exact absurd HA.out (by simp [walkL])
      | succ k1 =>
        have H := HA.out
        clear HA
        rw [walkL] at H
        by_cases c1 : x < (es.length : Int)
        · rw [if_pos c1, if_neg (by decide)] at H
          have c1b : decide (x < (es.length : Int)) = true := decide_eq_true c1
          by_cases c2b : 0 ≤ x
          · rw [if_pos c2b] at H
            obtain ⟨o2, h2, H⟩ := Option.bind_eq_some_iff.mp H
            have H2 := Aside0.mk h2
            have H' := Aside0.mk H
            clear H h2
            obtain ⟨ad2, e2, hy0, hy1, hy2, hy3, hy4⟩ := at_T82 HC2.out x c2b c1
            subst e2
            replace hy0 := (HV.out.below.cell (World.block_lt_of_cell? w0 _ hy0)).trans hy0
            replace hy1 := (HV.out.below.cell (World.block_lt_of_cell? w0 _ hy1)).trans hy1
            replace hy2 := (HV.out.below.cell (World.block_lt_of_cell? w0 _ hy2)).trans hy2
            replace hy3 := (HV.out.below.cell (World.block_lt_of_cell? w0 _ hy3)).trans hy3
            replace hy4 := (HV.out.below.cell (World.block_lt_of_cell? w0 _ hy4)).trans hy4
            go_wp2_with (first
              | ((with_reducible refine gate_dst (N := 7) rfl ?_); refine box_event ?hg (N := 7) ?hd (cs := #[.int .i64 0, .int .i64 0, .int .i64 0, .int .i64 0, .int .i64 0]) (t := 82) ?hr ?_; (case hd => rfl); (case hg => rfl); (case hr => first | (go_simp; done) | (go_simp; rfl)); intro gv hg w7 hbox hb7; have hs0 : w7.cell? ⟨gv, 0, none⟩ = some (.int .i64 0) := (blk_cell hbox 0).trans rfl; have hs1 : w7.cell? ⟨gv, 1, none⟩ = some (.int .i64 0) := (blk_cell hbox 1).trans rfl; have hs2 : w7.cell? ⟨gv, 2, none⟩ = some (.int .i64 0) := (blk_cell hbox 2).trans rfl; have hs3 : w7.cell? ⟨gv, 3, none⟩ = some (.int .i64 0) := (blk_cell hbox 3).trans rfl; have hs4 : w7.cell? ⟨gv, 4, none⟩ = some (.int .i64 0) := (blk_cell hbox 4).trans rfl; have hf0 := blk_frozen hbox 0; have hf1 := blk_frozen hbox 1; have hf2 := blk_frozen hbox 2; have hf3 := blk_frozen hbox 3; have hf4 := blk_frozen hbox 4; have HW7 := Aside0.mk hb7; have BK7 := Aside0.mk hbox; have GW7 := Aside0.mk hg; clear hb7 hg hbox)
              | ((with_reducible refine gate_store (t := 82) (p := 7) rfl ?_); refine store_event (t := 82) (p := 7) (v := ?vo9) (w1 := (((((w7.setCell ⟨gv, 0, none⟩ (.int .i64 (rd_T82 es x).f0)).setCell ⟨gv, 1, none⟩ (.int .i64 (rd_T82 es x).f1.f0)).setCell ⟨gv, 2, none⟩ (.int .i64 (rd_T82 es x).f1.f1)).setCell ⟨gv, 3, none⟩ (.int .i64 (rd_T82 es x).f1.f2)).setCell ⟨gv, 4, none⟩ (.int .i64 (rd_T82 es x).f1.f3))) ?hg ?ho ?hn ?hr ?_; (case ho => rfl); (case hg => rfl); (case hn => rfl); (case hr => exact store5_run _ _ 7 43 rfl gv w7 _ _ _ _ _ rfl rfl BK7.out); intro w8 hw; have hb8 := set5_below HW7.out GW7.out (.int .i64 (rd_T82 es x).f0) (.int .i64 (rd_T82 es x).f1.f0) (.int .i64 (rd_T82 es x).f1.f1) (.int .i64 (rd_T82 es x).f1.f2) (.int .i64 (rd_T82 es x).f1.f3); rw [← hw] at hb8; have HV8 := Aside0.mk (HV.out.next hb8); have hk7 : w8.cell? ⟨gv, 0, none⟩ = some (.int .i64 (rd_T82 es x).f0) := (by rw [hw]; exact set5_cell BK7.out _ _ _ _ _); have hk4 := HV8.out.fncell; clear hw hb8 hs0 hs1 hs2 hs3 hs4 hf0 hf1 hf2 hf3 hf4 HW7 BK7 GW7)
              | (go_at_call 88; refine (IH.out k1 (by have := HK1.out; omega) _ o o2 _ HV8.out H2.out).mono ?_; rintro e w9 ⟨v9, rfl, hv9⟩; clear hk7 hk4))
            go_roundg k1
            case measure => have := HK1.out; omega
            case rel => exact ⟨o2, wrap64 (x + 1), rfl, H', ⟨by have := HK1.out; omega⟩, ⟨hv9⟩⟩
          · rw [if_neg c2b] at H
            exact absurd H (by simp)
        · rw [if_neg c1] at H
          have c1b : decide (x < (es.length : Int)) = false := decide_eq_false c1
          obtain rfl := Option.some.inj H
          go_wp2
          go_end0
          exact ⟨⟨_, rfl⟩, HV.out⟩

theorem visit_all (w0 : World) (g2 g5 g6 g7 bm : Nat) (root : Int) (A : Option Addr) (c : Nat) (ps : List S77) (hr0 : Kd.C k77 w0 A ps.length ps) (hc0 : ps.length ≤ c) : ∀ k k', k' ≤ k → VisitSaid w0 g2 g5 g6 g7 bm root A c ps k'
  | 0, k', hk => by
    obtain rfl : k' = 0 := by omega
    intro i xs r w _ h
    simp [walkM] at h
  | k + 1, k', hk => by
    rcases Nat.lt_or_ge k' (k + 1) with hlt | hge
    · exact visit_all w0 g2 g5 g6 g7 bm root A c ps hr0 hc0 k k' (by omega)
    obtain rfl : k' = k + 1 := by omega
    intro i xs r w hv h
    rw [walkM] at h
    have hmax : ps.length ≤ 9223372036854775807 := hr0.2.1
    by_cases h1 : pgOk ps i
    · rw [if_pos h1] at h
      have hwf : (Lit.int .i64 i).wf = true := by
        have h2 := h1.1
        have h3 := h1.2.1
        unfold Lit.wf
        rw [Bool.and_eq_true, decide_eq_true_eq, decide_eq_true_eq]
        have e1 : IntKind.i64.min = -9223372036854775808 := by decide
        have e2 : IntKind.i64.max = 9223372036854775807 := by decide
        rw [e1, e2]
        omega
      by_cases h3 : xs.length < 17592186044415
      · rw [if_pos h3] at h
        by_cases h2 : i ∈ xs
        · rw [if_pos h2] at h
          obtain rfl := Option.some.inj h
          exact visit_met w0 g2 g5 g6 g7 bm A c ps hr0 hc0 root i xs w hv h1 hwf h2
        · rw [if_neg h2] at h
          exact visit_new w0 g2 g5 g6 g7 bm A c ps hr0 hc0 root i xs w hv h1 hwf h2 h3 k (fun k' hk' => visit_all w0 g2 g5 g6 g7 bm root A c ps hr0 hc0 k k' hk') r h
      · rw [if_neg h3] at h
        exact absurd h (by simp)
    · rw [if_neg h1] at h
      obtain rfl := Option.some.inj h
      exact visit_out w0 g2 g5 g6 g7 bm A c ps hr0 hc0 root i xs w hv h1

theorem MetOk.below {w w' : World} {b : Nat} {out : List Int} (h : MetOk w b out) (hb : Below w.heap.size w w') : MetOk w' b out := by
  obtain ⟨es, clock, hm⟩ := h.isMap
  exact h.step ((blk_below hm hb).trans hm.symm)
theorem blkFarH {w : World} {g g' : Nat} {o : Obj} (h : w.heap[g]? = some o) (hne : g ≠ g') (v : Value) : (w.setCell ⟨g', 0, none⟩ v).heap[g]? = some o := (Below.heap_setCell w _ v _ hne).trans h
theorem MetOk.far {w : World} {b g : Nat} {out : List Int} {cs : Array Value} {t : TypeId} {fr : Nat × Nat} (h : MetOk w b out) (hc : w.heap[g]? = some (.cells cs t fr)) (v : Value) : MetOk (w.setCell ⟨g, 0, none⟩ v) b out := by
  obtain ⟨es, clock, hm⟩ := h.isMap
  exact h.step (Below.heap_setCell w _ v _ (fun e => cells_ne_map hc hm (by rw [e])))
theorem func_store (o : Oper) (a : Act) (p v : Tmp) (hop : o.op = .store 106 (.tmp p) (.tmp v)) (g : Nat) (w : World) (f : FuncId) (fs : Array Value) (hp : a.eval (.tmp p) = .pointer (some ⟨g, 0, none⟩)) (hv : a.eval (.tmp v) = .func (.func f) #[] fs)
    (hbox : w.heap[g]? = some (.cells #[.nilFunc] 106 (0, 0))) : (execOp a.eval o).run Try.prog w = .ok .skip (w.setCell ⟨g, 0, none⟩ (.func (.func f) #[] fs)) := by
  have hs : w.cell? ⟨g, 0, none⟩ = some .nilFunc := (blk_cell hbox 0).trans rfl
  have hf := blk_frozen hbox 0
  have hu := Try.underlying106
  unfold execOp
  rw [hop]
  simp only [hp, hv]
  have hone : (Value.func (.func f) #[] fs).oneCell' = true := rfl
  clear hop hp hv hbox
  first | (go_simp; done) | (go_simp; rfl) | (go_simp; rw [run_store _ _ _ _ _ hone]; simp [hs, hf]; done)
theorem map_event {ops : Array Oper} {rest : List Oper} {o : Oper} {a : Act} {Q : Exit → Act → World → Prop} {W : World} (hgd : o.guard = none) {N : Tmp} (hd : o.dst = some N) (hop : o.op = .makeMap 105 none)
    (h : ∀ g, g = W.heap.size → ∀ w1, MetOk w1 g [] → Below W.heap.size W w1 → wpList Try.prog ops Q rest (a.put o.dst (.map (some g))) w1) : wpList Try.prog ops Q (o :: rest) a W := by
  refine Kd.event_run (v := .map (some W.heap.size)) (w1 := W.alloc (.map #[] 0)) hgd ?_ (h _ rfl _ (MetOk.made W) (below_alloc (Below.refl _ _) _))
  unfold execOp
  rw [hop]
  simp [run_makeMap, Result.andThen]
theorem start_state {w w9 w10 : World} {g2 g5 g6 g7 bm : Nat} {root : Int} {A : Option Addr} {c n : Nat} (hb : Below w.heap.size w w9) (h2 : w9.heap[g2]? = some (.cells #[.int .i64 root, .slice A n c] 36 (0, 0))) (h6 : w9.heap[g6]? = some (.cells #[.map (some bm)] 105 (0, 0))) (h5 : w9.heap[g5]? = some (.cells #[.slice none 0 0] 54 (0, 0))) (h7 : w9.heap[g7]? = some (.cells #[.nilFunc] 106 (0, 0))) (hm : MetOk w9 bm []) (ge5 : w.heap.size ≤ g5) (gem : w.heap.size ≤ bm) (ge7 : w.heap.size ≤ g7) (hw : w10 = w9.setCell ⟨g7, 0, none⟩ (.func (.func 88) #[] #[.pointer (some ⟨g2, 0, none⟩), .pointer (some ⟨g6, 0, none⟩), .pointer (some ⟨g5, 0, none⟩), .pointer (some ⟨g7, 0, none⟩)])) : VState w g2 g5 g6 g7 bm root A c n w10 [] [] := by
  subst hw
  exact ⟨below_set hb ge7, blkFarH h2 (blkNe h2 h7 (by decide)) _, blkFarH h6 (blkNe h6 h7 (by decide)) _, ⟨none, _, 0, rfl, blkFarH h5 (blkNe h5 h7 (by decide)) _, Kd.R_nil _ _ _ _ _⟩, blk_put h7 0 _ rfl, hm.far h7 _, ge5, gem⟩

/-- The program's walk. -/
def impl_reachFrom.f (k : Nat) (a0_0 : Int) (l0_1 : List S77) (a1 : Int) : Option (List Int) := walkM k l0_1 a1 []
theorem impl_reachFrom.mono : ∀ a0 a1 a2 k, LeO (impl_reachFrom.f k a0 a1 a2) (impl_reachFrom.f (k + 1) a0 a1 a2) := fun a0 a1 a2 k => (walk_mono k).1 _ _ _
set_option maxHeartbeats 8000000 in
set_option maxRecDepth 100000 in
theorem impl_reachFrom.calls (k : Nat) (a0_0 : Int) (A0_1 : Option Addr) (c0_1 : Nat) (l0_1 : List S77) (a1 : Int) (r : List Int) (w : World) (hr0_1 : Kd.C k77 w A0_1 l0_1.length l0_1) (hc0_1 : l0_1.length ≤ c0_1) (h : impl_reachFrom.f k a0_0 l0_1 a1 = some r) :
    Calls Try.prog 75 #[.agg #[.int .i64 a0_0, .slice A0_1 l0_1.length c0_1], .int .i64 a1] w fun e w' => ∃ v0_ : Value, e = .returned (v0_) ∧ Kd.R (Kd.int .i64) 3 w' w.heap.size (fun _ => True) v0_ r ∧ Below w.heap.size w w' := by
  have HS := Aside0.mk (fun g2 g5 g6 g7 bm => visit_all w g2 g5 g6 g7 bm a0_0 A0_1 c0_1 l0_1 hr0_1 hc0_1 k k (Nat.le_refl _))
  have H' := Aside0.mk h
  clear hr0_1 hc0_1 h
  have hu2 := Try.underlying36
  go_enter Try.func75, Try.ntmps75
  go_wp2_with (first
    | ((with_reducible refine gate_dst (N := 2) rfl ?_); refine box_event ?hg (N := 2) ?hd (cs := #[.int .i64 a0_0, .slice A0_1 l0_1.length c0_1]) (t := 36) ?hr ?_; (case hd => rfl); (case hg => rfl); (case hr => first | (go_simp; done) | (go_simp; rfl)); intro g2 hg w2 hbox hb; have B2 := Aside0.mk hb; have BK2 := Aside0.mk hbox; clear hb hg hbox)
    | ((with_reducible refine gate_dst (N := 5) rfl ?_); refine box_event ?hg (N := 5) ?hd (cs := #[.slice none 0 0]) (t := 54) ?hr ?_; (case hd => rfl); (case hg => rfl); (case hr => first | (go_simp; done) | (go_simp; rfl)); intro g5 hg w5 hbox hb; have B5 := Aside0.mk (below_step B2.out hb); have BK2 := Aside0.mk (blk_below BK2.out hb); have BK5 := Aside0.mk hbox; have GE5 := Aside0.mk (by rw [hg]; exact B2.out.size : w.heap.size ≤ g5); clear hb hg hbox)
    | ((with_reducible refine gate_dst (N := 8) rfl ?_); refine map_event rfl (N := 8) rfl rfl ?_; intro bm hg w8 hmet hb; have B8 := Aside0.mk (below_step B5.out hb); have BK2 := Aside0.mk (blk_below BK2.out hb); have BK5 := Aside0.mk (blk_below BK5.out hb); have GE8 := Aside0.mk (by rw [hg]; exact B5.out.size : w.heap.size ≤ bm); have MET := Aside0.mk hmet; clear hb hg hmet)
    | ((with_reducible refine gate_dst (N := 6) rfl ?_); refine box_event ?hg (N := 6) ?hd (cs := #[.map none]) (t := 105) ?hr ?_; (case hd => rfl); (case hg => rfl); (case hr => first | (go_simp; done) | (go_simp; rfl)); intro g6 hg w6 hbox hb; have B6 := Aside0.mk (below_step B8.out hb); have BK2 := Aside0.mk (blk_below BK2.out hb); have BK5 := Aside0.mk (blk_below BK5.out hb); have MET := Aside0.mk (MET.out.below hb); have BK6 := Aside0.mk hbox; have GE6 := Aside0.mk (by rw [hg]; exact B8.out.size : w.heap.size ≤ g6); have hs6 : w6.cell? ⟨g6, 0, none⟩ = some (.map none) := (blk_cell hbox 0).trans rfl; have hf6 := blk_frozen hbox 0; clear hb hg hbox)
    | ((with_reducible refine gate_store (t := 105) (p := 6) rfl ?_); refine store_event (t := 105) (p := 6) (v := ?vo1) (w1 := (w6.setCell ⟨g6, 0, none⟩ (.map (some bm)))) ?hg ?ho ?hn ?hr ?_; (case ho => rfl); (case hg => rfl); (case hn => rfl); (case hr => first | (go_simp; done) | (go_simp; rfl)); intro w7 hw; have BK2 := Aside0.mk (hw ▸ blkFarH BK2.out (blkNe BK2.out BK6.out (by decide)) (.map (some bm))); have BK5 := Aside0.mk (hw ▸ blkFarH BK5.out (blkNe BK5.out BK6.out (by decide)) (.map (some bm))); have MET := Aside0.mk (hw ▸ MET.out.far BK6.out (.map (some bm))); have B7 := Aside0.mk (hw ▸ below_set B6.out GE6.out : Below w.heap.size w w7); have BK6 := Aside0.mk (hw ▸ blk_put (cs' := #[.map (some bm)]) BK6.out 0 (.map (some bm)) rfl : w7.heap[g6]? = some (.cells #[.map (some bm)] 105 (0, 0))); clear hw hs6 hf6)
    | ((with_reducible refine gate_dst (N := 7) rfl ?_); refine box_event ?hg (N := 7) ?hd (cs := #[.nilFunc]) (t := 106) ?hr ?_; (case hd => rfl); (case hg => rfl); (case hr => first | (go_simp; done) | (go_simp; rfl)); intro g7 hg w9 hbox hb; have B9 := Aside0.mk (below_step B7.out hb); have BK2 := Aside0.mk (blk_below BK2.out hb); have BK5 := Aside0.mk (blk_below BK5.out hb); have BK6 := Aside0.mk (blk_below BK6.out hb); have MET := Aside0.mk (MET.out.below hb); have BK7 := Aside0.mk hbox; have GE7 := Aside0.mk (by rw [hg]; exact B7.out.size : w.heap.size ≤ g7); have hs7 : w9.cell? ⟨g7, 0, none⟩ = some .nilFunc := (blk_cell hbox 0).trans rfl; have hf7 := blk_frozen hbox 0; clear hb hg hbox)
    | ((with_reducible refine gate_store (t := 106) (p := 7) rfl ?_); refine store_event (t := 106) (p := 7) (v := ?vo2) (w1 := (w9.setCell ⟨g7, 0, none⟩ (.func (.func 88) #[] #[.pointer (some ⟨g2, 0, none⟩), .pointer (some ⟨g6, 0, none⟩), .pointer (some ⟨g5, 0, none⟩), .pointer (some ⟨g7, 0, none⟩)]))) ?hg ?ho ?hn ?hr ?_; (case ho => rfl); (case hg => rfl); (case hn => rfl); (case hr => exact func_store _ _ 7 9 rfl g7 w9 _ _ rfl rfl BK7.out); intro w10 hw; have HV := Aside0.mk (start_state B9.out BK2.out BK6.out BK5.out BK7.out MET.out GE5.out GE8.out GE7.out hw); have hk7 : w10.cell? ⟨g7, 0, none⟩ = some (.func (.func 88) #[] #[.pointer (some ⟨g2, 0, none⟩), .pointer (some ⟨g6, 0, none⟩), .pointer (some ⟨g5, 0, none⟩), .pointer (some ⟨g7, 0, none⟩)]) := HV.out.fncell; clear hw hs7 hf7)
    | (go_at_call 88; refine (HS.out g2 g5 g6 g7 bm a1 [] r _ HV.out H'.out).mono ?_; rintro e w11 ⟨v11, rfl, hv⟩; obtain ⟨Av, vv, cv, evv, h5c, hvr⟩ := hv.row; subst evv; have HVR := Aside0.mk hvr; have HBB := Aside0.mk hv.below; have hk5 : w11.cell? ⟨g5, 0, none⟩ = some (.slice Av r.length cv) := (blk_cell h5c 0).trans rfl; clear hv hvr h5c))
  go_ret
  exact ⟨_, rfl, HVR.out, HBB.out⟩

end Go.Proofs.Ythenmlaleobapaa.All

namespace Go.Proofs.Ythenmlaleobapaa.All
open Go.RowKit Go.Proofs.YthenmlaleobapaaW.PrintWords Go.Proofs.YthenmlaleobapaaW.PrintLast Go.Proofs.YthenmlaleobapaaW.PrintMore
attribute [local go_sem] max2_int min2_int max_two min_two max_three min_three max_four min_four   -- for this text's walks alone
set_option linter.unusedVariables false
set_option linter.unusedSimpArgs false

/-! ### impl_ItemsOf: function 91 -/
def impl_ItemsOf.l0 : Nat → List (S68) → List (S82) → Int → Int → Option ((List (S68)))
  | 0, _, _, _, _ => none
  | k + 1, x3, x9, x10, x11 => if x11 < x10 then (if 0 ≤ x11 then (if x11 < (x9.length : Int) then (if x3.length < 3518437208883 then (impl_ItemsOf.l0 k (x3 ++ [(⟨(rd_T82 x9 x11).f0, (⟨(rd_T82 x9 x11).f1.f0, (rd_T82 x9 x11).f1.f1, (rd_T82 x9 x11).f1.f2, (rd_T82 x9 x11).f1.f3⟩ : S60)⟩ : S68)]) x9 x10 (wrap64 (x11 + 1))) else (none)) else (none)) else (none)) else (some x3)
def impl_ItemsOf.f (k : Nat) (a0_0 : Bool) (l0_1 : List (S82)) : Option ((List (S68))) := if a0_0 = true then (impl_ItemsOf.l0 k ([] : List (S68)) l0_1 (l0_1.length : Int) 0) else (some ([] : List (S68)))
theorem impl_ItemsOf.mono_l : ∀ k, (∀ y0 y1 y2 y3, LeO (impl_ItemsOf.l0 k y0 y1 y2 y3) (impl_ItemsOf.l0 (k + 1) y0 y1 y2 y3))
  | 0 => fun _ _ _ _ r h => by simp [impl_ItemsOf.l0] at h
  | k + 1 => by
    have ih0 := impl_ItemsOf.mono_l k
    · intro y0 y1 y2 y3
      unfold impl_ItemsOf.l0
      repeat' first
      | (with_reducible exact ih0 _ _ _ _)
      | (with_reducible exact LeO.refl _)
      | (with_reducible exact LeO.none _)
      | (with_reducible refine LeO.ite ?_ ?_)
      | (with_reducible refine LeO.bind ?_ (fun _ => ?_))
      | exact ih0 _ _ _ _
      | exact LeO.none _
      | refine LeO.ite ?_ ?_
      | refine LeO.bind ?_ (fun _ => ?_)
theorem impl_ItemsOf.mono : ∀ a0 a1 k, LeO (impl_ItemsOf.f k a0 a1) (impl_ItemsOf.f (k + 1) a0 a1) := by
  intro a0 a1 k
  have ih0 := impl_ItemsOf.mono_l k
  unfold impl_ItemsOf.f
  repeat' first
      | (with_reducible exact ih0 _ _ _ _)
      | (with_reducible exact LeO.refl _)
      | (with_reducible exact LeO.none _)
      | (with_reducible refine LeO.ite ?_ ?_)
      | (with_reducible refine LeO.bind ?_ (fun _ => ?_))
      | exact ih0 _ _ _ _
      | exact LeO.none _
      | refine LeO.ite ?_ ?_
      | refine LeO.bind ?_ (fun _ => ?_)
set_option maxHeartbeats 8000000 in
set_option maxRecDepth 100000 in
theorem impl_ItemsOf.calls (k : Nat) (a0_0 : Bool) (A0_1 : Option Addr) (c0_1 : Nat) (l0_1 : List (S82)) (r : List (S68)) (w : World) (hr0_1 : Kd.C k82 w A0_1 l0_1.length l0_1) (hc0_1 : l0_1.length ≤ c0_1) (h : impl_ItemsOf.f k a0_0 l0_1 = some r) :
    Calls Try.prog 91 #[.agg #[.bool a0_0, .slice A0_1 l0_1.length c0_1]] w fun e w' => ∃ v0_ : Value, e = .returned (v0_) ∧ Kd.R k68 68 w' w.heap.size (fun _ => True) v0_ r ∧ Below w.heap.size w w' := by
  have hu75 := Try.underlying75
  have hu82 := Try.underlying82
  have hu60 := Try.underlying60
  have hu68 := Try.underlying68
  have HR0_1 := Aside0.mk hr0_1
  have HC0_1 := Aside0.mk hc0_1
  clear hr0_1 hc0_1
  have HB := Aside0.mk (Below.refl w.heap.size w)
  have H : (if a0_0 = true then (impl_ItemsOf.l0 k ([] : List (S68)) l0_1 (l0_1.length : Int) 0) else (some ([] : List (S68)))) = some r := h
  clear h
  by_cases c2 : a0_0 = true
  · subst c2
    have H1 : (impl_ItemsOf.l0 k ([] : List (S68)) l0_1 (l0_1.length : Int) 0) = some r := by rw [if_pos rfl] at H; exact H
    clear H
    have H := H1
    clear H1
    have H' := Aside0.mk H
    clear H
    go_enter Try.func91, Try.ntmps91
    go_wp2_with (first | ((with_reducible refine gate_dst (N := 1) rfl ?_); refine box_event ?hg (N := 1) ?hd (cs := #[.bool true, .slice A0_1 l0_1.length c0_1]) (t := 75) ?hr ?_; (case hd => rfl); (case hg => rfl); (case hr => first | (go_simp; done) | (go_simp; rfl)); intro gb464 hg w3 hbox hb; have n0_ := Aside0.mk (below_step (by repeat (first | (with_reducible first | exact HB.out | apply below_alloc | apply pw_below_drewN | apply below_drew1) | exact HB.out)) hb); have n1_ := Aside0.mk (hbox); have n2_ := Aside0.mk ((by rw [hg]; exact (below_size (by repeat (first | (with_reducible first | exact HB.out | apply below_alloc | apply pw_below_drewN | apply below_drew1) | exact HB.out))) : w.heap.size ≤ gb464)); have n3_ := Aside0.mk ((by rw [hg]; exact (below_size (by repeat (first | (with_reducible first | exact HB.out | apply below_alloc | apply pw_below_drewN | apply below_drew1) | exact HB.out))) : w.heap.size ≤ gb464)); clear HB; have HB := n0_; have BK464 := n1_; have GW464 := n2_; have GE464 := n3_; clear n0_ n1_ n2_ n3_; clear hb hbox hg; have hcz4_0 : w3.cell? ⟨gb464, 0, none⟩ = some (.bool true) := (blk_cell BK464.out 0).trans rfl; have hcz4_1 : w3.cell? ⟨gb464, 1, none⟩ = some (.slice A0_1 l0_1.length c0_1) := (blk_cell BK464.out 1).trans rfl; have hfz4_0 := blk_frozen BK464.out 0; have hfz4_1 := blk_frozen BK464.out 1))
    go_loopg [3, 11] k (fun kq v3 v11 w' => ∃ (x3_1 : List (S68)) (x11_1 : Int), v11 = .int .i64 x11_1 ∧ Aside0 (impl_ItemsOf.l0 kq x3_1 l0_1 (l0_1.length : Int) x11_1 = some r) ∧ Aside0 (kq ≤ k) ∧ Aside0 (Kd.R k68 68 w' w.heap.size (fun _ => True) v3 x3_1) ∧ Aside0 (w'.heap[gb464]? = some (.cells #[.bool true, (.slice A0_1 l0_1.length c0_1)] 75 (0, 0))) ∧ Aside0 (Below w.heap.size w w'))
    case atStart => exact ⟨(([] : List (S68))), (0), (by first | rfl | (simp; done) | (simp [*]; done)), H', ⟨Nat.le_refl _⟩, ⟨by first | exact Kd.R_nil _ _ _ _ _ | exact Kd.N_nil _ _ _ _ _ | exact Kd.V_nil _ _ _ _ _ | exact Kd.Q_nil _ _ _ _ _ | exact Kd.S_nil _ _ _ _ _⟩, ⟨by (with_reducible repeat (first | refine blk_drewN ?_ _ | refine blk_drew ?_ | refine blk_alloc ?_ _)); exact BK464.out⟩, ⟨by repeat (first | (with_reducible first | exact HB.out | apply below_alloc | apply pw_below_drewN | apply below_drew1 | refine below_set ?_ GE464.out) | exact HB.out)⟩⟩
    case round =>
      clear H'
      try clear c2
      try clear p2
      try clear hcz4_0
      try clear hcz4_1
      try clear hfz4_0
      try clear hfz4_1
      obtain ⟨x3_1, x11_1, rfl, HA, HK1, HO_3, BK464, HB⟩ := hrel
      cases gk with
      | zero => exact absurd HA.out (by simp [impl_ItemsOf.l0])
      | succ k1 =>
        have H := HA.out
        clear HA
        simp only [impl_ItemsOf.l0] at H
        by_cases c5 : x11_1 < (l0_1.length : Int)
        · rw [if_pos c5] at H
          have c5b0 : decide (x11_1 < (l0_1.length : Int)) = true := decide_eq_true c5
          clear c5
          by_cases c6 : 0 ≤ x11_1
          · rw [if_pos c6] at H
            have c6b0 : decide (0 ≤ x11_1) = true := decide_eq_true c6
            clear c6
            by_cases c7 : x11_1 < (l0_1.length : Int)
            · rw [if_pos c7] at H
              have c7b0 : decide (x11_1 < (l0_1.length : Int)) = true := decide_eq_true c7
              clear c7
              by_cases c8 : x3_1.length < 3518437208883
              · rw [if_pos c8] at H
                have LMc8 := Aside0.mk c8
                clear c8
                obtain ⟨y467, hy467⟩ : ∃ y_ : List (S68), y_ = (x3_1 ++ [(⟨(rd_T82 l0_1 x11_1).f0, (⟨(rd_T82 l0_1 x11_1).f1.f0, (rd_T82 l0_1 x11_1).f1.f1, (rd_T82 l0_1 x11_1).f1.f2, (rd_T82 l0_1 x11_1).f1.f3⟩ : S60)⟩ : S68)]) := ⟨_, rfl⟩
                replace H : (impl_ItemsOf.l0 k1 y467 l0_1 (l0_1.length : Int) (wrap64 (x11_1 + 1))) = some r := by first | (rw [hy467]; with_reducible exact H) | (have H2_ := (Option.bind_some _ _).symm.trans H; rw [hy467]; with_reducible exact H2_) | (have H2_ := (Option.bind_some _ _).symm.trans H; with_reducible exact H2_) | with_reducible exact H | (rw [hy467]; exact H) | exact H
                have Ny467 := Aside0.mk hy467
                clear hy467
                have H' := Aside0.mk H
                clear H
                have p465 : 0 ≤ (x11_1 : Int) := of_decide_eq_true (by first | (with_reducible assumption) | assumption)
                have q465 : x11_1 < (l0_1.length : Int) := of_decide_eq_true (by first | (with_reducible assumption) | assumption)
                obtain ⟨ad465, e465, hx465_0, hx465_1, hx465_2, hx465_3, hx465_4⟩ := at_T82 HR0_1.out x11_1 p465 q465
                cases e465
                replace hx465_0 := (HB.out.cell (World.block_lt_of_cell? w _ hx465_0)).trans hx465_0
                replace hx465_1 := (HB.out.cell (World.block_lt_of_cell? w _ hx465_1)).trans hx465_1
                replace hx465_2 := (HB.out.cell (World.block_lt_of_cell? w _ hx465_2)).trans hx465_2
                replace hx465_3 := (HB.out.cell (World.block_lt_of_cell? w _ hx465_3)).trans hx465_3
                replace hx465_4 := (HB.out.cell (World.block_lt_of_cell? w _ hx465_4)).trans hx465_4
                replace p465 := eq_true p465
                replace q465 := eq_true q465
                go_wp2_with (first | ((with_reducible refine gate_dst (N := 5) rfl ?_); refine box_event ?hg (N := 5) ?hd (cs := #[.int .i64 0, .int .i64 0, .int .i64 0, .int .i64 0, .int .i64 0]) (t := 82) ?hr ?_; (case hd => rfl); (case hg => rfl); (case hr => first | (go_simp; done) | (go_simp; rfl)); intro gb466 hg w9 hbox hb; have n0_ := Aside0.mk (Kd.R_below (by (with_reducible repeat (first | apply Kd.R_alloc | apply Kd.R_drewN | apply Kd.R_drew)); exact HO_3.out) hb); have n1_ := Aside0.mk (blk_below (g := gb464) (o := .cells #[.bool true, .slice (some ad465) l0_1.length c0_1] 75 (0, 0)) (by (with_reducible repeat (first | refine blk_drewN ?_ _ | refine blk_drew ?_ | refine blk_alloc ?_ _)); exact BK464.out) hb); have n2_ := Aside0.mk (below_step (by repeat (first | (with_reducible first | exact HB.out | apply below_alloc | apply pw_below_drewN | apply below_drew1 | refine below_set ?_ GE464.out) | exact HB.out)) hb); have n3_ := Aside0.mk (hbox); have n4_ := Aside0.mk ((by rw [hg]; exact (below_size (by repeat (first | (with_reducible first | exact HB.out | apply below_alloc | apply pw_below_drewN | apply below_drew1 | refine below_set ?_ GE464.out) | exact HB.out))) : w.heap.size ≤ gb466)); have n5_ := Aside0.mk ((by rw [hg]; exact (below_size (by repeat (first | (with_reducible first | exact HB.out | apply below_alloc | apply pw_below_drewN | apply below_drew1 | refine below_set ?_ GE464.out) | exact HB.out))) : w.heap.size ≤ gb466)); have n6_ := Aside0.mk ((by rw [hg]; exact Nat.ne_of_lt (blk_lt (g := gb464) (o := .cells #[.bool true, .slice (some ad465) l0_1.length c0_1] 75 (0, 0)) (by (with_reducible repeat (first | refine blk_drewN ?_ _ | refine blk_drew ?_ | refine blk_alloc ?_ _)); exact BK464.out)) : gb464 ≠ gb466)); have n7_ := Aside0.mk ((by rw [hg]; exact Nat.ne_of_gt (blk_lt (g := gb464) (o := .cells #[.bool true, .slice (some ad465) l0_1.length c0_1] 75 (0, 0)) (by (with_reducible repeat (first | refine blk_drewN ?_ _ | refine blk_drew ?_ | refine blk_alloc ?_ _)); exact BK464.out)) : gb466 ≠ gb464)); clear HO_3; clear BK464; clear HB; have HO_3 := n0_; have BK464 := n1_; have HB := n2_; have BK466 := n3_; have GW466 := n4_; have GE466 := n5_; have NB464_466 := n6_; have NB466_464 := n7_; clear n0_ n1_ n2_ n3_ n4_ n5_ n6_ n7_; clear hb hbox hg; have hnb10 := NB466_464.out; have hnc10 := NB464_466.out; have hcz11_0 : w9.cell? ⟨gb466, 0, none⟩ = some (.int .i64 0) := (blk_cell BK466.out 0).trans rfl; have hcz11_1 : w9.cell? ⟨gb466, 1, none⟩ = some (.int .i64 0) := (blk_cell BK466.out 1).trans rfl; have hcz11_2 : w9.cell? ⟨gb466, 2, none⟩ = some (.int .i64 0) := (blk_cell BK466.out 2).trans rfl; have hcz11_3 : w9.cell? ⟨gb466, 3, none⟩ = some (.int .i64 0) := (blk_cell BK466.out 3).trans rfl; have hcz11_4 : w9.cell? ⟨gb466, 4, none⟩ = some (.int .i64 0) := (blk_cell BK466.out 4).trans rfl; have hfz11_0 := blk_frozen BK466.out 0; have hfz11_1 := blk_frozen BK466.out 1; have hfz11_2 := blk_frozen BK466.out 2; have hfz11_3 := blk_frozen BK466.out 3; have hfz11_4 := blk_frozen BK466.out 4) | ((with_reducible refine gate_builtin (b := .append) (xs := #[.tmp 15, .tmp 21]) rfl ?_); at_builtin; refine Kd.R_append k68 (w0 := w) w.heap.size rfl (.tmp 15) (.tmp 21) 25 68 (.agg #[(.int .i64 0), (.int .i64 0), (.int .i64 0), (.int .i64 0), (.int .i64 0)]) 40 rfl Try.underlying25 info68 rfl (by decide) (by omega) u3 x3_1 (⟨(rd_T82 l0_1 x11_1).f0, (⟨(rd_T82 l0_1 x11_1).f1.f0, (rd_T82 l0_1 x11_1).f1.f1, (rd_T82 l0_1 x11_1).f1.f2, (rd_T82 l0_1 x11_1).f1.f3⟩ : S60)⟩ : S68) [.int .i64 ((rd_T82 l0_1 x11_1).f0), .int .i64 ((rd_T82 l0_1 x11_1).f1.f0), .int .i64 ((rd_T82 l0_1 x11_1).f1.f1), .int .i64 ((rd_T82 l0_1 x11_1).f1.f2), .int .i64 ((rd_T82 l0_1 x11_1).f1.f3)] (fun _ => True) (fun _ => False) rfl (by first | (go_simp; done) | (go_simp; rfl)) ?aP (fun _ hk => hk.elim) ?aF ?aO ?aB ?aS ?aL ?_; (case aP => exact k68_mkM _ _ _ (⟨(rd_T82 l0_1 x11_1).f0, (⟨(rd_T82 l0_1 x11_1).f1.f0, (rd_T82 l0_1 x11_1).f1.f1, (rd_T82 l0_1 x11_1).f1.f2, (rd_T82 l0_1 x11_1).f1.f3⟩ : S60)⟩ : S68)); (case aB => exact (by repeat (first | (with_reducible first | exact HB.out | apply below_alloc | apply pw_below_drewN | apply below_drew1 | refine below_set ?_ GE464.out | refine below_set ?_ GE466.out) | exact HB.out))); (case aF => exact (fun _ _ => trivial)); (case aO => exact (by (with_reducible repeat (first | apply Kd.R_alloc | apply Kd.R_drewN | apply Kd.R_drew)); exact Kd.R_mono (Kd.R_far (p := ⟨gb466, 4, none⟩) (Kd.R_far (p := ⟨gb466, 3, none⟩) (Kd.R_far (p := ⟨gb466, 2, none⟩) (Kd.R_far (p := ⟨gb466, 1, none⟩) (Kd.R_far (p := ⟨gb466, 0, none⟩) (Kd.R_types HO_3.out BK466.out (by decide)) (fun _ hk => hk.2) (.int .i64 ((rd_T82 l0_1 x11_1).f0))) (fun _ hk => hk.2) (.int .i64 ((rd_T82 l0_1 x11_1).f1.f0))) (fun _ hk => hk.2) (.int .i64 ((rd_T82 l0_1 x11_1).f1.f1))) (fun _ hk => hk.2) (.int .i64 ((rd_T82 l0_1 x11_1).f1.f2))) (fun _ hk => hk.2) (.int .i64 ((rd_T82 l0_1 x11_1).f1.f3))) (fun _ hk => trivial))); (case aS => exact (below_size (by repeat (first | (with_reducible first | exact HB.out | apply below_alloc | apply pw_below_drewN | apply below_drew1 | refine below_set ?_ GE464.out | refine below_set ?_ GE466.out) | exact HB.out)))); (case aL => have := LMc8.out; omega); intro v468 w12 ho hb hg hat; rw [← Ny467.out] at ho; have n0_ := Aside0.mk (blk_grown (g := gb464) (o := .cells #[.bool true, .slice (some ad465) l0_1.length c0_1] 75 (0, 0)) (by (with_reducible repeat (first | refine blk_drewN ?_ _ | refine blk_drew ?_ | refine blk_alloc ?_ _)); refine blk_far ?_ NB464_466.out _; (with_reducible repeat (first | refine blk_drewN ?_ _ | refine blk_drew ?_ | refine blk_alloc ?_ _)); refine blk_far ?_ NB464_466.out _; (with_reducible repeat (first | refine blk_drewN ?_ _ | refine blk_drew ?_ | refine blk_alloc ?_ _)); refine blk_far ?_ NB464_466.out _; (with_reducible repeat (first | refine blk_drewN ?_ _ | refine blk_drew ?_ | refine blk_alloc ?_ _)); refine blk_far ?_ NB464_466.out _; (with_reducible repeat (first | refine blk_drewN ?_ _ | refine blk_drew ?_ | refine blk_alloc ?_ _)); refine blk_far ?_ NB464_466.out _; (with_reducible repeat (first | refine blk_drewN ?_ _ | refine blk_drew ?_ | refine blk_alloc ?_ _)); exact BK464.out) hg (Kd.R_ne HO_3.out BK464.out (by decide))); have n1_ := Aside0.mk (blk_grown (g := gb466) (o := .cells #[.int .i64 ((rd_T82 l0_1 x11_1).f0), .int .i64 ((rd_T82 l0_1 x11_1).f1.f0), .int .i64 ((rd_T82 l0_1 x11_1).f1.f1), .int .i64 ((rd_T82 l0_1 x11_1).f1.f2), .int .i64 ((rd_T82 l0_1 x11_1).f1.f3)] 82 (0, 0)) (by (with_reducible repeat (first | refine blk_drewN ?_ _ | refine blk_drew ?_ | refine blk_alloc ?_ _)); refine blk_put (cs := #[.int .i64 ((rd_T82 l0_1 x11_1).f0), .int .i64 ((rd_T82 l0_1 x11_1).f1.f0), .int .i64 ((rd_T82 l0_1 x11_1).f1.f1), .int .i64 ((rd_T82 l0_1 x11_1).f1.f2), .int .i64 0]) ?_ 4 _ rfl; (with_reducible repeat (first | refine blk_drewN ?_ _ | refine blk_drew ?_ | refine blk_alloc ?_ _)); refine blk_put (cs := #[.int .i64 ((rd_T82 l0_1 x11_1).f0), .int .i64 ((rd_T82 l0_1 x11_1).f1.f0), .int .i64 ((rd_T82 l0_1 x11_1).f1.f1), .int .i64 0, .int .i64 0]) ?_ 3 _ rfl; (with_reducible repeat (first | refine blk_drewN ?_ _ | refine blk_drew ?_ | refine blk_alloc ?_ _)); refine blk_put (cs := #[.int .i64 ((rd_T82 l0_1 x11_1).f0), .int .i64 ((rd_T82 l0_1 x11_1).f1.f0), .int .i64 0, .int .i64 0, .int .i64 0]) ?_ 2 _ rfl; (with_reducible repeat (first | refine blk_drewN ?_ _ | refine blk_drew ?_ | refine blk_alloc ?_ _)); refine blk_put (cs := #[.int .i64 ((rd_T82 l0_1 x11_1).f0), .int .i64 0, .int .i64 0, .int .i64 0, .int .i64 0]) ?_ 1 _ rfl; (with_reducible repeat (first | refine blk_drewN ?_ _ | refine blk_drew ?_ | refine blk_alloc ?_ _)); refine blk_put (cs := #[.int .i64 0, .int .i64 0, .int .i64 0, .int .i64 0, .int .i64 0]) ?_ 0 _ rfl; (with_reducible repeat (first | refine blk_drewN ?_ _ | refine blk_drew ?_ | refine blk_alloc ?_ _)); exact BK466.out) hg (Kd.R_ne HO_3.out BK466.out (by decide))); have n2_ := Aside0.mk (hb); have n3_ := Aside0.mk (ho); clear BK464; clear BK466; clear HB; clear HO_3; have BK464 := n0_; have BK466 := n1_; have HB := n2_; have HO469 := n3_; clear n0_ n1_ n2_ n3_; clear ho hb hg hat))
                go_roundg k1
                case measure => have := HK1.out; omega
                case rel => exact ⟨(y467), (wrap64 (x11_1 + 1)), (by first | rfl | (simp; done) | (simp [*]; done)), H', ⟨by have := HK1.out; omega⟩, ⟨by (with_reducible repeat (first | apply Kd.R_alloc | apply Kd.R_drewN | apply Kd.R_drew)); exact HO469.out⟩, ⟨by (with_reducible repeat (first | refine blk_drewN ?_ _ | refine blk_drew ?_ | refine blk_alloc ?_ _)); exact BK464.out⟩, ⟨by repeat (first | (with_reducible first | exact HB.out | apply below_alloc | apply pw_below_drewN | apply below_drew1 | refine below_set ?_ GE464.out | refine below_set ?_ GE466.out) | exact HB.out)⟩⟩
              · rw [if_neg c8] at H
                exact absurd H (by simp)
            · rw [if_neg c7] at H
              exact absurd H (by simp)
          · rw [if_neg c6] at H
            exact absurd H (by simp)
        · rw [if_neg c5] at H
          have c5b0 : decide (x11_1 < (l0_1.length : Int)) = false := decide_eq_false c5
          clear c5
          obtain rfl := Option.some.inj H
          go_wp2
          go_ret
          exact ⟨_, by first | rfl | (simp [errW_none, errW_some] <;> rfl) | (simp [*, errW_none, errW_some] <;> rfl), by (with_reducible repeat (first | apply Kd.R_alloc | apply Kd.R_drewN | apply Kd.R_drew)); exact HO_3.out, by repeat (first | (with_reducible first | exact HB.out | apply below_alloc | apply pw_below_drewN | apply below_drew1 | refine below_set ?_ GE464.out) | exact HB.out)⟩
  · replace c2 := Bool.eq_false_iff.mpr c2
    subst c2
    have H1 : (some ([] : List (S68))) = some r := by rw [if_neg (show ¬ (false = true) by decide)] at H; exact H
    clear H
    have H := H1
    clear H1
    obtain rfl := Option.some.inj H
    go_enter Try.func91, Try.ntmps91
    go_wp2_with (first | ((with_reducible refine gate_dst (N := 1) rfl ?_); refine box_event ?hg (N := 1) ?hd (cs := #[.bool false, .slice A0_1 l0_1.length c0_1]) (t := 75) ?hr ?_; (case hd => rfl); (case hg => rfl); (case hr => first | (go_simp; done) | (go_simp; rfl)); intro gb464 hg w13 hbox hb; have n0_ := Aside0.mk (below_step (by repeat (first | (with_reducible first | exact HB.out | apply below_alloc | apply pw_below_drewN | apply below_drew1) | exact HB.out)) hb); have n1_ := Aside0.mk (hbox); have n2_ := Aside0.mk ((by rw [hg]; exact (below_size (by repeat (first | (with_reducible first | exact HB.out | apply below_alloc | apply pw_below_drewN | apply below_drew1) | exact HB.out))) : w.heap.size ≤ gb464)); have n3_ := Aside0.mk ((by rw [hg]; exact (below_size (by repeat (first | (with_reducible first | exact HB.out | apply below_alloc | apply pw_below_drewN | apply below_drew1) | exact HB.out))) : w.heap.size ≤ gb464)); clear HB; have HB := n0_; have BK464 := n1_; have GW464 := n2_; have GE464 := n3_; clear n0_ n1_ n2_ n3_; clear hb hbox hg; have hcz14_0 : w13.cell? ⟨gb464, 0, none⟩ = some (.bool false) := (blk_cell BK464.out 0).trans rfl; have hcz14_1 : w13.cell? ⟨gb464, 1, none⟩ = some (.slice A0_1 l0_1.length c0_1) := (blk_cell BK464.out 1).trans rfl; have hfz14_0 := blk_frozen BK464.out 0; have hfz14_1 := blk_frozen BK464.out 1))
    go_ret
    exact ⟨_, by first | rfl | (simp [errW_none, errW_some] <;> rfl) | (simp [*, errW_none, errW_some] <;> rfl), by first | exact Kd.R_nil _ _ _ _ _ | exact Kd.N_nil _ _ _ _ _ | exact Kd.V_nil _ _ _ _ _ | exact Kd.Q_nil _ _ _ _ _ | exact Kd.S_nil _ _ _ _ _, by repeat (first | (with_reducible first | exact HB.out | apply below_alloc | apply pw_below_drewN | apply below_drew1 | refine below_set ?_ GE464.out) | exact HB.out)⟩

end Go.Proofs.Ythenmlaleobapaa.All

namespace Go.Proofs.Ythenmlaleobapaa.All
open Go.RowKit Go.Proofs.YthenmlaleobapaaW.PrintWords Go.Proofs.YthenmlaleobapaaW.PrintLast Go.Proofs.YthenmlaleobapaaW.PrintMore
attribute [local go_sem] max2_int min2_int max_two min_two max_three min_three max_four min_four   -- for this text's walks alone
set_option linter.unusedVariables false
set_option linter.unusedSimpArgs false

/-! ### impl_itemsFrom: function 80 -/
def impl_itemsFrom.l0 : Nat → List (S68) → List Int → Int → Int → Int → List (S77) → Option ((List (S68)))
  | 0, _, _, _, _, _, _ => none
  | k + 1, x5, x10, x11, x12, x471000, x471001 => if x12 < x11 then (if 0 ≤ x12 then (if x12 < (x10.length : Int) then (if 0 ≤ (rd x10 x12) then (if (rd x10 x12) < (x471001.length : Int) then ((impl_ItemsOf.f k ((rd_T77 x471001 (rd x10 x12)).f1.f0) ((rd_T77 x471001 (rd x10 x12)).f1.f1)).bind fun t476 => (if x5.length + t476.length < 3518437208883 then (impl_itemsFrom.l0 k (x5 ++ t476) x10 x11 (wrap64 (x12 + 1)) x471000 x471001) else (none))) else (none)) else (none)) else (none)) else (none)) else (some x5)
def impl_itemsFrom.f (k : Nat) (a0_0 : Int) (l0_1 : List (S77)) (a1 : Int) : Option ((List (S68))) := (impl_reachFrom.f k a0_0 l0_1 a1).bind fun t471 => (impl_itemsFrom.l0 k ([] : List (S68)) t471 (t471.length : Int) 0 a0_0 l0_1)
theorem impl_itemsFrom.mono_l : ∀ k, (∀ y0 y1 y2 y3 y4 y5, LeO (impl_itemsFrom.l0 k y0 y1 y2 y3 y4 y5) (impl_itemsFrom.l0 (k + 1) y0 y1 y2 y3 y4 y5))
  | 0 => fun _ _ _ _ _ _ r h => by simp [impl_itemsFrom.l0] at h
  | k + 1 => by
    have ih0 := impl_itemsFrom.mono_l k
    · intro y0 y1 y2 y3 y4 y5
      unfold impl_itemsFrom.l0
      repeat' first
      | (with_reducible exact ih0 _ _ _ _ _ _)
      | (with_reducible exact impl_ItemsOf.mono _ _ _)
      | (with_reducible exact impl_reachFrom.mono _ _ _ _)
      | (with_reducible exact LeO.refl _)
      | (with_reducible exact LeO.none _)
      | (with_reducible refine LeO.ite ?_ ?_)
      | (with_reducible refine LeO.bind ?_ (fun _ => ?_))
      | exact ih0 _ _ _ _ _ _
      | exact impl_ItemsOf.mono _ _ _
      | exact impl_reachFrom.mono _ _ _ _
      | exact LeO.none _
      | refine LeO.ite ?_ ?_
      | refine LeO.bind ?_ (fun _ => ?_)
theorem impl_itemsFrom.mono : ∀ a0 a1 a2 k, LeO (impl_itemsFrom.f k a0 a1 a2) (impl_itemsFrom.f (k + 1) a0 a1 a2) := by
  intro a0 a1 a2 k
  have ih0 := impl_itemsFrom.mono_l k
  unfold impl_itemsFrom.f
  repeat' first
      | (with_reducible exact ih0 _ _ _ _ _ _)
      | (with_reducible exact impl_ItemsOf.mono _ _ _)
      | (with_reducible exact impl_reachFrom.mono _ _ _ _)
      | (with_reducible exact LeO.refl _)
      | (with_reducible exact LeO.none _)
      | (with_reducible refine LeO.ite ?_ ?_)
      | (with_reducible refine LeO.bind ?_ (fun _ => ?_))
      | exact ih0 _ _ _ _ _ _
      | exact impl_ItemsOf.mono _ _ _
      | exact impl_reachFrom.mono _ _ _ _
      | exact LeO.none _
      | refine LeO.ite ?_ ?_
      | refine LeO.bind ?_ (fun _ => ?_)
set_option maxHeartbeats 8000000 in
set_option maxRecDepth 100000 in
theorem impl_itemsFrom.calls (k : Nat) (a0_0 : Int) (A0_1 : Option Addr) (c0_1 : Nat) (l0_1 : List (S77)) (a1 : Int) (r : List (S68)) (w : World) (hr0_1 : Kd.C k77 w A0_1 l0_1.length l0_1) (hc0_1 : l0_1.length ≤ c0_1) (h : impl_itemsFrom.f k a0_0 l0_1 a1 = some r) :
    Calls Try.prog 80 #[.agg #[.int .i64 a0_0, .slice A0_1 l0_1.length c0_1], .int .i64 a1] w fun e w' => ∃ v0_ : Value, e = .returned (v0_) ∧ Kd.R k68 68 w' w.heap.size (fun _ => True) v0_ r ∧ Below w.heap.size w w' := by
  have hu36 := Try.underlying36
  have hu75 := Try.underlying75
  have HR0_1 := Aside0.mk hr0_1
  have HC0_1 := Aside0.mk hc0_1
  clear hr0_1 hc0_1
  have HB := Aside0.mk (Below.refl w.heap.size w)
  have H : ((impl_reachFrom.f k a0_0 l0_1 a1).bind fun t471 => (impl_itemsFrom.l0 k ([] : List (S68)) t471 (t471.length : Int) 0 a0_0 l0_1)) = some r := h
  clear h
  replace H := Option.bind_eq_some_iff.mp H
  obtain ⟨t471, A30, H⟩ := H
  replace H : (impl_itemsFrom.l0 k ([] : List (S68)) t471 (t471.length : Int) 0 a0_0 l0_1) = some r := H
  have A3 := Aside0.mk A30
  clear A30
  have H' := Aside0.mk H
  clear H
  go_enter Try.func80, Try.ntmps80
  go_wp2_with (first | ((with_reducible refine gate_dst (N := 2) rfl ?_); refine box_event ?hg (N := 2) ?hd (cs := #[.int .i64 a0_0, .slice A0_1 l0_1.length c0_1]) (t := 36) ?hr ?_; (case hd => rfl); (case hg => rfl); (case hr => first | (go_simp; done) | (go_simp; rfl)); intro gb470 hg w4 hbox hb; have n0_ := Aside0.mk (below_step (by repeat (first | (with_reducible first | exact HB.out | apply below_alloc | apply pw_below_drewN | apply below_drew1) | exact HB.out)) hb); have n1_ := Aside0.mk (hbox); have n2_ := Aside0.mk ((by rw [hg]; exact (below_size (by repeat (first | (with_reducible first | exact HB.out | apply below_alloc | apply pw_below_drewN | apply below_drew1) | exact HB.out))) : w.heap.size ≤ gb470)); have n3_ := Aside0.mk ((by rw [hg]; exact (below_size (by repeat (first | (with_reducible first | exact HB.out | apply below_alloc | apply pw_below_drewN | apply below_drew1) | exact HB.out))) : w.heap.size ≤ gb470)); clear HB; have HB := n0_; have BK470 := n1_; have GW470 := n2_; have GE470 := n3_; clear n0_ n1_ n2_ n3_; clear hb hbox hg; have hcz5_0 : w4.cell? ⟨gb470, 0, none⟩ = some (.int .i64 a0_0) := (blk_cell BK470.out 0).trans rfl; have hcz5_1 : w4.cell? ⟨gb470, 1, none⟩ = some (.slice A0_1 l0_1.length c0_1) := (blk_cell BK470.out 1).trans rfl; have hfz5_0 := blk_frozen BK470.out 0; have hfz5_1 := blk_frozen BK470.out 1) | ((with_reducible refine gate_callee (f := 75) rfl ?_); refine goesL_ (some 10) rfl rfl Try.func75 (by kernel_rfl) rfl #[.agg #[.int .i64 a0_0, .slice A0_1 l0_1.length c0_1], .int .i64 a1] rfl (by (try simp only [List.map_toArray, List.map_cons, List.map_nil]); first | done | rfl | (simp only [List.length_drop, List.length_take]; rfl)) ?_; (with_reducible refine (impl_reachFrom.calls k a0_0 _ _ l0_1 a1 t471 _ ?side1 ?side2 A3.out).mono ?_); (case side1 => repeat (first | exact (Kd.C_below HR0_1.out HB.out) | (with_reducible refine Kd.C_alloc ?_ _) | (with_reducible refine Kd.C_drewN ?_ _) | (with_reducible refine Kd.C_drew ?_))); (case side2 => exact HC0_1.out); rintro e w6 ⟨v472, rfl, ho0, hb⟩; refine ⟨_, rfl, ?_⟩; have n0_ := Aside0.mk (Kd.R_lower ho0 (below_size (by repeat (first | (with_reducible first | exact HB.out | apply below_alloc | apply pw_below_drewN | apply below_drew1 | refine below_set ?_ GE470.out) | exact HB.out)))); have n1_ := Aside0.mk (blk_below (g := gb470) (o := .cells #[.int .i64 a0_0, .slice A0_1 l0_1.length c0_1] 36 (0, 0)) (by (with_reducible repeat (first | refine blk_drewN ?_ _ | refine blk_drew ?_ | refine blk_alloc ?_ _)); exact BK470.out) hb); have n2_ := Aside0.mk (below_step (by repeat (first | (with_reducible first | exact HB.out | apply below_alloc | apply pw_below_drewN | apply below_drew1 | refine below_set ?_ GE470.out) | exact HB.out)) hb); clear BK470; clear HB; have HO473 := n0_; have BK470 := n1_; have HB := n2_; clear n0_ n1_ n2_; (try clear hb); (try clear hb2); (try clear hk); (try clear hi); (try clear ho0); obtain ⟨Ao7, co7, eo7⟩ := Kd.R_slice HO473.out; subst eo7))
  go_loopg [5, 12] k (fun kq v5 v12 w' => ∃ (x5_1 : List (S68)) (x12_1 : Int), v12 = .int .i64 x12_1 ∧ Aside0 (impl_itemsFrom.l0 kq x5_1 t471 (t471.length : Int) x12_1 a0_0 l0_1 = some r) ∧ Aside0 (kq ≤ k) ∧ Aside0 (Kd.R k68 68 w' w.heap.size (fun _ => True) v5 x5_1) ∧ Aside0 (Kd.R (Kd.int .i64) 3 w' w.heap.size (fun _ => True) (.slice Ao7 t471.length co7) t471) ∧ Aside0 (w'.heap[gb470]? = some (.cells #[.int .i64 a0_0, (.slice A0_1 l0_1.length c0_1)] 36 (0, 0))) ∧ Aside0 (Below w.heap.size w w'))
  case atStart => exact ⟨(([] : List (S68))), (0), (by first | rfl | (simp; done) | (simp [*]; done)), H', ⟨Nat.le_refl _⟩, ⟨by first | exact Kd.R_nil _ _ _ _ _ | exact Kd.N_nil _ _ _ _ _ | exact Kd.V_nil _ _ _ _ _ | exact Kd.Q_nil _ _ _ _ _ | exact Kd.S_nil _ _ _ _ _⟩, ⟨by (with_reducible repeat (first | apply Kd.R_alloc | apply Kd.R_drewN | apply Kd.R_drew)); exact HO473.out⟩, ⟨by (with_reducible repeat (first | refine blk_drewN ?_ _ | refine blk_drew ?_ | refine blk_alloc ?_ _)); exact BK470.out⟩, ⟨by repeat (first | (with_reducible first | exact HB.out | apply below_alloc | apply pw_below_drewN | apply below_drew1 | refine below_set ?_ GE470.out) | exact HB.out)⟩⟩
  case round =>
    clear H'
    try clear p2
    try clear c7
    try clear hcz5_0
    try clear hcz5_1
    try clear hfz5_0
    try clear hfz5_1
    obtain ⟨x5_1, x12_1, rfl, HA, HK1, HO_5, HO_10, BK470, HB⟩ := hrel
    cases gk with
    | zero => exact absurd HA.out (by simp [impl_itemsFrom.l0])
    | succ k1 =>
      have H := HA.out
      clear HA
      simp only [impl_itemsFrom.l0] at H
      by_cases c8 : x12_1 < (t471.length : Int)
      · rw [if_pos c8] at H
        have c8b0 : decide (x12_1 < (t471.length : Int)) = true := decide_eq_true c8
        clear c8
        by_cases c9 : 0 ≤ x12_1
        · rw [if_pos c9] at H
          have c9b0 : decide (0 ≤ x12_1) = true := decide_eq_true c9
          clear c9
          by_cases c10 : x12_1 < (t471.length : Int)
          · rw [if_pos c10] at H
            have c10b0 : decide (x12_1 < (t471.length : Int)) = true := decide_eq_true c10
            clear c10
            by_cases c11 : 0 ≤ (rd t471 x12_1)
            · rw [if_pos c11] at H
              have c11b0 : decide (0 ≤ (rd t471 x12_1)) = true := decide_eq_true c11
              clear c11
              by_cases c12 : (rd t471 x12_1) < (l0_1.length : Int)
              · rw [if_pos c12] at H
                have c12b0 : decide ((rd t471 x12_1) < (l0_1.length : Int)) = true := decide_eq_true c12
                clear c12
                replace H := Option.bind_eq_some_iff.mp H
                obtain ⟨t476, A130, H⟩ := H
                replace H : (if x5_1.length + t476.length < 3518437208883 then (impl_itemsFrom.l0 k1 (x5_1 ++ t476) t471 (t471.length : Int) (wrap64 (x12_1 + 1)) a0_0 l0_1) else (none)) = some r := H
                have A13 := Aside0.mk A130
                clear A130
                by_cases c14 : x5_1.length + t476.length < 3518437208883
                · rw [if_pos c14] at H
                  have LMc14 := Aside0.mk c14
                  clear c14
                  obtain ⟨y479, hy479⟩ : ∃ y_ : List (S68), y_ = (x5_1 ++ t476) := ⟨_, rfl⟩
                  replace H : (impl_itemsFrom.l0 k1 y479 t471 (t471.length : Int) (wrap64 (x12_1 + 1)) a0_0 l0_1) = some r := by first | (rw [hy479]; with_reducible exact H) | (have H2_ := (Option.bind_some _ _).symm.trans H; rw [hy479]; with_reducible exact H2_) | (have H2_ := (Option.bind_some _ _).symm.trans H; with_reducible exact H2_) | with_reducible exact H | (rw [hy479]; exact H) | exact H
                  have Ny479 := Aside0.mk hy479
                  clear hy479
                  have H' := Aside0.mk H
                  clear H
                  have p474 : 0 ≤ (x12_1 : Int) := of_decide_eq_true (by first | (with_reducible assumption) | assumption)
                  have q474 : x12_1 < (t471.length : Int) := of_decide_eq_true (by first | (with_reducible assumption) | assumption)
                  obtain ⟨ad474, e474, hx474_0⟩ := Kd.at_int (Kd.R_reads' HO_10.out).2.2 x12_1 p474 q474
                  cases e474
                  replace p474 := eq_true p474
                  replace q474 := eq_true q474
                  have hcz15_0 : wr.cell? ⟨gb470, 0, none⟩ = some (.int .i64 a0_0) := (blk_cell BK470.out 0).trans rfl
                  have hcz15_1 : wr.cell? ⟨gb470, 1, none⟩ = some (.slice A0_1 l0_1.length c0_1) := (blk_cell BK470.out 1).trans rfl
                  have hfz15_0 := blk_frozen BK470.out 0
                  have hfz15_1 := blk_frozen BK470.out 1
                  have p475 : 0 ≤ ((rd t471 x12_1) : Int) := of_decide_eq_true (by first | (with_reducible assumption) | assumption)
                  have q475 : (rd t471 x12_1) < (l0_1.length : Int) := of_decide_eq_true (by first | (with_reducible assumption) | assumption)
                  obtain ⟨ad475, A475_2, c475_2, e475, hx475_0, hx475_1, hx475_2, hl475_2, hi475_2⟩ := at_T77 HR0_1.out (rd t471 x12_1) p475 q475
                  cases e475
                  replace hx475_0 := (HB.out.cell (World.block_lt_of_cell? w _ hx475_0)).trans hx475_0
                  replace hx475_1 := (HB.out.cell (World.block_lt_of_cell? w _ hx475_1)).trans hx475_1
                  replace hx475_2 := (HB.out.cell (World.block_lt_of_cell? w _ hx475_2)).trans hx475_2
                  have HR475_2 := Aside0.mk hi475_2
                  have HC475_2 := Aside0.mk hl475_2
                  clear hi475_2 hl475_2
                  replace p475 := eq_true p475
                  replace q475 := eq_true q475
                  go_wp2_with (first | ((with_reducible refine gate_callee (f := 91) rfl ?_); refine goesL_ (some 23) rfl rfl Try.func91 (by kernel_rfl) rfl #[.agg #[.bool ((rd_T77 l0_1 (rd t471 x12_1)).f1.f0), .slice A475_2 ((rd_T77 l0_1 (rd t471 x12_1)).f1.f1).length c475_2]] rfl (by (try simp only [List.map_toArray, List.map_cons, List.map_nil]); first | done | rfl | (simp only [List.length_drop, List.length_take]; rfl)) ?_; (with_reducible refine (impl_ItemsOf.calls k1 ((rd_T77 l0_1 (rd t471 x12_1)).f1.f0) _ _ ((rd_T77 l0_1 (rd t471 x12_1)).f1.f1) t476 _ ?side1 ?side2 A13.out).mono ?_); (case side1 => repeat (first | exact (Kd.C_below HR475_2.out HB.out) | (with_reducible refine Kd.C_alloc ?_ _) | (with_reducible refine Kd.C_drewN ?_ _) | (with_reducible refine Kd.C_drew ?_))); (case side2 => exact HC475_2.out); rintro e w16 ⟨v477, rfl, ho0, hb⟩; refine ⟨_, rfl, ?_⟩; have n0_ := Aside0.mk (Kd.R_elder' (by (with_reducible repeat (first | apply Kd.R_alloc | apply Kd.R_drewN | apply Kd.R_drew)); exact HO_5.out) (Kd.R_base ho0) hb); have n1_ := Aside0.mk (Kd.R_below (by (with_reducible repeat (first | apply Kd.R_alloc | apply Kd.R_drewN | apply Kd.R_drew)); exact HO_10.out) hb); have n2_ := Aside0.mk (Kd.R_lower (Kd.R_new' ho0 (Kd.R_lt (by (with_reducible repeat (first | apply Kd.R_alloc | apply Kd.R_drewN | apply Kd.R_drew)); exact HO_5.out))) (below_size (by repeat (first | (with_reducible first | exact HB.out | apply below_alloc | apply pw_below_drewN | apply below_drew1 | refine below_set ?_ GE470.out) | exact HB.out)))); have n3_ := Aside0.mk (blk_below (g := gb470) (o := .cells #[.int .i64 a0_0, .slice (some ad475) l0_1.length c0_1] 36 (0, 0)) (by (with_reducible repeat (first | refine blk_drewN ?_ _ | refine blk_drew ?_ | refine blk_alloc ?_ _)); exact BK470.out) hb); have n4_ := Aside0.mk (below_step (by repeat (first | (with_reducible first | exact HB.out | apply below_alloc | apply pw_below_drewN | apply below_drew1 | refine below_set ?_ GE470.out) | exact HB.out)) hb); clear HO_5; clear HO_10; clear BK470; clear HB; have HO_5 := n0_; have HO_10 := n1_; have HO478 := n2_; have BK470 := n3_; have HB := n4_; clear n0_ n1_ n2_ n3_ n4_; (try clear hb); (try clear hb2); (try clear hk); (try clear hi); (try clear ho0); obtain ⟨Ao18, co18, eo18⟩ := Kd.R_slice HO478.out; subst eo18) | ((with_reducible refine gate_builtin (b := .append) (xs := #[.tmp 16, .tmp 23]) rfl ?_); at_builtin; refine Kd.R_append_rows k68 (w0 := w) w.heap.size rfl (.tmp 16) (.tmp 23) 25 68 (.agg #[(.int .i64 0), (.int .i64 0), (.int .i64 0), (.int .i64 0), (.int .i64 0)]) 40 rfl Try.underlying25 info68 rfl (by decide) (by omega) u5 x5_1 t476 _ _ _ (fun k_ => some k_ ≠ (.slice Ao18 t476.length co18 : Value).ownBlock) (fun _ => False) rfl rfl ?aO ?aR (fun _ _ h => h) (fun _ h => h.elim) ?aF ?aB ?aS ?aL ?_; (case aR => repeat (first | exact (Kd.R_reads' HO478.out).2.2 | (with_reducible refine Kd.C_alloc ?_ _) | (with_reducible refine Kd.C_drewN ?_ _) | (with_reducible refine Kd.C_drew ?_))); (case aB => exact (by repeat (first | (with_reducible first | exact HB.out | apply below_alloc | apply pw_below_drewN | apply below_drew1 | refine below_set ?_ GE470.out) | exact HB.out))); (case aF => exact (fun k_ hk => Kd.fresh' (Kd.R_lt (by (with_reducible repeat (first | apply Kd.R_alloc | apply Kd.R_drewN | apply Kd.R_drew)); exact HO478.out)) k_ hk)); (case aO => exact (by (with_reducible repeat (first | apply Kd.R_alloc | apply Kd.R_drewN | apply Kd.R_drew)); exact Kd.R_mono HO_5.out (fun _ hk => hk.2))); (case aS => exact (below_size (by repeat (first | (with_reducible first | exact HB.out | apply below_alloc | apply pw_below_drewN | apply below_drew1 | refine below_set ?_ GE470.out) | exact HB.out)))); (case aL => have := LMc14.out; omega); intro v480 w17 ho hb hg hat; rw [← Ny479.out] at ho; have n0_ := Aside0.mk (Kd.R_over' (by (with_reducible repeat (first | apply Kd.R_alloc | apply Kd.R_drewN | apply Kd.R_drew)); exact HO_10.out) (Kd.R_typed (by (with_reducible repeat (first | apply Kd.R_alloc | apply Kd.R_drewN | apply Kd.R_drew)); exact HO_5.out)) (by decide) hg); have n1_ := Aside0.mk (blk_grown (g := gb470) (o := .cells #[.int .i64 a0_0, .slice (some ad475) l0_1.length c0_1] 36 (0, 0)) (by (with_reducible repeat (first | refine blk_drewN ?_ _ | refine blk_drew ?_ | refine blk_alloc ?_ _)); exact BK470.out) hg (Kd.R_ne HO_5.out BK470.out (by decide))); have n2_ := Aside0.mk (Kd.R_after (ok := (fun _ => True)) (by (with_reducible repeat (first | apply Kd.R_alloc | apply Kd.R_drewN | apply Kd.R_drew)); exact HO478.out) hg hat); have n3_ := Aside0.mk (hb); have n4_ := Aside0.mk (ho); clear HO_10; clear BK470; clear HO478; clear HB; clear HO_5; have HO_10 := n0_; have BK470 := n1_; have HO478 := n2_; have HB := n3_; have HO481 := n4_; clear n0_ n1_ n2_ n3_ n4_; clear ho hb hg hat))
                  go_roundg k1
                  case measure => have := HK1.out; omega
                  case rel => exact ⟨(y479), (wrap64 (x12_1 + 1)), (by first | rfl | (simp; done) | (simp [*]; done)), H', ⟨by have := HK1.out; omega⟩, ⟨by (with_reducible repeat (first | apply Kd.R_alloc | apply Kd.R_drewN | apply Kd.R_drew)); exact Kd.R_mono HO481.out (fun _ hk => trivial)⟩, ⟨by (with_reducible repeat (first | apply Kd.R_alloc | apply Kd.R_drewN | apply Kd.R_drew)); exact HO_10.out⟩, ⟨by (with_reducible repeat (first | refine blk_drewN ?_ _ | refine blk_drew ?_ | refine blk_alloc ?_ _)); exact BK470.out⟩, ⟨by repeat (first | (with_reducible first | exact HB.out | apply below_alloc | apply pw_below_drewN | apply below_drew1 | refine below_set ?_ GE470.out) | exact HB.out)⟩⟩
                · rw [if_neg c14] at H
                  exact absurd H (by simp)
              · rw [if_neg c12] at H
                exact absurd H (by simp)
            · rw [if_neg c11] at H
              exact absurd H (by simp)
          · rw [if_neg c10] at H
            exact absurd H (by simp)
        · rw [if_neg c9] at H
          exact absurd H (by simp)
      · rw [if_neg c8] at H
        have c8b0 : decide (x12_1 < (t471.length : Int)) = false := decide_eq_false c8
        clear c8
        obtain rfl := Option.some.inj H
        go_wp2
        go_ret
        exact ⟨_, by first | rfl | (simp [errW_none, errW_some] <;> rfl) | (simp [*, errW_none, errW_some] <;> rfl), by (with_reducible repeat (first | apply Kd.R_alloc | apply Kd.R_drewN | apply Kd.R_drew)); exact HO_5.out, by repeat (first | (with_reducible first | exact HB.out | apply below_alloc | apply pw_below_drewN | apply below_drew1 | refine below_set ?_ GE470.out) | exact HB.out)⟩

end Go.Proofs.Ythenmlaleobapaa.All

namespace Go.Proofs.Ythenmlaleobapaa.All
open Go.RowKit Go.Proofs.YthenmlaleobapaaW.PrintWords Go.Proofs.YthenmlaleobapaaW.PrintLast Go.Proofs.YthenmlaleobapaaW.PrintMore
attribute [local go_sem] max2_int min2_int max_two min_two max_three min_three max_four min_four   -- for this text's walks alone
set_option linter.unusedVariables false
set_option linter.unusedSimpArgs false

/-! ### impl_All: function 56 -/
def impl_All.f (k : Nat) (a0_0 : Int) (l0_1 : List (S77)) : Option ((List (S68))) := (impl_itemsFrom.f k a0_0 l0_1 a0_0).bind fun t483 => (some t483)
theorem impl_All.mono : ∀ a0 a1 k, LeO (impl_All.f k a0 a1) (impl_All.f (k + 1) a0 a1) := by
  intro a0 a1 k
  unfold impl_All.f
  repeat' first
      | (with_reducible exact impl_itemsFrom.mono _ _ _ _)
      | (with_reducible exact LeO.refl _)
      | (with_reducible exact LeO.none _)
      | (with_reducible refine LeO.ite ?_ ?_)
      | (with_reducible refine LeO.bind ?_ (fun _ => ?_))
      | exact impl_itemsFrom.mono _ _ _ _
      | exact LeO.none _
      | refine LeO.ite ?_ ?_
      | refine LeO.bind ?_ (fun _ => ?_)
set_option maxHeartbeats 8000000 in
set_option maxRecDepth 100000 in
theorem impl_All.calls (k : Nat) (a0_0 : Int) (A0_1 : Option Addr) (c0_1 : Nat) (l0_1 : List (S77)) (r : List (S68)) (w : World) (hr0_1 : Kd.C k77 w A0_1 l0_1.length l0_1) (hc0_1 : l0_1.length ≤ c0_1) (h : impl_All.f k a0_0 l0_1 = some r) :
    Calls Try.prog 56 #[.agg #[.int .i64 a0_0, .slice A0_1 l0_1.length c0_1]] w fun e w' => ∃ v0_ : Value, e = .returned (v0_) ∧ Kd.R k68 68 w' w.heap.size (fun _ => True) v0_ r ∧ Below w.heap.size w w' := by
  have hu36 := Try.underlying36
  have HR0_1 := Aside0.mk hr0_1
  have HC0_1 := Aside0.mk hc0_1
  clear hr0_1 hc0_1
  have HB := Aside0.mk (Below.refl w.heap.size w)
  have H : ((impl_itemsFrom.f k a0_0 l0_1 a0_0).bind fun t483 => (some t483)) = some r := h
  clear h
  replace H := Option.bind_eq_some_iff.mp H
  obtain ⟨t483, A20, H⟩ := H
  replace H : (some t483) = some r := H
  have A2 := Aside0.mk A20
  clear A20
  obtain rfl := Option.some.inj H
  go_enter Try.func56, Try.ntmps56
  go_wp2_with (first | ((with_reducible refine gate_dst (N := 1) rfl ?_); refine box_event ?hg (N := 1) ?hd (cs := #[.int .i64 a0_0, .slice A0_1 l0_1.length c0_1]) (t := 36) ?hr ?_; (case hd => rfl); (case hg => rfl); (case hr => first | (go_simp; done) | (go_simp; rfl)); intro gb482 hg w3 hbox hb; have n0_ := Aside0.mk (below_step (by repeat (first | (with_reducible first | exact HB.out | apply below_alloc | apply pw_below_drewN | apply below_drew1) | exact HB.out)) hb); have n1_ := Aside0.mk (hbox); have n2_ := Aside0.mk ((by rw [hg]; exact (below_size (by repeat (first | (with_reducible first | exact HB.out | apply below_alloc | apply pw_below_drewN | apply below_drew1) | exact HB.out))) : w.heap.size ≤ gb482)); have n3_ := Aside0.mk ((by rw [hg]; exact (below_size (by repeat (first | (with_reducible first | exact HB.out | apply below_alloc | apply pw_below_drewN | apply below_drew1) | exact HB.out))) : w.heap.size ≤ gb482)); clear HB; have HB := n0_; have BK482 := n1_; have GW482 := n2_; have GE482 := n3_; clear n0_ n1_ n2_ n3_; clear hb hbox hg; have hcz4_0 : w3.cell? ⟨gb482, 0, none⟩ = some (.int .i64 a0_0) := (blk_cell BK482.out 0).trans rfl; have hcz4_1 : w3.cell? ⟨gb482, 1, none⟩ = some (.slice A0_1 l0_1.length c0_1) := (blk_cell BK482.out 1).trans rfl; have hfz4_0 := blk_frozen BK482.out 0; have hfz4_1 := blk_frozen BK482.out 1) | ((with_reducible refine gate_callee (f := 80) rfl ?_); refine goesL_ (some 6) rfl rfl Try.func80 (by kernel_rfl) rfl #[.agg #[.int .i64 a0_0, .slice A0_1 l0_1.length c0_1], .int .i64 a0_0] rfl (by (try simp only [List.map_toArray, List.map_cons, List.map_nil]); first | done | rfl | (simp only [List.length_drop, List.length_take]; rfl)) ?_; (with_reducible refine (impl_itemsFrom.calls k a0_0 _ _ l0_1 a0_0 t483 _ ?side1 ?side2 A2.out).mono ?_); (case side1 => repeat (first | exact (Kd.C_below HR0_1.out HB.out) | (with_reducible refine Kd.C_alloc ?_ _) | (with_reducible refine Kd.C_drewN ?_ _) | (with_reducible refine Kd.C_drew ?_))); (case side2 => exact HC0_1.out); rintro e w5 ⟨v484, rfl, ho0, hb⟩; refine ⟨_, rfl, ?_⟩; have n0_ := Aside0.mk (Kd.R_lower ho0 (below_size (by repeat (first | (with_reducible first | exact HB.out | apply below_alloc | apply pw_below_drewN | apply below_drew1 | refine below_set ?_ GE482.out) | exact HB.out)))); have n1_ := Aside0.mk (blk_below (g := gb482) (o := .cells #[.int .i64 a0_0, .slice A0_1 l0_1.length c0_1] 36 (0, 0)) (by (with_reducible repeat (first | refine blk_drewN ?_ _ | refine blk_drew ?_ | refine blk_alloc ?_ _)); exact BK482.out) hb); have n2_ := Aside0.mk (below_step (by repeat (first | (with_reducible first | exact HB.out | apply below_alloc | apply pw_below_drewN | apply below_drew1 | refine below_set ?_ GE482.out) | exact HB.out)) hb); clear BK482; clear HB; have HO485 := n0_; have BK482 := n1_; have HB := n2_; clear n0_ n1_ n2_; (try clear hb); (try clear hb2); (try clear hk); (try clear hi); (try clear ho0)))
  go_ret
  exact ⟨_, by first | rfl | (simp [errW_none, errW_some] <;> rfl) | (simp [*, errW_none, errW_some] <;> rfl), by (with_reducible repeat (first | apply Kd.R_alloc | apply Kd.R_drewN | apply Kd.R_drew)); exact HO485.out, by repeat (first | (with_reducible first | exact HB.out | apply below_alloc | apply pw_below_drewN | apply below_drew1 | refine below_set ?_ GE482.out) | exact HB.out)⟩

end Go.Proofs.Ythenmlaleobapaa.All

namespace Go.Proofs.Ythenmlaleobapaa.All
open Go.RowKit Go.Proofs.YthenmlaleobapaaW.PrintWords Go.Proofs.YthenmlaleobapaaW.PrintLast Go.Proofs.YthenmlaleobapaaW.PrintMore
attribute [local go_sem] max2_int min2_int max_two min_two max_three min_three max_four min_four   -- for this text's walks alone
set_option linter.unusedVariables false
set_option linter.unusedSimpArgs false

/-! ### laws_eqItem: function 62 -/
def laws_eqItem.f (a0_0 : Int) (a0_1 : Int) (a0_2 : Int) (a0_3 : Int) (a0_4 : Int) (a1_0 : Int) (a1_1 : Int) (a1_2 : Int) (a1_3 : Int) (a1_4 : Int) : Option (Bool) := if a0_0 = a1_0 then ((laws_eqBox.f a0_1 a0_2 a0_3 a0_4 a1_1 a1_2 a1_3 a1_4).bind fun t524 => (if t524 = true then (some true) else (some false))) else (some false)
set_option maxHeartbeats 8000000 in
set_option maxRecDepth 100000 in
theorem laws_eqItem.calls (a0_0 : Int) (a0_1 : Int) (a0_2 : Int) (a0_3 : Int) (a0_4 : Int) (a1_0 : Int) (a1_1 : Int) (a1_2 : Int) (a1_3 : Int) (a1_4 : Int) (r : Bool) (w : World) (h : laws_eqItem.f a0_0 a0_1 a0_2 a0_3 a0_4 a1_0 a1_1 a1_2 a1_3 a1_4 = some r) :
    Calls Try.prog 62 #[.agg #[.int .i64 a0_0, .int .i64 a0_1, .int .i64 a0_2, .int .i64 a0_3, .int .i64 a0_4], .agg #[.int .i64 a1_0, .int .i64 a1_1, .int .i64 a1_2, .int .i64 a1_3, .int .i64 a1_4]] w fun e w' => e = .returned (.bool r) ∧ Below w.heap.size w w' := by
  have hu68 := Try.underlying68
  have hu60 := Try.underlying60
  have HB := Aside0.mk (Below.refl w.heap.size w)
  have H : (if a0_0 = a1_0 then ((laws_eqBox.f a0_1 a0_2 a0_3 a0_4 a1_1 a1_2 a1_3 a1_4).bind fun t524 => (if t524 = true then (some true) else (some false))) else (some false)) = some r := h
  clear h
  by_cases c3 : a0_0 = a1_0
  · rw [if_pos c3] at H
    have c3b0 : (a0_0 == a1_0) = true := beq_iff_eq.mpr c3
    have c3b1 : (a0_0 != a1_0) = false := bne_eq_false_iff_eq.mpr c3
    clear c3
    replace H := Option.bind_eq_some_iff.mp H
    obtain ⟨t524, A40, H⟩ := H
    replace H : (if t524 = true then (some true) else (some false)) = some r := H
    have A4 := Aside0.mk A40
    clear A40
    by_cases c5 : t524 = true
    · subst c5
      have H1 : (some true) = some r := by rw [if_pos rfl] at H; exact H
      clear H
      have H := H1
      clear H1
      obtain rfl := Option.some.inj H
      go_enter Try.func62, Try.ntmps62
      go_wp2_with (first | ((with_reducible refine gate_dst (N := 2) rfl ?_); refine box_event ?hg (N := 2) ?hd (cs := #[.int .i64 a0_0, .int .i64 a0_1, .int .i64 a0_2, .int .i64 a0_3, .int .i64 a0_4]) (t := 68) ?hr ?_; (case hd => rfl); (case hg => rfl); (case hr => first | (go_simp; done) | (go_simp; rfl)); intro gb522 hg w6 hbox hb; have n0_ := Aside0.mk (below_step (by repeat (first | (with_reducible first | exact HB.out | apply below_alloc | apply pw_below_drewN | apply below_drew1) | exact HB.out)) hb); have n1_ := Aside0.mk (hbox); have n2_ := Aside0.mk ((by rw [hg]; exact (below_size (by repeat (first | (with_reducible first | exact HB.out | apply below_alloc | apply pw_below_drewN | apply below_drew1) | exact HB.out))) : w.heap.size ≤ gb522)); have n3_ := Aside0.mk ((by rw [hg]; exact (below_size (by repeat (first | (with_reducible first | exact HB.out | apply below_alloc | apply pw_below_drewN | apply below_drew1) | exact HB.out))) : w.heap.size ≤ gb522)); clear HB; have HB := n0_; have BK522 := n1_; have GW522 := n2_; have GE522 := n3_; clear n0_ n1_ n2_ n3_; clear hb hbox hg) | ((with_reducible refine gate_dst (N := 3) rfl ?_); refine box_event ?hg (N := 3) ?hd (cs := #[.int .i64 a1_0, .int .i64 a1_1, .int .i64 a1_2, .int .i64 a1_3, .int .i64 a1_4]) (t := 68) ?hr ?_; (case hd => rfl); (case hg => rfl); (case hr => first | (go_simp; done) | (go_simp; rfl)); intro gb523 hg w7 hbox hb; have n0_ := Aside0.mk (blk_below (g := gb522) (o := .cells #[.int .i64 a0_0, .int .i64 a0_1, .int .i64 a0_2, .int .i64 a0_3, .int .i64 a0_4] 68 (0, 0)) (by (with_reducible repeat (first | refine blk_drewN ?_ _ | refine blk_drew ?_ | refine blk_alloc ?_ _)); exact BK522.out) hb); have n1_ := Aside0.mk (below_step (by repeat (first | (with_reducible first | exact HB.out | apply below_alloc | apply pw_below_drewN | apply below_drew1 | refine below_set ?_ GE522.out) | exact HB.out)) hb); have n2_ := Aside0.mk (hbox); have n3_ := Aside0.mk ((by rw [hg]; exact (below_size (by repeat (first | (with_reducible first | exact HB.out | apply below_alloc | apply pw_below_drewN | apply below_drew1 | refine below_set ?_ GE522.out) | exact HB.out))) : w.heap.size ≤ gb523)); have n4_ := Aside0.mk ((by rw [hg]; exact (below_size (by repeat (first | (with_reducible first | exact HB.out | apply below_alloc | apply pw_below_drewN | apply below_drew1 | refine below_set ?_ GE522.out) | exact HB.out))) : w.heap.size ≤ gb523)); have n5_ := Aside0.mk ((by rw [hg]; exact Nat.ne_of_lt (blk_lt (g := gb522) (o := .cells #[.int .i64 a0_0, .int .i64 a0_1, .int .i64 a0_2, .int .i64 a0_3, .int .i64 a0_4] 68 (0, 0)) (by (with_reducible repeat (first | refine blk_drewN ?_ _ | refine blk_drew ?_ | refine blk_alloc ?_ _)); exact BK522.out)) : gb522 ≠ gb523)); have n6_ := Aside0.mk ((by rw [hg]; exact Nat.ne_of_gt (blk_lt (g := gb522) (o := .cells #[.int .i64 a0_0, .int .i64 a0_1, .int .i64 a0_2, .int .i64 a0_3, .int .i64 a0_4] 68 (0, 0)) (by (with_reducible repeat (first | refine blk_drewN ?_ _ | refine blk_drew ?_ | refine blk_alloc ?_ _)); exact BK522.out)) : gb523 ≠ gb522)); clear BK522; clear HB; have BK522 := n0_; have HB := n1_; have BK523 := n2_; have GW523 := n3_; have GE523 := n4_; have NB522_523 := n5_; have NB523_522 := n6_; clear n0_ n1_ n2_ n3_ n4_ n5_ n6_; clear hb hbox hg; have hnb8 := NB522_523.out; have hnc8 := NB523_522.out; have hcz9_0 : w7.cell? ⟨gb522, 0, none⟩ = some (.int .i64 a0_0) := (blk_cell BK522.out 0).trans rfl; have hcz9_1 : w7.cell? ⟨gb522, 1, none⟩ = some (.int .i64 a0_1) := (blk_cell BK522.out 1).trans rfl; have hcz9_2 : w7.cell? ⟨gb522, 2, none⟩ = some (.int .i64 a0_2) := (blk_cell BK522.out 2).trans rfl; have hcz9_3 : w7.cell? ⟨gb522, 3, none⟩ = some (.int .i64 a0_3) := (blk_cell BK522.out 3).trans rfl; have hcz9_4 : w7.cell? ⟨gb522, 4, none⟩ = some (.int .i64 a0_4) := (blk_cell BK522.out 4).trans rfl; have hfz9_0 := blk_frozen BK522.out 0; have hfz9_1 := blk_frozen BK522.out 1; have hfz9_2 := blk_frozen BK522.out 2; have hfz9_3 := blk_frozen BK522.out 3; have hfz9_4 := blk_frozen BK522.out 4; have hcz10_0 : w7.cell? ⟨gb523, 0, none⟩ = some (.int .i64 a1_0) := (blk_cell BK523.out 0).trans rfl; have hcz10_1 : w7.cell? ⟨gb523, 1, none⟩ = some (.int .i64 a1_1) := (blk_cell BK523.out 1).trans rfl; have hcz10_2 : w7.cell? ⟨gb523, 2, none⟩ = some (.int .i64 a1_2) := (blk_cell BK523.out 2).trans rfl; have hcz10_3 : w7.cell? ⟨gb523, 3, none⟩ = some (.int .i64 a1_3) := (blk_cell BK523.out 3).trans rfl; have hcz10_4 : w7.cell? ⟨gb523, 4, none⟩ = some (.int .i64 a1_4) := (blk_cell BK523.out 4).trans rfl; have hfz10_0 := blk_frozen BK523.out 0; have hfz10_1 := blk_frozen BK523.out 1; have hfz10_2 := blk_frozen BK523.out 2; have hfz10_3 := blk_frozen BK523.out 3; have hfz10_4 := blk_frozen BK523.out 4) | ((with_reducible refine gate_callee (f := 54) rfl ?_); refine goesL_ (some 14) rfl rfl Try.func54 (by kernel_rfl) rfl #[.agg #[.int .i64 a0_1, .int .i64 a0_2, .int .i64 a0_3, .int .i64 a0_4], .agg #[.int .i64 a1_1, .int .i64 a1_2, .int .i64 a1_3, .int .i64 a1_4]] rfl (by (try simp only [List.map_toArray, List.map_cons, List.map_nil]); first | done | rfl | (simp only [List.length_drop, List.length_take]; rfl)) ?_; (with_reducible refine (laws_eqBox.calls a0_1 a0_2 a0_3 a0_4 a1_1 a1_2 a1_3 a1_4 true _ A4.out).mono ?_); rintro e w11 ⟨rfl, hb⟩; refine ⟨_, rfl, ?_⟩; have n0_ := Aside0.mk (blk_below (g := gb522) (o := .cells #[.int .i64 a0_0, .int .i64 a0_1, .int .i64 a0_2, .int .i64 a0_3, .int .i64 a0_4] 68 (0, 0)) (by (with_reducible repeat (first | refine blk_drewN ?_ _ | refine blk_drew ?_ | refine blk_alloc ?_ _)); exact BK522.out) hb); have n1_ := Aside0.mk (blk_below (g := gb523) (o := .cells #[.int .i64 a1_0, .int .i64 a1_1, .int .i64 a1_2, .int .i64 a1_3, .int .i64 a1_4] 68 (0, 0)) (by (with_reducible repeat (first | refine blk_drewN ?_ _ | refine blk_drew ?_ | refine blk_alloc ?_ _)); exact BK523.out) hb); have n2_ := Aside0.mk (below_step (by repeat (first | (with_reducible first | exact HB.out | apply below_alloc | apply pw_below_drewN | apply below_drew1 | refine below_set ?_ GE522.out | refine below_set ?_ GE523.out) | exact HB.out)) hb); clear BK522; clear BK523; clear HB; have BK522 := n0_; have BK523 := n1_; have HB := n2_; clear n0_ n1_ n2_; (try clear hb); (try clear hb2); (try clear hk); (try clear hi)))
      go_ret
      exact ⟨by first | rfl | (simp [errW_none, errW_some] <;> rfl) | (simp [*, errW_none, errW_some] <;> rfl), by repeat (first | (with_reducible first | exact HB.out | apply below_alloc | apply pw_below_drewN | apply below_drew1 | refine below_set ?_ GE522.out | refine below_set ?_ GE523.out) | exact HB.out)⟩
    · replace c5 := Bool.eq_false_iff.mpr c5
      subst c5
      have H1 : (some false) = some r := by rw [if_neg (show ¬ (false = true) by decide)] at H; exact H
      clear H
      have H := H1
      clear H1
      obtain rfl := Option.some.inj H
      go_enter Try.func62, Try.ntmps62
      go_wp2_with (first | ((with_reducible refine gate_dst (N := 2) rfl ?_); refine box_event ?hg (N := 2) ?hd (cs := #[.int .i64 a0_0, .int .i64 a0_1, .int .i64 a0_2, .int .i64 a0_3, .int .i64 a0_4]) (t := 68) ?hr ?_; (case hd => rfl); (case hg => rfl); (case hr => first | (go_simp; done) | (go_simp; rfl)); intro gb522 hg w12 hbox hb; have n0_ := Aside0.mk (below_step (by repeat (first | (with_reducible first | exact HB.out | apply below_alloc | apply pw_below_drewN | apply below_drew1) | exact HB.out)) hb); have n1_ := Aside0.mk (hbox); have n2_ := Aside0.mk ((by rw [hg]; exact (below_size (by repeat (first | (with_reducible first | exact HB.out | apply below_alloc | apply pw_below_drewN | apply below_drew1) | exact HB.out))) : w.heap.size ≤ gb522)); have n3_ := Aside0.mk ((by rw [hg]; exact (below_size (by repeat (first | (with_reducible first | exact HB.out | apply below_alloc | apply pw_below_drewN | apply below_drew1) | exact HB.out))) : w.heap.size ≤ gb522)); clear HB; have HB := n0_; have BK522 := n1_; have GW522 := n2_; have GE522 := n3_; clear n0_ n1_ n2_ n3_; clear hb hbox hg) | ((with_reducible refine gate_dst (N := 3) rfl ?_); refine box_event ?hg (N := 3) ?hd (cs := #[.int .i64 a1_0, .int .i64 a1_1, .int .i64 a1_2, .int .i64 a1_3, .int .i64 a1_4]) (t := 68) ?hr ?_; (case hd => rfl); (case hg => rfl); (case hr => first | (go_simp; done) | (go_simp; rfl)); intro gb523 hg w13 hbox hb; have n0_ := Aside0.mk (blk_below (g := gb522) (o := .cells #[.int .i64 a0_0, .int .i64 a0_1, .int .i64 a0_2, .int .i64 a0_3, .int .i64 a0_4] 68 (0, 0)) (by (with_reducible repeat (first | refine blk_drewN ?_ _ | refine blk_drew ?_ | refine blk_alloc ?_ _)); exact BK522.out) hb); have n1_ := Aside0.mk (below_step (by repeat (first | (with_reducible first | exact HB.out | apply below_alloc | apply pw_below_drewN | apply below_drew1 | refine below_set ?_ GE522.out) | exact HB.out)) hb); have n2_ := Aside0.mk (hbox); have n3_ := Aside0.mk ((by rw [hg]; exact (below_size (by repeat (first | (with_reducible first | exact HB.out | apply below_alloc | apply pw_below_drewN | apply below_drew1 | refine below_set ?_ GE522.out) | exact HB.out))) : w.heap.size ≤ gb523)); have n4_ := Aside0.mk ((by rw [hg]; exact (below_size (by repeat (first | (with_reducible first | exact HB.out | apply below_alloc | apply pw_below_drewN | apply below_drew1 | refine below_set ?_ GE522.out) | exact HB.out))) : w.heap.size ≤ gb523)); have n5_ := Aside0.mk ((by rw [hg]; exact Nat.ne_of_lt (blk_lt (g := gb522) (o := .cells #[.int .i64 a0_0, .int .i64 a0_1, .int .i64 a0_2, .int .i64 a0_3, .int .i64 a0_4] 68 (0, 0)) (by (with_reducible repeat (first | refine blk_drewN ?_ _ | refine blk_drew ?_ | refine blk_alloc ?_ _)); exact BK522.out)) : gb522 ≠ gb523)); have n6_ := Aside0.mk ((by rw [hg]; exact Nat.ne_of_gt (blk_lt (g := gb522) (o := .cells #[.int .i64 a0_0, .int .i64 a0_1, .int .i64 a0_2, .int .i64 a0_3, .int .i64 a0_4] 68 (0, 0)) (by (with_reducible repeat (first | refine blk_drewN ?_ _ | refine blk_drew ?_ | refine blk_alloc ?_ _)); exact BK522.out)) : gb523 ≠ gb522)); clear BK522; clear HB; have BK522 := n0_; have HB := n1_; have BK523 := n2_; have GW523 := n3_; have GE523 := n4_; have NB522_523 := n5_; have NB523_522 := n6_; clear n0_ n1_ n2_ n3_ n4_ n5_ n6_; clear hb hbox hg; have hnb14 := NB522_523.out; have hnc14 := NB523_522.out; have hcz15_0 : w13.cell? ⟨gb522, 0, none⟩ = some (.int .i64 a0_0) := (blk_cell BK522.out 0).trans rfl; have hcz15_1 : w13.cell? ⟨gb522, 1, none⟩ = some (.int .i64 a0_1) := (blk_cell BK522.out 1).trans rfl; have hcz15_2 : w13.cell? ⟨gb522, 2, none⟩ = some (.int .i64 a0_2) := (blk_cell BK522.out 2).trans rfl; have hcz15_3 : w13.cell? ⟨gb522, 3, none⟩ = some (.int .i64 a0_3) := (blk_cell BK522.out 3).trans rfl; have hcz15_4 : w13.cell? ⟨gb522, 4, none⟩ = some (.int .i64 a0_4) := (blk_cell BK522.out 4).trans rfl; have hfz15_0 := blk_frozen BK522.out 0; have hfz15_1 := blk_frozen BK522.out 1; have hfz15_2 := blk_frozen BK522.out 2; have hfz15_3 := blk_frozen BK522.out 3; have hfz15_4 := blk_frozen BK522.out 4; have hcz16_0 : w13.cell? ⟨gb523, 0, none⟩ = some (.int .i64 a1_0) := (blk_cell BK523.out 0).trans rfl; have hcz16_1 : w13.cell? ⟨gb523, 1, none⟩ = some (.int .i64 a1_1) := (blk_cell BK523.out 1).trans rfl; have hcz16_2 : w13.cell? ⟨gb523, 2, none⟩ = some (.int .i64 a1_2) := (blk_cell BK523.out 2).trans rfl; have hcz16_3 : w13.cell? ⟨gb523, 3, none⟩ = some (.int .i64 a1_3) := (blk_cell BK523.out 3).trans rfl; have hcz16_4 : w13.cell? ⟨gb523, 4, none⟩ = some (.int .i64 a1_4) := (blk_cell BK523.out 4).trans rfl; have hfz16_0 := blk_frozen BK523.out 0; have hfz16_1 := blk_frozen BK523.out 1; have hfz16_2 := blk_frozen BK523.out 2; have hfz16_3 := blk_frozen BK523.out 3; have hfz16_4 := blk_frozen BK523.out 4) | ((with_reducible refine gate_callee (f := 54) rfl ?_); refine goesL_ (some 14) rfl rfl Try.func54 (by kernel_rfl) rfl #[.agg #[.int .i64 a0_1, .int .i64 a0_2, .int .i64 a0_3, .int .i64 a0_4], .agg #[.int .i64 a1_1, .int .i64 a1_2, .int .i64 a1_3, .int .i64 a1_4]] rfl (by (try simp only [List.map_toArray, List.map_cons, List.map_nil]); first | done | rfl | (simp only [List.length_drop, List.length_take]; rfl)) ?_; (with_reducible refine (laws_eqBox.calls a0_1 a0_2 a0_3 a0_4 a1_1 a1_2 a1_3 a1_4 false _ A4.out).mono ?_); rintro e w17 ⟨rfl, hb⟩; refine ⟨_, rfl, ?_⟩; have n0_ := Aside0.mk (blk_below (g := gb522) (o := .cells #[.int .i64 a0_0, .int .i64 a0_1, .int .i64 a0_2, .int .i64 a0_3, .int .i64 a0_4] 68 (0, 0)) (by (with_reducible repeat (first | refine blk_drewN ?_ _ | refine blk_drew ?_ | refine blk_alloc ?_ _)); exact BK522.out) hb); have n1_ := Aside0.mk (blk_below (g := gb523) (o := .cells #[.int .i64 a1_0, .int .i64 a1_1, .int .i64 a1_2, .int .i64 a1_3, .int .i64 a1_4] 68 (0, 0)) (by (with_reducible repeat (first | refine blk_drewN ?_ _ | refine blk_drew ?_ | refine blk_alloc ?_ _)); exact BK523.out) hb); have n2_ := Aside0.mk (below_step (by repeat (first | (with_reducible first | exact HB.out | apply below_alloc | apply pw_below_drewN | apply below_drew1 | refine below_set ?_ GE522.out | refine below_set ?_ GE523.out) | exact HB.out)) hb); clear BK522; clear BK523; clear HB; have BK522 := n0_; have BK523 := n1_; have HB := n2_; clear n0_ n1_ n2_; (try clear hb); (try clear hb2); (try clear hk); (try clear hi)))
      go_ret
      exact ⟨by first | rfl | (simp [errW_none, errW_some] <;> rfl) | (simp [*, errW_none, errW_some] <;> rfl), by repeat (first | (with_reducible first | exact HB.out | apply below_alloc | apply pw_below_drewN | apply below_drew1 | refine below_set ?_ GE522.out | refine below_set ?_ GE523.out) | exact HB.out)⟩
  · rw [if_neg c3] at H
    have c3b0 : (a0_0 == a1_0) = false := beq_eq_false_iff_ne.mpr c3
    have c3b1 : (a0_0 != a1_0) = true := bne_iff_ne.mpr c3
    obtain rfl := Option.some.inj H
    go_enter Try.func62, Try.ntmps62
    go_wp2_with (first | ((with_reducible refine gate_dst (N := 2) rfl ?_); refine box_event ?hg (N := 2) ?hd (cs := #[.int .i64 a0_0, .int .i64 a0_1, .int .i64 a0_2, .int .i64 a0_3, .int .i64 a0_4]) (t := 68) ?hr ?_; (case hd => rfl); (case hg => rfl); (case hr => first | (go_simp; done) | (go_simp; rfl)); intro gb522 hg w18 hbox hb; have n0_ := Aside0.mk (below_step (by repeat (first | (with_reducible first | exact HB.out | apply below_alloc | apply pw_below_drewN | apply below_drew1) | exact HB.out)) hb); have n1_ := Aside0.mk (hbox); have n2_ := Aside0.mk ((by rw [hg]; exact (below_size (by repeat (first | (with_reducible first | exact HB.out | apply below_alloc | apply pw_below_drewN | apply below_drew1) | exact HB.out))) : w.heap.size ≤ gb522)); have n3_ := Aside0.mk ((by rw [hg]; exact (below_size (by repeat (first | (with_reducible first | exact HB.out | apply below_alloc | apply pw_below_drewN | apply below_drew1) | exact HB.out))) : w.heap.size ≤ gb522)); clear HB; have HB := n0_; have BK522 := n1_; have GW522 := n2_; have GE522 := n3_; clear n0_ n1_ n2_ n3_; clear hb hbox hg) | ((with_reducible refine gate_dst (N := 3) rfl ?_); refine box_event ?hg (N := 3) ?hd (cs := #[.int .i64 a1_0, .int .i64 a1_1, .int .i64 a1_2, .int .i64 a1_3, .int .i64 a1_4]) (t := 68) ?hr ?_; (case hd => rfl); (case hg => rfl); (case hr => first | (go_simp; done) | (go_simp; rfl)); intro gb523 hg w19 hbox hb; have n0_ := Aside0.mk (blk_below (g := gb522) (o := .cells #[.int .i64 a0_0, .int .i64 a0_1, .int .i64 a0_2, .int .i64 a0_3, .int .i64 a0_4] 68 (0, 0)) (by (with_reducible repeat (first | refine blk_drewN ?_ _ | refine blk_drew ?_ | refine blk_alloc ?_ _)); exact BK522.out) hb); have n1_ := Aside0.mk (below_step (by repeat (first | (with_reducible first | exact HB.out | apply below_alloc | apply pw_below_drewN | apply below_drew1 | refine below_set ?_ GE522.out) | exact HB.out)) hb); have n2_ := Aside0.mk (hbox); have n3_ := Aside0.mk ((by rw [hg]; exact (below_size (by repeat (first | (with_reducible first | exact HB.out | apply below_alloc | apply pw_below_drewN | apply below_drew1 | refine below_set ?_ GE522.out) | exact HB.out))) : w.heap.size ≤ gb523)); have n4_ := Aside0.mk ((by rw [hg]; exact (below_size (by repeat (first | (with_reducible first | exact HB.out | apply below_alloc | apply pw_below_drewN | apply below_drew1 | refine below_set ?_ GE522.out) | exact HB.out))) : w.heap.size ≤ gb523)); have n5_ := Aside0.mk ((by rw [hg]; exact Nat.ne_of_lt (blk_lt (g := gb522) (o := .cells #[.int .i64 a0_0, .int .i64 a0_1, .int .i64 a0_2, .int .i64 a0_3, .int .i64 a0_4] 68 (0, 0)) (by (with_reducible repeat (first | refine blk_drewN ?_ _ | refine blk_drew ?_ | refine blk_alloc ?_ _)); exact BK522.out)) : gb522 ≠ gb523)); have n6_ := Aside0.mk ((by rw [hg]; exact Nat.ne_of_gt (blk_lt (g := gb522) (o := .cells #[.int .i64 a0_0, .int .i64 a0_1, .int .i64 a0_2, .int .i64 a0_3, .int .i64 a0_4] 68 (0, 0)) (by (with_reducible repeat (first | refine blk_drewN ?_ _ | refine blk_drew ?_ | refine blk_alloc ?_ _)); exact BK522.out)) : gb523 ≠ gb522)); clear BK522; clear HB; have BK522 := n0_; have HB := n1_; have BK523 := n2_; have GW523 := n3_; have GE523 := n4_; have NB522_523 := n5_; have NB523_522 := n6_; clear n0_ n1_ n2_ n3_ n4_ n5_ n6_; clear hb hbox hg; have hnb20 := NB522_523.out; have hnc20 := NB523_522.out; have hcz21_0 : w19.cell? ⟨gb522, 0, none⟩ = some (.int .i64 a0_0) := (blk_cell BK522.out 0).trans rfl; have hcz21_1 : w19.cell? ⟨gb522, 1, none⟩ = some (.int .i64 a0_1) := (blk_cell BK522.out 1).trans rfl; have hcz21_2 : w19.cell? ⟨gb522, 2, none⟩ = some (.int .i64 a0_2) := (blk_cell BK522.out 2).trans rfl; have hcz21_3 : w19.cell? ⟨gb522, 3, none⟩ = some (.int .i64 a0_3) := (blk_cell BK522.out 3).trans rfl; have hcz21_4 : w19.cell? ⟨gb522, 4, none⟩ = some (.int .i64 a0_4) := (blk_cell BK522.out 4).trans rfl; have hfz21_0 := blk_frozen BK522.out 0; have hfz21_1 := blk_frozen BK522.out 1; have hfz21_2 := blk_frozen BK522.out 2; have hfz21_3 := blk_frozen BK522.out 3; have hfz21_4 := blk_frozen BK522.out 4; have hcz22_0 : w19.cell? ⟨gb523, 0, none⟩ = some (.int .i64 a1_0) := (blk_cell BK523.out 0).trans rfl; have hcz22_1 : w19.cell? ⟨gb523, 1, none⟩ = some (.int .i64 a1_1) := (blk_cell BK523.out 1).trans rfl; have hcz22_2 : w19.cell? ⟨gb523, 2, none⟩ = some (.int .i64 a1_2) := (blk_cell BK523.out 2).trans rfl; have hcz22_3 : w19.cell? ⟨gb523, 3, none⟩ = some (.int .i64 a1_3) := (blk_cell BK523.out 3).trans rfl; have hcz22_4 : w19.cell? ⟨gb523, 4, none⟩ = some (.int .i64 a1_4) := (blk_cell BK523.out 4).trans rfl; have hfz22_0 := blk_frozen BK523.out 0; have hfz22_1 := blk_frozen BK523.out 1; have hfz22_2 := blk_frozen BK523.out 2; have hfz22_3 := blk_frozen BK523.out 3; have hfz22_4 := blk_frozen BK523.out 4))
    go_ret
    exact ⟨by first | rfl | (simp [errW_none, errW_some] <;> rfl) | (simp [*, errW_none, errW_some] <;> rfl), by repeat (first | (with_reducible first | exact HB.out | apply below_alloc | apply pw_below_drewN | apply below_drew1 | refine below_set ?_ GE522.out | refine below_set ?_ GE523.out) | exact HB.out)⟩

end Go.Proofs.Ythenmlaleobapaa.All

namespace Go.Proofs.Ythenmlaleobapaa.All
open Go.RowKit Go.Proofs.YthenmlaleobapaaW.PrintWords Go.Proofs.YthenmlaleobapaaW.PrintLast Go.Proofs.YthenmlaleobapaaW.PrintMore
attribute [local go_sem] max2_int min2_int max_two min_two max_three min_three max_four min_four   -- for this text's walks alone
set_option linter.unusedVariables false
set_option linter.unusedSimpArgs false

/-! ### laws_eqItemS: function 19 -/
def laws_eqItemS.l0 : Nat → List (S68) → List (S68) → Int → Option (Bool)
  | 0, _, _, _ => none
  | k + 1, x0, x1, x5 => if x5 < (x0.length : Int) then (if 0 ≤ x5 then (if x5 < (x1.length : Int) then ((laws_eqItem.f ((rd_T68 x0 x5).f0) ((rd_T68 x0 x5).f1.f0) ((rd_T68 x0 x5).f1.f1) ((rd_T68 x0 x5).f1.f2) ((rd_T68 x0 x5).f1.f3) ((rd_T68 x1 x5).f0) ((rd_T68 x1 x5).f1.f0) ((rd_T68 x1 x5).f1.f1) ((rd_T68 x1 x5).f1.f2) ((rd_T68 x1 x5).f1.f3)).bind fun t527 => (if t527 = true then (laws_eqItemS.l0 k x0 x1 (wrap64 (x5 + 1))) else (some false))) else (none)) else (none)) else (some true)
def laws_eqItemS.f (k : Nat) (l0 : List (S68)) (l1 : List (S68)) : Option (Bool) := if (l0.length : Int) = (l1.length : Int) then (laws_eqItemS.l0 k l0 l1 0) else (some false)
theorem laws_eqItemS.mono_l : ∀ k, (∀ y0 y1 y2, LeO (laws_eqItemS.l0 k y0 y1 y2) (laws_eqItemS.l0 (k + 1) y0 y1 y2))
  | 0 => fun _ _ _ r h => by simp [laws_eqItemS.l0] at h
  | k + 1 => by
    have ih0 := laws_eqItemS.mono_l k
    · intro y0 y1 y2
      unfold laws_eqItemS.l0
      repeat' first
      | (with_reducible exact ih0 _ _ _)
      | (with_reducible exact LeO.refl _)
      | (with_reducible exact LeO.none _)
      | (with_reducible refine LeO.ite ?_ ?_)
      | (with_reducible refine LeO.bind ?_ (fun _ => ?_))
      | exact ih0 _ _ _
      | exact LeO.none _
      | refine LeO.ite ?_ ?_
      | refine LeO.bind ?_ (fun _ => ?_)
theorem laws_eqItemS.mono : ∀ a0 a1 k, LeO (laws_eqItemS.f k a0 a1) (laws_eqItemS.f (k + 1) a0 a1) := by
  intro a0 a1 k
  have ih0 := laws_eqItemS.mono_l k
  unfold laws_eqItemS.f
  repeat' first
      | (with_reducible exact ih0 _ _ _)
      | (with_reducible exact LeO.refl _)
      | (with_reducible exact LeO.none _)
      | (with_reducible refine LeO.ite ?_ ?_)
      | (with_reducible refine LeO.bind ?_ (fun _ => ?_))
      | exact ih0 _ _ _
      | exact LeO.none _
      | refine LeO.ite ?_ ?_
      | refine LeO.bind ?_ (fun _ => ?_)
def laws_eqItemS.T6 : Bool × List (List Nat × List Nat) := (true, [([], []), ([], []), ([0, 1], [0, 1]), ([2], [2]), ([], []), ([], []), ([4, 5], [4, 5]), ([6], [6]), ([3, 7], [3, 7]), ([8], [8])])
def laws_eqItemS.B6 : List Nat := [0, 0, 3, 7, 0, 0, 48, 112, 255, 511]
theorem laws_eqItemS.tab6 : rtab .any (opsOf Try.f19 6) = laws_eqItemS.T6 := by kernel_rfl
theorem laws_eqItemS.bits6 : waitsOk laws_eqItemS.T6.2 laws_eqItemS.B6 = true := by kernel_rfl
set_option maxHeartbeats 8000000 in
set_option maxRecDepth 100000 in
theorem laws_eqItemS.calls (k : Nat) (A0 : Option Addr) (c0 : Nat) (l0 : List (S68)) (A1 : Option Addr) (c1 : Nat) (l1 : List (S68)) (r : Bool) (w : World) (hr0 : Kd.C k68 w A0 l0.length l0) (hc0 : l0.length ≤ c0) (hr1 : Kd.C k68 w A1 l1.length l1) (hc1 : l1.length ≤ c1) (h : laws_eqItemS.f k l0 l1 = some r) :
    Calls Try.prog 19 #[.slice A0 l0.length c0, .slice A1 l1.length c1] w fun e w' => e = .returned (.bool r) ∧ Below w.heap.size w w' := by
  have hu68 := Try.underlying68
  have HR0 := Aside0.mk hr0
  have HC0 := Aside0.mk hc0
  clear hr0 hc0
  have HR1 := Aside0.mk hr1
  have HC1 := Aside0.mk hc1
  clear hr1 hc1
  have HB := Aside0.mk (Below.refl w.heap.size w)
  have H : (if (l0.length : Int) = (l1.length : Int) then (laws_eqItemS.l0 k l0 l1 0) else (some false)) = some r := h
  clear h
  by_cases c3 : (l0.length : Int) = (l1.length : Int)
  · rw [if_pos c3] at H
    have c3b0 : ((l0.length : Int) == (l1.length : Int)) = true := beq_iff_eq.mpr c3
    have c3b1 : ((l0.length : Int) != (l1.length : Int)) = false := bne_eq_false_iff_eq.mpr c3
    have c3b2 : (l0.length == l1.length) = true := by first | simpa using c3 | (simp at c3 ⊢; omega)
    clear c3
    have H' := Aside0.mk H
    clear H
    go_enter Try.func19, Try.ntmps19
    go_wp2
    go_loopg [5] k (fun kq v5 w' => ∃ (x5_1 : Int), v5 = .int .i64 x5_1 ∧ Aside0 (laws_eqItemS.l0 kq l0 l1 x5_1 = some r) ∧ Aside0 (kq ≤ k) ∧ Aside0 (Below w.heap.size w w'))
    case atStart => exact ⟨(0), (by first | rfl | (simp; done) | (simp [*]; done)), H', ⟨Nat.le_refl _⟩, ⟨by repeat (first | (with_reducible first | exact HB.out | apply below_alloc | apply pw_below_drewN | apply below_drew1) | exact HB.out)⟩⟩
    case round =>
      clear H'
      try clear c1
      try clear p2
      try clear c3
      try clear c3b0
      try clear c3b1
      try clear c3b2
      obtain ⟨x5_1, rfl, HA, HK1, HB⟩ := hrel
      cases gk with
      | zero => exact absurd HA.out (by simp [laws_eqItemS.l0])
      | succ k1 =>
        have H := HA.out
        clear HA
        simp only [laws_eqItemS.l0] at H
        by_cases c4 : x5_1 < (l0.length : Int)
        · rw [if_pos c4] at H
          have c4b0 : decide (x5_1 < (l0.length : Int)) = true := decide_eq_true c4
          clear c4
          by_cases c5 : 0 ≤ x5_1
          · rw [if_pos c5] at H
            have c5b0 : decide (0 ≤ x5_1) = true := decide_eq_true c5
            clear c5
            by_cases c6 : x5_1 < (l1.length : Int)
            · rw [if_pos c6] at H
              have c6b0 : decide (x5_1 < (l1.length : Int)) = true := decide_eq_true c6
              clear c6
              replace H := Option.bind_eq_some_iff.mp H
              obtain ⟨t527, A70, H⟩ := H
              replace H : (if t527 = true then (laws_eqItemS.l0 k1 l0 l1 (wrap64 (x5_1 + 1))) else (some false)) = some r := H
              have A7 := Aside0.mk A70
              clear A70
              by_cases c8 : t527 = true
              · subst c8
                have H1 : (laws_eqItemS.l0 k1 l0 l1 (wrap64 (x5_1 + 1))) = some r := by rw [if_pos rfl] at H; exact H
                clear H
                have H := H1
                clear H1
                have H' := Aside0.mk H
                clear H
                try go_wp2
                have n0_ := Aside0.mk (below_drew1 HB.out)
                clear HB
                have HB := n0_
                clear n0_
                have p525 : 0 ≤ (x5_1 : Int) := of_decide_eq_true (by first | (with_reducible assumption) | assumption)
                have q525 : x5_1 < (l0.length : Int) := of_decide_eq_true (by first | (with_reducible assumption) | assumption)
                obtain ⟨ad525, e525, hx525_0, hx525_1, hx525_2, hx525_3, hx525_4⟩ := at_T68 HR0.out x5_1 p525 q525
                have hw525_4 := hx525_4
                have hw525_3 := hx525_3
                have hw525_2 := hx525_2
                have hw525_1 := hx525_1
                have hw525_0 := hx525_0
                cases e525
                replace hx525_0 := (HB.out.cell (World.block_lt_of_cell? w _ hx525_0)).trans hx525_0
                replace hx525_1 := (HB.out.cell (World.block_lt_of_cell? w _ hx525_1)).trans hx525_1
                replace hx525_2 := (HB.out.cell (World.block_lt_of_cell? w _ hx525_2)).trans hx525_2
                replace hx525_3 := (HB.out.cell (World.block_lt_of_cell? w _ hx525_3)).trans hx525_3
                replace hx525_4 := (HB.out.cell (World.block_lt_of_cell? w _ hx525_4)).trans hx525_4
                replace p525 := eq_true p525
                replace q525 := eq_true q525
                have p526 : 0 ≤ (x5_1 : Int) := of_decide_eq_true (by first | (with_reducible assumption) | assumption)
                have q526 : x5_1 < (l1.length : Int) := of_decide_eq_true (by first | (with_reducible assumption) | assumption)
                obtain ⟨ad526, e526, hx526_0, hx526_1, hx526_2, hx526_3, hx526_4⟩ := at_T68 HR1.out x5_1 p526 q526
                have hw526_4 := hx526_4
                have hw526_3 := hx526_3
                have hw526_2 := hx526_2
                have hw526_1 := hx526_1
                have hw526_0 := hx526_0
                cases e526
                replace hx526_0 := (HB.out.cell (World.block_lt_of_cell? w _ hx526_0)).trans hx526_0
                replace hx526_1 := (HB.out.cell (World.block_lt_of_cell? w _ hx526_1)).trans hx526_1
                replace hx526_2 := (HB.out.cell (World.block_lt_of_cell? w _ hx526_2)).trans hx526_2
                replace hx526_3 := (HB.out.cell (World.block_lt_of_cell? w _ hx526_3)).trans hx526_3
                replace hx526_4 := (HB.out.cell (World.block_lt_of_cell? w _ hx526_4)).trans hx526_4
                replace p526 := eq_true p526
                replace q526 := eq_true q526
                refine start_ (n := 10) (S := fun w' => w'.cell? (ad525.add ((x5_1).toNat * 5)) = some (.int .i64 ((rd_T68 l0 x5_1).f0)) ∧ w'.cell? ⟨(ad525.add ((x5_1).toNat * 5)).block, (ad525.add ((x5_1).toNat * 5)).off + 1, none⟩ = some (.int .i64 ((rd_T68 l0 x5_1).f1.f0)) ∧ w'.cell? ⟨(ad525.add ((x5_1).toNat * 5)).block, (ad525.add ((x5_1).toNat * 5)).off + 2, none⟩ = some (.int .i64 ((rd_T68 l0 x5_1).f1.f1)) ∧ w'.cell? ⟨(ad525.add ((x5_1).toNat * 5)).block, (ad525.add ((x5_1).toNat * 5)).off + 3, none⟩ = some (.int .i64 ((rd_T68 l0 x5_1).f1.f2)) ∧ w'.cell? ⟨(ad525.add ((x5_1).toNat * 5)).block, (ad525.add ((x5_1).toNat * 5)).off + 4, none⟩ = some (.int .i64 ((rd_T68 l0 x5_1).f1.f3)) ∧ w'.cell? (ad526.add ((x5_1).toNat * 5)) = some (.int .i64 ((rd_T68 l1 x5_1).f0)) ∧ w'.cell? ⟨(ad526.add ((x5_1).toNat * 5)).block, (ad526.add ((x5_1).toNat * 5)).off + 1, none⟩ = some (.int .i64 ((rd_T68 l1 x5_1).f1.f0)) ∧ w'.cell? ⟨(ad526.add ((x5_1).toNat * 5)).block, (ad526.add ((x5_1).toNat * 5)).off + 2, none⟩ = some (.int .i64 ((rd_T68 l1 x5_1).f1.f1)) ∧ w'.cell? ⟨(ad526.add ((x5_1).toNat * 5)).block, (ad526.add ((x5_1).toNat * 5)).off + 3, none⟩ = some (.int .i64 ((rd_T68 l1 x5_1).f1.f2)) ∧ w'.cell? ⟨(ad526.add ((x5_1).toNat * 5)).block, (ad526.add ((x5_1).toNat * 5)).off + 4, none⟩ = some (.int .i64 ((rd_T68 l1 x5_1).f1.f3))) (ds := []) #[false, false, false, false, false, false, false, false, false, false] (by kernel_rfl) rfl rfl ⟨((HB.out.cell (World.block_lt_of_cell? w _ hw525_0)).trans hw525_0), ((HB.out.cell (World.block_lt_of_cell? w _ hw525_1)).trans hw525_1), ((HB.out.cell (World.block_lt_of_cell? w _ hw525_2)).trans hw525_2), ((HB.out.cell (World.block_lt_of_cell? w _ hw525_3)).trans hw525_3), ((HB.out.cell (World.block_lt_of_cell? w _ hw525_4)).trans hw525_4), ((HB.out.cell (World.block_lt_of_cell? w _ hw526_0)).trans hw526_0), ((HB.out.cell (World.block_lt_of_cell? w _ hw526_1)).trans hw526_1), ((HB.out.cell (World.block_lt_of_cell? w _ hw526_2)).trans hw526_2), ((HB.out.cell (World.block_lt_of_cell? w _ hw526_3)).trans hw526_3), ((HB.out.cell (World.block_lt_of_cell? w _ hw526_4)).trans hw526_4)⟩ (fun hHeld => ?_); refine with_tabW laws_eqItemS.tab6 laws_eqItemS.bits6 (fun HT_ HW_ => ?_)
                generalize wr.drew = w9 at HB hx525_0 hx525_1 hx525_2 hx525_3 hx525_4 hx526_0 hx526_1 hx526_2 hx526_3 hx526_4 hHeld ⊢
                refine pure_ (i := 0) (N := some 17) (v := ?_) (a' := ?_) #[true, false, false, false, false, false, false, false, false, false] rfl rfl (any_of HT_.out (by kernel_rfl)) (fun _ _ _ h => h) (Or.inl ⟨by rfl, ?_⟩) ?_ ?_
                rotate_left
                · intro w'
                  go_simp
                  with_reducible rfl
                rotate_left
                · simp only [Act.put, List.setIfInBounds_toArray, List.set_cons_zero, List.set_cons_succ, i64_w, i32_w]
                  rfl
                refine pure_ (i := 1) (N := some 18) (v := ?_) (a' := ?_) #[true, true, false, false, false, false, false, false, false, false] rfl rfl (any_of HT_.out (by kernel_rfl)) (fun _ _ _ h => h) (Or.inl ⟨by rfl, ?_⟩) ?_ ?_
                rotate_left
                · intro w'
                  go_simp
                  with_reducible rfl
                rotate_left
                · simp only [Act.put, List.setIfInBounds_toArray, List.set_cons_zero, List.set_cons_succ, i64_w, i32_w]
                  rfl
                refine pure_ (i := 2) (N := some 19) (v := ?_) (a' := ?_) #[true, true, true, false, false, false, false, false, false, false] rfl rfl (any_of HT_.out (by kernel_rfl)) (fun _ _ _ h => h) (Or.inl ⟨by rfl, ?_⟩) ?_ ?_
                rotate_left
                · intro w'
                  go_simp
                  with_reducible rfl
                rotate_left
                · simp only [Act.put, List.setIfInBounds_toArray, List.set_cons_zero, List.set_cons_succ, i64_w, i32_w]
                  rfl
                refine pure_ (i := 4) (N := some 21) (v := ?_) (a' := ?_) #[true, true, true, false, true, false, false, false, false, false] rfl rfl (any_of HT_.out (by kernel_rfl)) (fun _ _ _ h => h) (Or.inl ⟨by rfl, ?_⟩) ?_ ?_
                rotate_left
                · intro w'
                  go_simp
                  with_reducible rfl
                rotate_left
                · simp only [Act.put, List.setIfInBounds_toArray, List.set_cons_zero, List.set_cons_succ, i64_w, i32_w]
                  rfl
                refine pure_ (i := 5) (N := some 22) (v := ?_) (a' := ?_) #[true, true, true, false, true, true, false, false, false, false] rfl rfl (any_of HT_.out (by kernel_rfl)) (fun _ _ _ h => h) (Or.inl ⟨by rfl, ?_⟩) ?_ ?_
                rotate_left
                · intro w'
                  go_simp
                  with_reducible rfl
                rotate_left
                · simp only [Act.put, List.setIfInBounds_toArray, List.set_cons_zero, List.set_cons_succ, i64_w, i32_w]
                  rfl
                refine pure_ (i := 6) (N := some 23) (v := ?_) (a' := ?_) #[true, true, true, false, true, true, true, false, false, false] rfl rfl (any_of HT_.out (by kernel_rfl)) (fun _ _ _ h => h) (Or.inl ⟨by rfl, ?_⟩) ?_ ?_
                rotate_left
                · intro w'
                  go_simp
                  with_reducible rfl
                rotate_left
                · simp only [Act.put, List.setIfInBounds_toArray, List.set_cons_zero, List.set_cons_succ, i64_w, i32_w]
                  rfl
                refine take_ (i := 3) (N := some 20) (v := ?_) (a' := ?_) #[true, true, true, true, true, true, true, false, false, false] rfl rfl (take_ofW HT_.out HW_.out (by kernel_rfl)) (fun _ _ _ h => h) (Or.inl ⟨by rfl, ?_⟩) hHeld ?_ ?_
                rotate_left
                · rintro w' ⟨s0, s1, s2, s3, s4, s5, s6, s7, s8, s9⟩
                  go_simp
                  with_reducible rfl
                rotate_left
                · simp only [Act.put, List.setIfInBounds_toArray, List.set_cons_zero, List.set_cons_succ, i64_w, i32_w]
                  rfl
                refine take_ (i := 7) (N := some 24) (v := ?_) (a' := ?_) #[true, true, true, true, true, true, true, true, false, false] rfl rfl (take_ofW HT_.out HW_.out (by kernel_rfl)) (fun _ _ _ h => h) (Or.inl ⟨by rfl, ?_⟩) hHeld ?_ ?_
                rotate_left
                · rintro w' ⟨s0, s1, s2, s3, s4, s5, s6, s7, s8, s9⟩
                  go_simp
                  with_reducible rfl
                rotate_left
                · simp only [Act.put, List.setIfInBounds_toArray, List.set_cons_zero, List.set_cons_succ, i64_w, i32_w]
                  rfl
                refine one_ (i := 8) (N := some 25) #[true, true, true, true, true, true, true, true, true, false] rfl rfl (one_of HT_.out (by kernel_rfl)) (by decide) (fun K hK => ?_)
                refine goes_ Try.func62 (by kernel_rfl) rfl #[.agg #[.int .i64 ((rd_T68 l0 x5_1).f0), .int .i64 ((rd_T68 l0 x5_1).f1.f0), .int .i64 ((rd_T68 l0 x5_1).f1.f1), .int .i64 ((rd_T68 l0 x5_1).f1.f2), .int .i64 ((rd_T68 l0 x5_1).f1.f3)], .agg #[.int .i64 ((rd_T68 l1 x5_1).f0), .int .i64 ((rd_T68 l1 x5_1).f1.f0), .int .i64 ((rd_T68 l1 x5_1).f1.f1), .int .i64 ((rd_T68 l1 x5_1).f1.f2), .int .i64 ((rd_T68 l1 x5_1).f1.f3)]] (by rfl) rfl rfl (by (try simp only [List.map_toArray, List.map_cons, List.map_nil]); first | done | rfl | (simp only [List.length_drop, List.length_take]; rfl)) ?_
                with_reducible refine (laws_eqItem.calls ((rd_T68 l0 x5_1).f0) ((rd_T68 l0 x5_1).f1.f0) ((rd_T68 l0 x5_1).f1.f1) ((rd_T68 l0 x5_1).f1.f2) ((rd_T68 l0 x5_1).f1.f3) ((rd_T68 l1 x5_1).f0) ((rd_T68 l1 x5_1).f1.f0) ((rd_T68 l1 x5_1).f1.f1) ((rd_T68 l1 x5_1).f1.f2) ((rd_T68 l1 x5_1).f1.f3) true _ A7.out).mono ?_
                rintro e w10 ⟨rfl, hb⟩
                refine ⟨_, rfl, ?_⟩
                have n0_ := Aside0.mk (below_step (by repeat (first | (with_reducible first | exact HB.out | apply below_alloc | apply pw_below_drewN | apply below_drew1) | exact HB.out)) hb)
                clear HB
                have HB := n0_
                clear n0_
                (try clear hb)
                (try clear hb2)
                (try clear hk)
                (try clear hi)
                refine hK.out _ _ ⟨((HB.out.cell (World.block_lt_of_cell? w _ hw525_0)).trans hw525_0), ((HB.out.cell (World.block_lt_of_cell? w _ hw525_1)).trans hw525_1), ((HB.out.cell (World.block_lt_of_cell? w _ hw525_2)).trans hw525_2), ((HB.out.cell (World.block_lt_of_cell? w _ hw525_3)).trans hw525_3), ((HB.out.cell (World.block_lt_of_cell? w _ hw525_4)).trans hw525_4), ((HB.out.cell (World.block_lt_of_cell? w _ hw526_0)).trans hw526_0), ((HB.out.cell (World.block_lt_of_cell? w _ hw526_1)).trans hw526_1), ((HB.out.cell (World.block_lt_of_cell? w _ hw526_2)).trans hw526_2), ((HB.out.cell (World.block_lt_of_cell? w _ hw526_3)).trans hw526_3), ((HB.out.cell (World.block_lt_of_cell? w _ hw526_4)).trans hw526_4)⟩ (fun hHeld => ?_)
                clear hK K
                refine norm_ (a' := ?_) ?_ ?_
                rotate_left
                · show Act.put _ (some 25) _ = _
                  simp only [Act.put, List.setIfInBounds_toArray, List.set_cons_zero, List.set_cons_succ, i64_w, i32_w]
                  rfl
                refine pure_ (i := 9) (N := some 26) (v := ?_) (a' := ?_) #[true, true, true, true, true, true, true, true, true, true] rfl rfl (any_of HT_.out (by kernel_rfl)) (fun _ _ _ h => h) (Or.inl ⟨by rfl, ?_⟩) ?_ ?_
                rotate_left
                · intro w'
                  go_simp
                  with_reducible rfl
                rotate_left
                · simp only [Act.put, List.setIfInBounds_toArray, List.set_cons_zero, List.set_cons_succ, i64_w, i32_w]
                  rfl
                refine done_ (done_of HT_.out (by kernel_rfl)) ?_
                try go_wp2
                go_roundg k1
                case measure => have := HK1.out; omega
                case rel => exact ⟨(wrap64 (x5_1 + 1)), (by first | rfl | (simp; done) | (simp [*]; done)), H', ⟨by have := HK1.out; omega⟩, ⟨by repeat (first | (with_reducible first | exact HB.out | apply below_alloc | apply pw_below_drewN | apply below_drew1) | exact HB.out)⟩⟩
              · replace c8 := Bool.eq_false_iff.mpr c8
                subst c8
                have H1 : (some false) = some r := by rw [if_neg (show ¬ (false = true) by decide)] at H; exact H
                clear H
                have H := H1
                clear H1
                obtain rfl := Option.some.inj H
                try go_wp2
                have n0_ := Aside0.mk (below_drew1 HB.out)
                clear HB
                have HB := n0_
                clear n0_
                have p525 : 0 ≤ (x5_1 : Int) := of_decide_eq_true (by first | (with_reducible assumption) | assumption)
                have q525 : x5_1 < (l0.length : Int) := of_decide_eq_true (by first | (with_reducible assumption) | assumption)
                obtain ⟨ad525, e525, hx525_0, hx525_1, hx525_2, hx525_3, hx525_4⟩ := at_T68 HR0.out x5_1 p525 q525
                have hw525_4 := hx525_4
                have hw525_3 := hx525_3
                have hw525_2 := hx525_2
                have hw525_1 := hx525_1
                have hw525_0 := hx525_0
                cases e525
                replace hx525_0 := (HB.out.cell (World.block_lt_of_cell? w _ hx525_0)).trans hx525_0
                replace hx525_1 := (HB.out.cell (World.block_lt_of_cell? w _ hx525_1)).trans hx525_1
                replace hx525_2 := (HB.out.cell (World.block_lt_of_cell? w _ hx525_2)).trans hx525_2
                replace hx525_3 := (HB.out.cell (World.block_lt_of_cell? w _ hx525_3)).trans hx525_3
                replace hx525_4 := (HB.out.cell (World.block_lt_of_cell? w _ hx525_4)).trans hx525_4
                replace p525 := eq_true p525
                replace q525 := eq_true q525
                have p526 : 0 ≤ (x5_1 : Int) := of_decide_eq_true (by first | (with_reducible assumption) | assumption)
                have q526 : x5_1 < (l1.length : Int) := of_decide_eq_true (by first | (with_reducible assumption) | assumption)
                obtain ⟨ad526, e526, hx526_0, hx526_1, hx526_2, hx526_3, hx526_4⟩ := at_T68 HR1.out x5_1 p526 q526
                have hw526_4 := hx526_4
                have hw526_3 := hx526_3
                have hw526_2 := hx526_2
                have hw526_1 := hx526_1
                have hw526_0 := hx526_0
                cases e526
                replace hx526_0 := (HB.out.cell (World.block_lt_of_cell? w _ hx526_0)).trans hx526_0
                replace hx526_1 := (HB.out.cell (World.block_lt_of_cell? w _ hx526_1)).trans hx526_1
                replace hx526_2 := (HB.out.cell (World.block_lt_of_cell? w _ hx526_2)).trans hx526_2
                replace hx526_3 := (HB.out.cell (World.block_lt_of_cell? w _ hx526_3)).trans hx526_3
                replace hx526_4 := (HB.out.cell (World.block_lt_of_cell? w _ hx526_4)).trans hx526_4
                replace p526 := eq_true p526
                replace q526 := eq_true q526
                refine start_ (n := 10) (S := fun w' => w'.cell? (ad525.add ((x5_1).toNat * 5)) = some (.int .i64 ((rd_T68 l0 x5_1).f0)) ∧ w'.cell? ⟨(ad525.add ((x5_1).toNat * 5)).block, (ad525.add ((x5_1).toNat * 5)).off + 1, none⟩ = some (.int .i64 ((rd_T68 l0 x5_1).f1.f0)) ∧ w'.cell? ⟨(ad525.add ((x5_1).toNat * 5)).block, (ad525.add ((x5_1).toNat * 5)).off + 2, none⟩ = some (.int .i64 ((rd_T68 l0 x5_1).f1.f1)) ∧ w'.cell? ⟨(ad525.add ((x5_1).toNat * 5)).block, (ad525.add ((x5_1).toNat * 5)).off + 3, none⟩ = some (.int .i64 ((rd_T68 l0 x5_1).f1.f2)) ∧ w'.cell? ⟨(ad525.add ((x5_1).toNat * 5)).block, (ad525.add ((x5_1).toNat * 5)).off + 4, none⟩ = some (.int .i64 ((rd_T68 l0 x5_1).f1.f3)) ∧ w'.cell? (ad526.add ((x5_1).toNat * 5)) = some (.int .i64 ((rd_T68 l1 x5_1).f0)) ∧ w'.cell? ⟨(ad526.add ((x5_1).toNat * 5)).block, (ad526.add ((x5_1).toNat * 5)).off + 1, none⟩ = some (.int .i64 ((rd_T68 l1 x5_1).f1.f0)) ∧ w'.cell? ⟨(ad526.add ((x5_1).toNat * 5)).block, (ad526.add ((x5_1).toNat * 5)).off + 2, none⟩ = some (.int .i64 ((rd_T68 l1 x5_1).f1.f1)) ∧ w'.cell? ⟨(ad526.add ((x5_1).toNat * 5)).block, (ad526.add ((x5_1).toNat * 5)).off + 3, none⟩ = some (.int .i64 ((rd_T68 l1 x5_1).f1.f2)) ∧ w'.cell? ⟨(ad526.add ((x5_1).toNat * 5)).block, (ad526.add ((x5_1).toNat * 5)).off + 4, none⟩ = some (.int .i64 ((rd_T68 l1 x5_1).f1.f3))) (ds := []) #[false, false, false, false, false, false, false, false, false, false] (by kernel_rfl) rfl rfl ⟨((HB.out.cell (World.block_lt_of_cell? w _ hw525_0)).trans hw525_0), ((HB.out.cell (World.block_lt_of_cell? w _ hw525_1)).trans hw525_1), ((HB.out.cell (World.block_lt_of_cell? w _ hw525_2)).trans hw525_2), ((HB.out.cell (World.block_lt_of_cell? w _ hw525_3)).trans hw525_3), ((HB.out.cell (World.block_lt_of_cell? w _ hw525_4)).trans hw525_4), ((HB.out.cell (World.block_lt_of_cell? w _ hw526_0)).trans hw526_0), ((HB.out.cell (World.block_lt_of_cell? w _ hw526_1)).trans hw526_1), ((HB.out.cell (World.block_lt_of_cell? w _ hw526_2)).trans hw526_2), ((HB.out.cell (World.block_lt_of_cell? w _ hw526_3)).trans hw526_3), ((HB.out.cell (World.block_lt_of_cell? w _ hw526_4)).trans hw526_4)⟩ (fun hHeld => ?_); refine with_tabW laws_eqItemS.tab6 laws_eqItemS.bits6 (fun HT_ HW_ => ?_)
                generalize wr.drew = w11 at HB hx525_0 hx525_1 hx525_2 hx525_3 hx525_4 hx526_0 hx526_1 hx526_2 hx526_3 hx526_4 hHeld ⊢
                refine pure_ (i := 0) (N := some 17) (v := ?_) (a' := ?_) #[true, false, false, false, false, false, false, false, false, false] rfl rfl (any_of HT_.out (by kernel_rfl)) (fun _ _ _ h => h) (Or.inl ⟨by rfl, ?_⟩) ?_ ?_
                rotate_left
                · intro w'
                  go_simp
                  with_reducible rfl
                rotate_left
                · simp only [Act.put, List.setIfInBounds_toArray, List.set_cons_zero, List.set_cons_succ, i64_w, i32_w]
                  rfl
                refine pure_ (i := 1) (N := some 18) (v := ?_) (a' := ?_) #[true, true, false, false, false, false, false, false, false, false] rfl rfl (any_of HT_.out (by kernel_rfl)) (fun _ _ _ h => h) (Or.inl ⟨by rfl, ?_⟩) ?_ ?_
                rotate_left
                · intro w'
                  go_simp
                  with_reducible rfl
                rotate_left
                · simp only [Act.put, List.setIfInBounds_toArray, List.set_cons_zero, List.set_cons_succ, i64_w, i32_w]
                  rfl
                refine pure_ (i := 2) (N := some 19) (v := ?_) (a' := ?_) #[true, true, true, false, false, false, false, false, false, false] rfl rfl (any_of HT_.out (by kernel_rfl)) (fun _ _ _ h => h) (Or.inl ⟨by rfl, ?_⟩) ?_ ?_
                rotate_left
                · intro w'
                  go_simp
                  with_reducible rfl
                rotate_left
                · simp only [Act.put, List.setIfInBounds_toArray, List.set_cons_zero, List.set_cons_succ, i64_w, i32_w]
                  rfl
                refine pure_ (i := 4) (N := some 21) (v := ?_) (a' := ?_) #[true, true, true, false, true, false, false, false, false, false] rfl rfl (any_of HT_.out (by kernel_rfl)) (fun _ _ _ h => h) (Or.inl ⟨by rfl, ?_⟩) ?_ ?_
                rotate_left
                · intro w'
                  go_simp
                  with_reducible rfl
                rotate_left
                · simp only [Act.put, List.setIfInBounds_toArray, List.set_cons_zero, List.set_cons_succ, i64_w, i32_w]
                  rfl
                refine pure_ (i := 5) (N := some 22) (v := ?_) (a' := ?_) #[true, true, true, false, true, true, false, false, false, false] rfl rfl (any_of HT_.out (by kernel_rfl)) (fun _ _ _ h => h) (Or.inl ⟨by rfl, ?_⟩) ?_ ?_
                rotate_left
                · intro w'
                  go_simp
                  with_reducible rfl
                rotate_left
                · simp only [Act.put, List.setIfInBounds_toArray, List.set_cons_zero, List.set_cons_succ, i64_w, i32_w]
                  rfl
                refine pure_ (i := 6) (N := some 23) (v := ?_) (a' := ?_) #[true, true, true, false, true, true, true, false, false, false] rfl rfl (any_of HT_.out (by kernel_rfl)) (fun _ _ _ h => h) (Or.inl ⟨by rfl, ?_⟩) ?_ ?_
                rotate_left
                · intro w'
                  go_simp
                  with_reducible rfl
                rotate_left
                · simp only [Act.put, List.setIfInBounds_toArray, List.set_cons_zero, List.set_cons_succ, i64_w, i32_w]
                  rfl
                refine take_ (i := 3) (N := some 20) (v := ?_) (a' := ?_) #[true, true, true, true, true, true, true, false, false, false] rfl rfl (take_ofW HT_.out HW_.out (by kernel_rfl)) (fun _ _ _ h => h) (Or.inl ⟨by rfl, ?_⟩) hHeld ?_ ?_
                rotate_left
                · rintro w' ⟨s0, s1, s2, s3, s4, s5, s6, s7, s8, s9⟩
                  go_simp
                  with_reducible rfl
                rotate_left
                · simp only [Act.put, List.setIfInBounds_toArray, List.set_cons_zero, List.set_cons_succ, i64_w, i32_w]
                  rfl
                refine take_ (i := 7) (N := some 24) (v := ?_) (a' := ?_) #[true, true, true, true, true, true, true, true, false, false] rfl rfl (take_ofW HT_.out HW_.out (by kernel_rfl)) (fun _ _ _ h => h) (Or.inl ⟨by rfl, ?_⟩) hHeld ?_ ?_
                rotate_left
                · rintro w' ⟨s0, s1, s2, s3, s4, s5, s6, s7, s8, s9⟩
                  go_simp
                  with_reducible rfl
                rotate_left
                · simp only [Act.put, List.setIfInBounds_toArray, List.set_cons_zero, List.set_cons_succ, i64_w, i32_w]
                  rfl
                refine one_ (i := 8) (N := some 25) #[true, true, true, true, true, true, true, true, true, false] rfl rfl (one_of HT_.out (by kernel_rfl)) (by decide) (fun K hK => ?_)
                refine goes_ Try.func62 (by kernel_rfl) rfl #[.agg #[.int .i64 ((rd_T68 l0 x5_1).f0), .int .i64 ((rd_T68 l0 x5_1).f1.f0), .int .i64 ((rd_T68 l0 x5_1).f1.f1), .int .i64 ((rd_T68 l0 x5_1).f1.f2), .int .i64 ((rd_T68 l0 x5_1).f1.f3)], .agg #[.int .i64 ((rd_T68 l1 x5_1).f0), .int .i64 ((rd_T68 l1 x5_1).f1.f0), .int .i64 ((rd_T68 l1 x5_1).f1.f1), .int .i64 ((rd_T68 l1 x5_1).f1.f2), .int .i64 ((rd_T68 l1 x5_1).f1.f3)]] (by rfl) rfl rfl (by (try simp only [List.map_toArray, List.map_cons, List.map_nil]); first | done | rfl | (simp only [List.length_drop, List.length_take]; rfl)) ?_
                with_reducible refine (laws_eqItem.calls ((rd_T68 l0 x5_1).f0) ((rd_T68 l0 x5_1).f1.f0) ((rd_T68 l0 x5_1).f1.f1) ((rd_T68 l0 x5_1).f1.f2) ((rd_T68 l0 x5_1).f1.f3) ((rd_T68 l1 x5_1).f0) ((rd_T68 l1 x5_1).f1.f0) ((rd_T68 l1 x5_1).f1.f1) ((rd_T68 l1 x5_1).f1.f2) ((rd_T68 l1 x5_1).f1.f3) false _ A7.out).mono ?_
                rintro e w12 ⟨rfl, hb⟩
                refine ⟨_, rfl, ?_⟩
                have n0_ := Aside0.mk (below_step (by repeat (first | (with_reducible first | exact HB.out | apply below_alloc | apply pw_below_drewN | apply below_drew1) | exact HB.out)) hb)
                clear HB
                have HB := n0_
                clear n0_
                (try clear hb)
                (try clear hb2)
                (try clear hk)
                (try clear hi)
                refine hK.out _ _ ⟨((HB.out.cell (World.block_lt_of_cell? w _ hw525_0)).trans hw525_0), ((HB.out.cell (World.block_lt_of_cell? w _ hw525_1)).trans hw525_1), ((HB.out.cell (World.block_lt_of_cell? w _ hw525_2)).trans hw525_2), ((HB.out.cell (World.block_lt_of_cell? w _ hw525_3)).trans hw525_3), ((HB.out.cell (World.block_lt_of_cell? w _ hw525_4)).trans hw525_4), ((HB.out.cell (World.block_lt_of_cell? w _ hw526_0)).trans hw526_0), ((HB.out.cell (World.block_lt_of_cell? w _ hw526_1)).trans hw526_1), ((HB.out.cell (World.block_lt_of_cell? w _ hw526_2)).trans hw526_2), ((HB.out.cell (World.block_lt_of_cell? w _ hw526_3)).trans hw526_3), ((HB.out.cell (World.block_lt_of_cell? w _ hw526_4)).trans hw526_4)⟩ (fun hHeld => ?_)
                clear hK K
                refine norm_ (a' := ?_) ?_ ?_
                rotate_left
                · show Act.put _ (some 25) _ = _
                  simp only [Act.put, List.setIfInBounds_toArray, List.set_cons_zero, List.set_cons_succ, i64_w, i32_w]
                  rfl
                refine pure_ (i := 9) (N := some 26) (v := ?_) (a' := ?_) #[true, true, true, true, true, true, true, true, true, true] rfl rfl (any_of HT_.out (by kernel_rfl)) (fun _ _ _ h => h) (Or.inl ⟨by rfl, ?_⟩) ?_ ?_
                rotate_left
                · intro w'
                  go_simp
                  with_reducible rfl
                rotate_left
                · simp only [Act.put, List.setIfInBounds_toArray, List.set_cons_zero, List.set_cons_succ, i64_w, i32_w]
                  rfl
                refine done_ (done_of HT_.out (by kernel_rfl)) ?_
                try go_wp2
                go_ret
                exact ⟨by first | rfl | (simp [errW_none, errW_some] <;> rfl) | (simp [*, errW_none, errW_some] <;> rfl), by repeat (first | (with_reducible first | exact HB.out | apply below_alloc | apply pw_below_drewN | apply below_drew1) | exact HB.out)⟩
            · rw [if_neg c6] at H
              exact absurd H (by simp)
          · rw [if_neg c5] at H
            exact absurd H (by simp)
        · rw [if_neg c4] at H
          have c4b0 : decide (x5_1 < (l0.length : Int)) = false := decide_eq_false c4
          clear c4
          obtain rfl := Option.some.inj H
          go_wp2
          go_ret
          exact ⟨by first | rfl | (simp [errW_none, errW_some] <;> rfl) | (simp [*, errW_none, errW_some] <;> rfl), by repeat (first | (with_reducible first | exact HB.out | apply below_alloc | apply pw_below_drewN | apply below_drew1) | exact HB.out)⟩
  · rw [if_neg c3] at H
    have c3b0 : ((l0.length : Int) == (l1.length : Int)) = false := beq_eq_false_iff_ne.mpr c3
    have c3b1 : ((l0.length : Int) != (l1.length : Int)) = true := bne_iff_ne.mpr c3
    have c3b2 : (l0.length == l1.length) = false := by first | simpa using c3 | (simp at c3 ⊢; omega)
    obtain rfl := Option.some.inj H
    go_enter Try.func19, Try.ntmps19
    go_wp2
    go_ret
    exact ⟨by first | rfl | (simp [errW_none, errW_some] <;> rfl) | (simp [*, errW_none, errW_some] <;> rfl), by repeat (first | (with_reducible first | exact HB.out | apply below_alloc | apply pw_below_drewN | apply below_drew1) | exact HB.out)⟩

end Go.Proofs.Ythenmlaleobapaa.All

namespace Go.Proofs.Ythenmlaleobapaa.All
open Go.RowKit Go.Proofs.YthenmlaleobapaaW.PrintWords Go.Proofs.YthenmlaleobapaaW.PrintLast Go.Proofs.YthenmlaleobapaaW.PrintMore
attribute [local go_sem] max2_int min2_int max_two min_two max_three min_three max_four min_four   -- for this text's walks alone
set_option linter.unusedVariables false
set_option linter.unusedSimpArgs false

/-! ### laws_heldItemS: function 58 -/
def laws_heldItemS.l0 : Nat → List (S68) → Int → Int → Option (Int)
  | 0, _, _, _ => none
  | k + 1, x0, x1, x5 => if x5 < (x0.length : Int) then (if 0 ≤ x5 then (if ((rd_T68 x0 x5).f0) = x1 then (if ((rd_T68 x0 x5).f1.f0) = (wrap64 (x1 + 1)) then (if ((rd_T68 x0 x5).f1.f1) = (wrap64 ((wrap64 (x1 + 1)) + 1)) then (if ((rd_T68 x0 x5).f1.f2) = (wrap64 ((wrap64 ((wrap64 (x1 + 1)) + 1)) + 1)) then (if ((rd_T68 x0 x5).f1.f3) = (wrap64 ((wrap64 ((wrap64 ((wrap64 (x1 + 1)) + 1)) + 1)) + 1)) then (laws_heldItemS.l0 k x0 (wrap64 ((wrap64 ((wrap64 ((wrap64 ((wrap64 (x1 + 1)) + 1)) + 1)) + 1)) + 1)) (wrap64 (x5 + 1))) else (some (-1))) else (some (-1))) else (some (-1))) else (some (-1))) else (some (-1))) else (none)) else (some x1)
def laws_heldItemS.f (k : Nat) (l0 : List (S68)) (a1 : Int) : Option (Int) := laws_heldItemS.l0 k l0 a1 0
theorem laws_heldItemS.mono_l : ∀ k, (∀ y0 y1 y2, LeO (laws_heldItemS.l0 k y0 y1 y2) (laws_heldItemS.l0 (k + 1) y0 y1 y2))
  | 0 => fun _ _ _ r h => by simp [laws_heldItemS.l0] at h
  | k + 1 => by
    have ih0 := laws_heldItemS.mono_l k
    · intro y0 y1 y2
      unfold laws_heldItemS.l0
      repeat' first
      | (with_reducible exact ih0 _ _ _)
      | (with_reducible exact LeO.refl _)
      | (with_reducible exact LeO.none _)
      | (with_reducible refine LeO.ite ?_ ?_)
      | (with_reducible refine LeO.bind ?_ (fun _ => ?_))
      | exact ih0 _ _ _
      | exact LeO.none _
      | refine LeO.ite ?_ ?_
      | refine LeO.bind ?_ (fun _ => ?_)
theorem laws_heldItemS.mono : ∀ a0 a1 k, LeO (laws_heldItemS.f k a0 a1) (laws_heldItemS.f (k + 1) a0 a1) := by
  intro a0 a1 k
  have ih0 := laws_heldItemS.mono_l k
  unfold laws_heldItemS.f
  repeat' first
      | (with_reducible exact ih0 _ _ _)
      | (with_reducible exact LeO.refl _)
      | (with_reducible exact LeO.none _)
      | (with_reducible refine LeO.ite ?_ ?_)
      | (with_reducible refine LeO.bind ?_ (fun _ => ?_))
      | exact ih0 _ _ _
      | exact LeO.none _
      | refine LeO.ite ?_ ?_
      | refine LeO.bind ?_ (fun _ => ?_)
set_option maxHeartbeats 8000000 in
set_option maxRecDepth 100000 in
theorem laws_heldItemS.calls (k : Nat) (A0 : Option Addr) (c0 : Nat) (l0 : List (S68)) (a1 : Int) (r : Int) (w : World) (hr0 : Kd.C k68 w A0 l0.length l0) (hc0 : l0.length ≤ c0) (h : laws_heldItemS.f k l0 a1 = some r) :
    Calls Try.prog 58 #[.slice A0 l0.length c0, .int .i64 a1] w fun e w' => e = .returned (.int .i64 r) ∧ Drawn0 w w' := by
  have HR0 := Aside0.mk hr0
  have HC0 := Aside0.mk hc0
  clear hr0 hc0
  have H : (laws_heldItemS.l0 k l0 a1 0) = some r := h
  clear h
  have H' := Aside0.mk H
  clear H
  go_enter Try.func58, Try.ntmps58
  go_wp2
  go_loopg [1, 5] k (fun kq v1 v5 w' => ∃ (x1_1 : Int) (x5_1 : Int), v1 = .int .i64 x1_1 ∧ v5 = .int .i64 x5_1 ∧ Aside0 (laws_heldItemS.l0 kq l0 x1_1 x5_1 = some r) ∧ Aside0 (kq ≤ k) ∧ Drawn0 w w')
  case atStart => exact ⟨(a1), (0), (by first | rfl | (simp; done) | (simp [*]; done)), (by first | rfl | (simp; done) | (simp [*]; done)), H', ⟨Nat.le_refl _⟩, by repeat (first | exact Drawn0.refl _ | apply Drawn0.step)⟩
  case round =>
    clear H'
    try clear p2
    obtain ⟨x1_1, x5_1, rfl, rfl, HA, HK1, ⟨m1, rfl⟩⟩ := hrel
    cases gk with
    | zero => exact absurd HA.out (by simp [laws_heldItemS.l0])
    | succ k1 =>
      have H := HA.out
      clear HA
      simp only [laws_heldItemS.l0] at H
      by_cases c3 : x5_1 < (l0.length : Int)
      · rw [if_pos c3] at H
        have c3b0 : decide (x5_1 < (l0.length : Int)) = true := decide_eq_true c3
        clear c3
        by_cases c4 : 0 ≤ x5_1
        · rw [if_pos c4] at H
          have c4b0 : decide (0 ≤ x5_1) = true := decide_eq_true c4
          clear c4
          by_cases c5 : ((rd_T68 l0 x5_1).f0) = x1_1
          · rw [if_pos c5] at H
            have c5b0 : (((rd_T68 l0 x5_1).f0) == x1_1) = true := beq_iff_eq.mpr c5
            have c5b1 : (((rd_T68 l0 x5_1).f0) != x1_1) = false := bne_eq_false_iff_eq.mpr c5
            clear c5
            by_cases c6 : ((rd_T68 l0 x5_1).f1.f0) = (wrap64 (x1_1 + 1))
            · rw [if_pos c6] at H
              have c6b0 : (((rd_T68 l0 x5_1).f1.f0) == (wrap64 (x1_1 + 1))) = true := beq_iff_eq.mpr c6
              have c6b1 : (((rd_T68 l0 x5_1).f1.f0) != (wrap64 (x1_1 + 1))) = false := bne_eq_false_iff_eq.mpr c6
              clear c6
              by_cases c7 : ((rd_T68 l0 x5_1).f1.f1) = (wrap64 ((wrap64 (x1_1 + 1)) + 1))
              · rw [if_pos c7] at H
                have c7b0 : (((rd_T68 l0 x5_1).f1.f1) == (wrap64 ((wrap64 (x1_1 + 1)) + 1))) = true := beq_iff_eq.mpr c7
                have c7b1 : (((rd_T68 l0 x5_1).f1.f1) != (wrap64 ((wrap64 (x1_1 + 1)) + 1))) = false := bne_eq_false_iff_eq.mpr c7
                clear c7
                by_cases c8 : ((rd_T68 l0 x5_1).f1.f2) = (wrap64 ((wrap64 ((wrap64 (x1_1 + 1)) + 1)) + 1))
                · rw [if_pos c8] at H
                  have c8b0 : (((rd_T68 l0 x5_1).f1.f2) == (wrap64 ((wrap64 ((wrap64 (x1_1 + 1)) + 1)) + 1))) = true := beq_iff_eq.mpr c8
                  have c8b1 : (((rd_T68 l0 x5_1).f1.f2) != (wrap64 ((wrap64 ((wrap64 (x1_1 + 1)) + 1)) + 1))) = false := bne_eq_false_iff_eq.mpr c8
                  clear c8
                  by_cases c9 : ((rd_T68 l0 x5_1).f1.f3) = (wrap64 ((wrap64 ((wrap64 ((wrap64 (x1_1 + 1)) + 1)) + 1)) + 1))
                  · rw [if_pos c9] at H
                    have c9b0 : (((rd_T68 l0 x5_1).f1.f3) == (wrap64 ((wrap64 ((wrap64 ((wrap64 (x1_1 + 1)) + 1)) + 1)) + 1))) = true := beq_iff_eq.mpr c9
                    have c9b1 : (((rd_T68 l0 x5_1).f1.f3) != (wrap64 ((wrap64 ((wrap64 ((wrap64 (x1_1 + 1)) + 1)) + 1)) + 1))) = false := bne_eq_false_iff_eq.mpr c9
                    clear c9
                    have H' := Aside0.mk H
                    clear H
                    have p528 : 0 ≤ (x5_1 : Int) := of_decide_eq_true (by first | (with_reducible assumption) | assumption)
                    have q528 : x5_1 < (l0.length : Int) := of_decide_eq_true (by first | (with_reducible assumption) | assumption)
                    obtain ⟨ad528, e528, hx528_0, hx528_1, hx528_2, hx528_3, hx528_4⟩ := at_T68 HR0.out x5_1 p528 q528
                    cases e528
                    replace p528 := eq_true p528
                    replace q528 := eq_true q528
                    have p529 : 0 ≤ (x5_1 : Int) := of_decide_eq_true (by first | (with_reducible assumption) | assumption)
                    have q529 : x5_1 < (l0.length : Int) := of_decide_eq_true (by first | (with_reducible assumption) | assumption)
                    obtain ⟨ad529, e529, hx529_0, hx529_1, hx529_2, hx529_3, hx529_4⟩ := at_T68 HR0.out x5_1 p529 q529
                    obtain rfl : ad528 = ad529 := (by injection e529)
                    replace p529 := eq_true p529
                    replace q529 := eq_true q529
                    have p530 : 0 ≤ (x5_1 : Int) := of_decide_eq_true (by first | (with_reducible assumption) | assumption)
                    have q530 : x5_1 < (l0.length : Int) := of_decide_eq_true (by first | (with_reducible assumption) | assumption)
                    obtain ⟨ad530, e530, hx530_0, hx530_1, hx530_2, hx530_3, hx530_4⟩ := at_T68 HR0.out x5_1 p530 q530
                    obtain rfl : ad528 = ad530 := (by injection e530)
                    replace p530 := eq_true p530
                    replace q530 := eq_true q530
                    have p531 : 0 ≤ (x5_1 : Int) := of_decide_eq_true (by first | (with_reducible assumption) | assumption)
                    have q531 : x5_1 < (l0.length : Int) := of_decide_eq_true (by first | (with_reducible assumption) | assumption)
                    obtain ⟨ad531, e531, hx531_0, hx531_1, hx531_2, hx531_3, hx531_4⟩ := at_T68 HR0.out x5_1 p531 q531
                    obtain rfl : ad528 = ad531 := (by injection e531)
                    replace p531 := eq_true p531
                    replace q531 := eq_true q531
                    have p532 : 0 ≤ (x5_1 : Int) := of_decide_eq_true (by first | (with_reducible assumption) | assumption)
                    have q532 : x5_1 < (l0.length : Int) := of_decide_eq_true (by first | (with_reducible assumption) | assumption)
                    obtain ⟨ad532, e532, hx532_0, hx532_1, hx532_2, hx532_3, hx532_4⟩ := at_T68 HR0.out x5_1 p532 q532
                    obtain rfl : ad528 = ad532 := (by injection e532)
                    replace p532 := eq_true p532
                    replace q532 := eq_true q532
                    go_wp2
                    go_roundg k1
                    case measure => have := HK1.out; omega
                    case rel => exact ⟨(wrap64 ((wrap64 ((wrap64 ((wrap64 ((wrap64 (x1_1 + 1)) + 1)) + 1)) + 1)) + 1)), (wrap64 (x5_1 + 1)), (by first | rfl | (simp; done) | (simp [*]; done)), (by first | rfl | (simp; done) | (simp [*]; done)), H', ⟨by have := HK1.out; omega⟩, by repeat (first | exact Drawn0.refl _ | apply Drawn0.step)⟩
                  · rw [if_neg c9] at H
                    have c9b0 : (((rd_T68 l0 x5_1).f1.f3) == (wrap64 ((wrap64 ((wrap64 ((wrap64 (x1_1 + 1)) + 1)) + 1)) + 1))) = false := beq_eq_false_iff_ne.mpr c9
                    have c9b1 : (((rd_T68 l0 x5_1).f1.f3) != (wrap64 ((wrap64 ((wrap64 ((wrap64 (x1_1 + 1)) + 1)) + 1)) + 1))) = true := bne_iff_ne.mpr c9
                    obtain rfl := Option.some.inj H
                    have p528 : 0 ≤ (x5_1 : Int) := of_decide_eq_true (by first | (with_reducible assumption) | assumption)
                    have q528 : x5_1 < (l0.length : Int) := of_decide_eq_true (by first | (with_reducible assumption) | assumption)
                    obtain ⟨ad528, e528, hx528_0, hx528_1, hx528_2, hx528_3, hx528_4⟩ := at_T68 HR0.out x5_1 p528 q528
                    cases e528
                    replace p528 := eq_true p528
                    replace q528 := eq_true q528
                    have p529 : 0 ≤ (x5_1 : Int) := of_decide_eq_true (by first | (with_reducible assumption) | assumption)
                    have q529 : x5_1 < (l0.length : Int) := of_decide_eq_true (by first | (with_reducible assumption) | assumption)
                    obtain ⟨ad529, e529, hx529_0, hx529_1, hx529_2, hx529_3, hx529_4⟩ := at_T68 HR0.out x5_1 p529 q529
                    obtain rfl : ad528 = ad529 := (by injection e529)
                    replace p529 := eq_true p529
                    replace q529 := eq_true q529
                    have p530 : 0 ≤ (x5_1 : Int) := of_decide_eq_true (by first | (with_reducible assumption) | assumption)
                    have q530 : x5_1 < (l0.length : Int) := of_decide_eq_true (by first | (with_reducible assumption) | assumption)
                    obtain ⟨ad530, e530, hx530_0, hx530_1, hx530_2, hx530_3, hx530_4⟩ := at_T68 HR0.out x5_1 p530 q530
                    obtain rfl : ad528 = ad530 := (by injection e530)
                    replace p530 := eq_true p530
                    replace q530 := eq_true q530
                    have p531 : 0 ≤ (x5_1 : Int) := of_decide_eq_true (by first | (with_reducible assumption) | assumption)
                    have q531 : x5_1 < (l0.length : Int) := of_decide_eq_true (by first | (with_reducible assumption) | assumption)
                    obtain ⟨ad531, e531, hx531_0, hx531_1, hx531_2, hx531_3, hx531_4⟩ := at_T68 HR0.out x5_1 p531 q531
                    obtain rfl : ad528 = ad531 := (by injection e531)
                    replace p531 := eq_true p531
                    replace q531 := eq_true q531
                    have p532 : 0 ≤ (x5_1 : Int) := of_decide_eq_true (by first | (with_reducible assumption) | assumption)
                    have q532 : x5_1 < (l0.length : Int) := of_decide_eq_true (by first | (with_reducible assumption) | assumption)
                    obtain ⟨ad532, e532, hx532_0, hx532_1, hx532_2, hx532_3, hx532_4⟩ := at_T68 HR0.out x5_1 p532 q532
                    obtain rfl : ad528 = ad532 := (by injection e532)
                    replace p532 := eq_true p532
                    replace q532 := eq_true q532
                    go_wp2
                    go_ret
                    exact ⟨by first | rfl | (simp; done) | (simp [*]; done), by repeat (first | exact Drawn0.refl _ | apply Drawn0.step)⟩
                · rw [if_neg c8] at H
                  have c8b0 : (((rd_T68 l0 x5_1).f1.f2) == (wrap64 ((wrap64 ((wrap64 (x1_1 + 1)) + 1)) + 1))) = false := beq_eq_false_iff_ne.mpr c8
                  have c8b1 : (((rd_T68 l0 x5_1).f1.f2) != (wrap64 ((wrap64 ((wrap64 (x1_1 + 1)) + 1)) + 1))) = true := bne_iff_ne.mpr c8
                  obtain rfl := Option.some.inj H
                  have p528 : 0 ≤ (x5_1 : Int) := of_decide_eq_true (by first | (with_reducible assumption) | assumption)
                  have q528 : x5_1 < (l0.length : Int) := of_decide_eq_true (by first | (with_reducible assumption) | assumption)
                  obtain ⟨ad528, e528, hx528_0, hx528_1, hx528_2, hx528_3, hx528_4⟩ := at_T68 HR0.out x5_1 p528 q528
                  cases e528
                  replace p528 := eq_true p528
                  replace q528 := eq_true q528
                  have p529 : 0 ≤ (x5_1 : Int) := of_decide_eq_true (by first | (with_reducible assumption) | assumption)
                  have q529 : x5_1 < (l0.length : Int) := of_decide_eq_true (by first | (with_reducible assumption) | assumption)
                  obtain ⟨ad529, e529, hx529_0, hx529_1, hx529_2, hx529_3, hx529_4⟩ := at_T68 HR0.out x5_1 p529 q529
                  obtain rfl : ad528 = ad529 := (by injection e529)
                  replace p529 := eq_true p529
                  replace q529 := eq_true q529
                  have p530 : 0 ≤ (x5_1 : Int) := of_decide_eq_true (by first | (with_reducible assumption) | assumption)
                  have q530 : x5_1 < (l0.length : Int) := of_decide_eq_true (by first | (with_reducible assumption) | assumption)
                  obtain ⟨ad530, e530, hx530_0, hx530_1, hx530_2, hx530_3, hx530_4⟩ := at_T68 HR0.out x5_1 p530 q530
                  obtain rfl : ad528 = ad530 := (by injection e530)
                  replace p530 := eq_true p530
                  replace q530 := eq_true q530
                  have p531 : 0 ≤ (x5_1 : Int) := of_decide_eq_true (by first | (with_reducible assumption) | assumption)
                  have q531 : x5_1 < (l0.length : Int) := of_decide_eq_true (by first | (with_reducible assumption) | assumption)
                  obtain ⟨ad531, e531, hx531_0, hx531_1, hx531_2, hx531_3, hx531_4⟩ := at_T68 HR0.out x5_1 p531 q531
                  obtain rfl : ad528 = ad531 := (by injection e531)
                  replace p531 := eq_true p531
                  replace q531 := eq_true q531
                  go_wp2
                  go_ret
                  exact ⟨by first | rfl | (simp; done) | (simp [*]; done), by repeat (first | exact Drawn0.refl _ | apply Drawn0.step)⟩
              · rw [if_neg c7] at H
                have c7b0 : (((rd_T68 l0 x5_1).f1.f1) == (wrap64 ((wrap64 (x1_1 + 1)) + 1))) = false := beq_eq_false_iff_ne.mpr c7
                have c7b1 : (((rd_T68 l0 x5_1).f1.f1) != (wrap64 ((wrap64 (x1_1 + 1)) + 1))) = true := bne_iff_ne.mpr c7
                obtain rfl := Option.some.inj H
                have p528 : 0 ≤ (x5_1 : Int) := of_decide_eq_true (by first | (with_reducible assumption) | assumption)
                have q528 : x5_1 < (l0.length : Int) := of_decide_eq_true (by first | (with_reducible assumption) | assumption)
                obtain ⟨ad528, e528, hx528_0, hx528_1, hx528_2, hx528_3, hx528_4⟩ := at_T68 HR0.out x5_1 p528 q528
                cases e528
                replace p528 := eq_true p528
                replace q528 := eq_true q528
                have p529 : 0 ≤ (x5_1 : Int) := of_decide_eq_true (by first | (with_reducible assumption) | assumption)
                have q529 : x5_1 < (l0.length : Int) := of_decide_eq_true (by first | (with_reducible assumption) | assumption)
                obtain ⟨ad529, e529, hx529_0, hx529_1, hx529_2, hx529_3, hx529_4⟩ := at_T68 HR0.out x5_1 p529 q529
                obtain rfl : ad528 = ad529 := (by injection e529)
                replace p529 := eq_true p529
                replace q529 := eq_true q529
                have p530 : 0 ≤ (x5_1 : Int) := of_decide_eq_true (by first | (with_reducible assumption) | assumption)
                have q530 : x5_1 < (l0.length : Int) := of_decide_eq_true (by first | (with_reducible assumption) | assumption)
                obtain ⟨ad530, e530, hx530_0, hx530_1, hx530_2, hx530_3, hx530_4⟩ := at_T68 HR0.out x5_1 p530 q530
                obtain rfl : ad528 = ad530 := (by injection e530)
                replace p530 := eq_true p530
                replace q530 := eq_true q530
                go_wp2
                go_ret
                exact ⟨by first | rfl | (simp; done) | (simp [*]; done), by repeat (first | exact Drawn0.refl _ | apply Drawn0.step)⟩
            · rw [if_neg c6] at H
              have c6b0 : (((rd_T68 l0 x5_1).f1.f0) == (wrap64 (x1_1 + 1))) = false := beq_eq_false_iff_ne.mpr c6
              have c6b1 : (((rd_T68 l0 x5_1).f1.f0) != (wrap64 (x1_1 + 1))) = true := bne_iff_ne.mpr c6
              obtain rfl := Option.some.inj H
              have p528 : 0 ≤ (x5_1 : Int) := of_decide_eq_true (by first | (with_reducible assumption) | assumption)
              have q528 : x5_1 < (l0.length : Int) := of_decide_eq_true (by first | (with_reducible assumption) | assumption)
              obtain ⟨ad528, e528, hx528_0, hx528_1, hx528_2, hx528_3, hx528_4⟩ := at_T68 HR0.out x5_1 p528 q528
              cases e528
              replace p528 := eq_true p528
              replace q528 := eq_true q528
              have p529 : 0 ≤ (x5_1 : Int) := of_decide_eq_true (by first | (with_reducible assumption) | assumption)
              have q529 : x5_1 < (l0.length : Int) := of_decide_eq_true (by first | (with_reducible assumption) | assumption)
              obtain ⟨ad529, e529, hx529_0, hx529_1, hx529_2, hx529_3, hx529_4⟩ := at_T68 HR0.out x5_1 p529 q529
              obtain rfl : ad528 = ad529 := (by injection e529)
              replace p529 := eq_true p529
              replace q529 := eq_true q529
              go_wp2
              go_ret
              exact ⟨by first | rfl | (simp; done) | (simp [*]; done), by repeat (first | exact Drawn0.refl _ | apply Drawn0.step)⟩
          · rw [if_neg c5] at H
            have c5b0 : (((rd_T68 l0 x5_1).f0) == x1_1) = false := beq_eq_false_iff_ne.mpr c5
            have c5b1 : (((rd_T68 l0 x5_1).f0) != x1_1) = true := bne_iff_ne.mpr c5
            obtain rfl := Option.some.inj H
            have p528 : 0 ≤ (x5_1 : Int) := of_decide_eq_true (by first | (with_reducible assumption) | assumption)
            have q528 : x5_1 < (l0.length : Int) := of_decide_eq_true (by first | (with_reducible assumption) | assumption)
            obtain ⟨ad528, e528, hx528_0, hx528_1, hx528_2, hx528_3, hx528_4⟩ := at_T68 HR0.out x5_1 p528 q528
            cases e528
            replace p528 := eq_true p528
            replace q528 := eq_true q528
            go_wp2
            go_ret
            exact ⟨by first | rfl | (simp; done) | (simp [*]; done), by repeat (first | exact Drawn0.refl _ | apply Drawn0.step)⟩
        · rw [if_neg c4] at H
          exact absurd H (by simp)
      · rw [if_neg c3] at H
        have c3b0 : decide (x5_1 < (l0.length : Int)) = false := decide_eq_false c3
        clear c3
        obtain rfl := Option.some.inj H
        go_wp2
        go_ret
        exact ⟨by first | rfl | (simp; done) | (simp [*]; done), by repeat (first | exact Drawn0.refl _ | apply Drawn0.step)⟩

end Go.Proofs.Ythenmlaleobapaa.All

/- markEntryS writes count, count + 1, .. into the numbers of a row of entries of one's own, and returns the next number. No condition. -/
namespace Go.Proofs.Ythenmlaleobapaa.All
open Go.RowKit Go.Proofs.YthenmlaleobapaaW.PrintWords Go.Proofs.YthenmlaleobapaaW.PrintLast Go.Proofs.YthenmlaleobapaaW.PrintMore
set_option linter.unusedVariables false
set_option linter.unusedSimpArgs false

/-! ### laws_markEntryS: by hand -/
def w1 (n : Int) : Int := wrap64 (n + 1)
def laws_markEntryS.l0 : Nat → List S82 → Int → Int → Option (Int × List S82)
  | 0, _, _, _ => none
  | k + 1, x0, x1, x5 => if x5 < (x0.length : Int) then (if 0 ≤ x5 then (laws_markEntryS.l0 k (x0.set x5.toNat ⟨x1, ⟨w1 x1, w1 (w1 x1), w1 (w1 (w1 x1)), w1 (w1 (w1 (w1 x1)))⟩⟩) (w1 (w1 (w1 (w1 (w1 x1))))) (wrap64 (x5 + 1))) else none) else (some (x1, x0))
def laws_markEntryS.f (k : Nat) (l0 : List S82) (a1 : Int) : Option (Int × List S82) := laws_markEntryS.l0 k l0 a1 0
theorem laws_markEntryS.mono_l : ∀ k, (∀ y0 y1 y2, LeO (laws_markEntryS.l0 k y0 y1 y2) (laws_markEntryS.l0 (k + 1) y0 y1 y2))
  | 0 => fun _ _ _ r h => by simp [laws_markEntryS.l0] at h
  | k + 1 => by
    have ih0 := laws_markEntryS.mono_l k
    intro y0 y1 y2
    unfold laws_markEntryS.l0
    exact LeO.ite (LeO.ite (ih0 _ _ _) (LeO.refl _)) (LeO.refl _)
theorem laws_markEntryS.mono : ∀ a0 a1 k, LeO (laws_markEntryS.f k a0 a1) (laws_markEntryS.f (k + 1) a0 a1) := fun a0 a1 k => laws_markEntryS.mono_l k _ _ _
set_option maxHeartbeats 8000000 in
set_option maxRecDepth 100000 in
theorem laws_markEntryS.calls (k : Nat) (P0_ : Nat → Prop) (u9000_ : Value) (l0 : List S82) (a1 : Int) (r1 : Int) (r2 : List S82) (w0 w : World) (hB : Below w0.heap.size w0 w) (ho0 : Kd.R k82 82 w w0.heap.size P0_ u9000_ l0) (h : laws_markEntryS.f k l0 a1 = some (r1, r2)) :
    Calls Try.prog 37 #[u9000_, .int .i64 a1] w fun e w' => e = .returned (.int .i64 r1) ∧ Kd.R k82 82 w' w0.heap.size (fun k_ => (P0_ k_ ∨ w.heap.size ≤ k_)) u9000_ r2 ∧ Below w0.heap.size w0 w' ∧ Kept w w' (fun k_ => P0_ k_) := by
  have HO0 := Aside0.mk (show Kd.R k82 82 w w0.heap.size (fun k_ => (P0_ k_ ∨ w.heap.size ≤ k_)) u9000_ l0 from Kd.R_mono ho0 (fun k_ hk => (.inl hk)))
  have HK := Aside0.mk (Kept.refl w (fun k_ => P0_ k_))
  have HB := Aside0.mk hB
  clear hB ho0
  have H' := Aside0.mk h
  clear h
  have hu1 := Try.underlying82
  go_enter Try.func37, Try.ntmps37
  go_wp2
  go_loopg [1, 5] k (fun kq v1 v5 w' => ∃ (x0_1 : List S82) (x1_1 : Int) (x5_1 : Int), v1 = .int .i64 x1_1 ∧ v5 = .int .i64 x5_1 ∧ Aside0 (laws_markEntryS.l0 kq x0_1 x1_1 x5_1 = some (r1, r2)) ∧ Aside0 (kq ≤ k) ∧ Aside0 (Kd.R k82 82 w' w0.heap.size (fun k_ => (P0_ k_ ∨ w.heap.size ≤ k_)) u9000_ x0_1) ∧ Aside0 (Kept w w' (fun k_ => P0_ k_)) ∧ Aside0 (Below w0.heap.size w0 w'))
  case atStart => exact ⟨l0, a1, 0, rfl, rfl, H', ⟨Nat.le_refl _⟩, HO0, HK, HB⟩
  case round =>
    clear H' HO0 HK HB
    obtain ⟨x0_1, x1_1, x5_1, rfl, rfl, HA, HK1, HO, HK, HB⟩ := hrel
    cases gk with
    | zero => exact absurd HA.out (by simp [laws_markEntryS.l0])
    | succ k1 =>
      have H := HA.out
      clear HA
      simp only [laws_markEntryS.l0] at H
      by_cases c3 : x5_1 < (x0_1.length : Int)
      · rw [if_pos c3] at H
        by_cases c4 : 0 ≤ x5_1
        · rw [if_pos c4] at H
          have H' := Aside0.mk H
          clear H
          obtain ⟨Ao6, co6, eo6⟩ := Kd.R_slice HO.out
          subst eo6
          obtain ⟨go5, co5, eo5, gb5, gl5, cl5, HG5⟩ := Kd.R_form HO.out (by omega)
          injection eo5 with ea_ en_ ec_
          subst ea_
          subst ec_
          clear en_
          have hPg := Aside0.mk (show (P0_ go5 ∨ w.heap.size ≤ go5) from (HO.out.1 _ rfl))
          obtain ⟨c, hcl, hM, hcc, hfr⟩ := Kd.R_elem HO.out z82 x5_1 c4 c3
          obtain rfl := k82_openM hM
          have HP := Aside0.mk (Kd.R_seg HO.out x5_1 c4 c3 (seg := [.int .i64 x1_1, .int .i64 (w1 x1_1), .int .i64 (w1 (w1 x1_1)), .int .i64 (w1 (w1 (w1 x1_1))), .int .i64 (w1 (w1 (w1 (w1 x1_1))))]) (j := 0) hcl hcc (show 5 ≤ 5 from Nat.le_refl _) (x' := (⟨x1_1, ⟨w1 x1_1, w1 (w1 x1_1), w1 (w1 (w1 x1_1)), w1 (w1 (w1 (w1 x1_1)))⟩⟩ : S82)) (k82_mkM wr w0.heap.size (fun _ => False) _) (fun _ hk => hk.elim))
          have hx0 : wr.cell? ⟨go5, x5_1.toNat * 5, none⟩ = some _ := hcc 0 _ rfl
          have hx1 : wr.cell? ⟨go5, x5_1.toNat * 5 + 1, none⟩ = some _ := hcc 1 _ rfl
          have hx2 : wr.cell? ⟨go5, x5_1.toNat * 5 + 2, none⟩ = some _ := hcc 2 _ rfl
          have hx3 : wr.cell? ⟨go5, x5_1.toNat * 5 + 3, none⟩ = some _ := hcc 3 _ rfl
          have hx4 : wr.cell? ⟨go5, x5_1.toNat * 5 + 4, none⟩ = some _ := hcc 4 _ rfl
          have hf0 : wr.frozen? ⟨go5, x5_1.toNat * 5, none⟩ = false := hfr 0
          have hf1 : wr.frozen? ⟨go5, x5_1.toNat * 5 + 1, none⟩ = false := hfr 1
          have hf2 : wr.frozen? ⟨go5, x5_1.toNat * 5 + 2, none⟩ = false := hfr 2
          have hf3 : wr.frozen? ⟨go5, x5_1.toNat * 5 + 3, none⟩ = false := hfr 3
          have hf4 : wr.frozen? ⟨go5, x5_1.toNat * 5 + 4, none⟩ = false := hfr 4
          clear hcc hfr hM hcl
          have GB := Aside0.mk gb5
          clear gb5 gl5 HG5
          have c3b0 : decide (x5_1 < (x0_1.length : Int)) = true := decide_eq_true c3
          go_wp2_with fail
          go_roundg k1
          case measure => have := HK1.out; omega
          case rel => exact ⟨_, _, _, rfl, rfl, H', ⟨by have := HK1.out; omega⟩, ⟨HP.out.1⟩, ⟨((((HK.out.setCell hPg.out _).setCell hPg.out _).setCell hPg.out _).setCell hPg.out _).setCell hPg.out _⟩, ⟨below_set (below_set (below_set (below_set (below_set HB.out GB.out) GB.out) GB.out) GB.out) GB.out⟩⟩
        · rw [if_neg c4] at H
          exact absurd H (by simp)
      · rw [if_neg c3] at H
        have c3b0 : decide (x5_1 < (x0_1.length : Int)) = false := decide_eq_false c3
        clear c3
        simp only [Option.some.injEq, Prod.mk.injEq] at H
        obtain ⟨rfl, rfl⟩ := H
        obtain ⟨Ao9, co9, eo9⟩ := Kd.R_slice HO.out
        subst eo9
        go_wp2
        go_ret
        exact ⟨rfl, HO.out, HB.out, HK.out⟩

end Go.Proofs.Ythenmlaleobapaa.All

/- markPageS and markBook write count, count + 1, .. into the numbers of the pages of a book of one's own, and return the next number. No condition. -/
namespace Go.Proofs.Ythenmlaleobapaa.All
open Go.RowKit Go.Proofs.YthenmlaleobapaaW.PrintWords Go.Proofs.YthenmlaleobapaaW.PrintLast Go.Proofs.YthenmlaleobapaaW.PrintMore
set_option linter.unusedVariables false
set_option linter.unusedSimpArgs false

/-! ### laws_markPageS: by hand -/
/-- What the marks make of a bool. -/
def m3 (n : Int) : Bool := Int.tmod n 3 == 0
def laws_markPageS.l0 : Nat → List S77 → Int → Int → Option (Int × List S77)
  | 0, _, _, _ => none
  | k + 1, x0, x1, x5 => if x5 < (x0.length : Int) then (if 0 ≤ x5 then ((laws_markEntryS.f k (rd_T77 x0 x5).f1.f1 (w1 (w1 x1))).bind fun t => laws_markPageS.l0 k (x0.set x5.toNat ⟨m3 x1, ⟨m3 (w1 x1), t.2⟩⟩) t.1 (wrap64 (x5 + 1))) else none) else (some (x1, x0))
def laws_markPageS.f (k : Nat) (l0 : List S77) (a1 : Int) : Option (Int × List S77) := laws_markPageS.l0 k l0 a1 0
theorem laws_markPageS.mono_l : ∀ k, (∀ y0 y1 y2, LeO (laws_markPageS.l0 k y0 y1 y2) (laws_markPageS.l0 (k + 1) y0 y1 y2))
  | 0 => fun _ _ _ r h => by simp [laws_markPageS.l0] at h
  | k + 1 => by
    have ih0 := laws_markPageS.mono_l k
    intro y0 y1 y2
    unfold laws_markPageS.l0
    exact LeO.ite (LeO.ite (LeO.bind (laws_markEntryS.mono _ _ _) (fun _ => ih0 _ _ _)) (LeO.refl _)) (LeO.refl _)
theorem laws_markPageS.mono : ∀ a0 a1 k, LeO (laws_markPageS.f k a0 a1) (laws_markPageS.f (k + 1) a0 a1) := fun a0 a1 k => laws_markPageS.mono_l k _ _ _
theorem size_set2 (w : World) (a b : Addr) (u v : Value) : ((w.setCell a u).setCell b v).heap.size = w.heap.size := by simp [World.setCell]
theorem mark_back {w0 w wr wc w' : World} {P0_ oki : Nat → Prop} {g n cap c2 m : Nat} {A2 : Option Addr} {x5 : Int} {b0 b1 : Bool} {xs : List S77} {q2 : List S82}
    (h : Kd.H k77 77 wc w0.heap.size (fun k_ => (P0_ k_ ∨ w.heap.size ≤ k_)) (.slice (some ⟨g, 0, none⟩) n cap) xs x5 (fun k => oki k ∨ (P0_ k ∨ w.heap.size ≤ k) ∧ wr.heap.size ≤ k) [.bool b0, .bool b1, .slice A2 m c2])
    (hk : Kept wc w' (fun k_ => oki k_)) (ho : Kd.R k82 82 w' w0.heap.size (fun k_ => (oki k_ ∨ wc.heap.size ≤ k_)) (.slice A2 m c2) q2) (hle : w.heap.size ≤ wr.heap.size) (hsz : wc.heap.size = wr.heap.size) :
    Kd.S k77 77 w' w0.heap.size (fun k_ => (P0_ k_ ∨ w.heap.size ≤ k_)) (.slice (some ⟨g, 0, none⟩) n cap) (xs.set x5.toNat ⟨b0, ⟨b1, q2⟩⟩) := by
  refine Kd.H_back (Kd.H_kept h hk (fun k _ hn hs => hn (.inl hs))) (k77_mkM w' w0.heap.size _ (⟨b0, ⟨b1, q2⟩⟩ : S77) ho) (fun k hk => ?_)
  rcases hk with hk | hk
  · exact .inl hk
  · rw [hsz] at hk
    exact .inr ⟨.inr (by omega), hk⟩
set_option maxHeartbeats 2000000 in
set_option maxRecDepth 100000 in
theorem laws_markPageS.calls (k : Nat) (P0_ : Nat → Prop) (u9000_ : Value) (l0 : List S77) (a1 : Int) (r1 : Int) (r2 : List S77) (w0 w : World) (hB : Below w0.heap.size w0 w) (ho0 : Kd.S k77 77 w w0.heap.size P0_ u9000_ l0) (h : laws_markPageS.f k l0 a1 = some (r1, r2)) :
    Calls Try.prog 76 #[u9000_, .int .i64 a1] w fun e w' => e = .returned (.int .i64 r1) ∧ Kd.S k77 77 w' w0.heap.size (fun k_ => (P0_ k_ ∨ w.heap.size ≤ k_)) u9000_ r2 ∧ Below w0.heap.size w0 w' ∧ Kept w w' (fun k_ => P0_ k_) := by
  have HO0 := Aside0.mk (show Kd.S k77 77 w w0.heap.size (fun k_ => (P0_ k_ ∨ w.heap.size ≤ k_)) u9000_ l0 from Kd.S_mono ho0 (fun k_ hk => (.inl hk)))
  have HK := Aside0.mk (Kept.refl w (fun k_ => P0_ k_))
  have HB := Aside0.mk hB
  clear hB ho0
  have H' := Aside0.mk h
  clear h
  have hu1 := Try.underlying77
  have hu2 := Try.underlying75
  go_enter Try.func76, Try.ntmps76
  go_wp2
  go_loopg [1, 5] k (fun kq v1 v5 w' => ∃ (x0_1 : List S77) (x1_1 : Int) (x5_1 : Int), v1 = .int .i64 x1_1 ∧ v5 = .int .i64 x5_1 ∧ Aside0 (laws_markPageS.l0 kq x0_1 x1_1 x5_1 = some (r1, r2)) ∧ Aside0 (kq ≤ k) ∧ Aside0 (Kd.S k77 77 w' w0.heap.size (fun k_ => (P0_ k_ ∨ w.heap.size ≤ k_)) u9000_ x0_1) ∧ Aside0 (Kept w w' (fun k_ => P0_ k_)) ∧ Aside0 (Below w0.heap.size w0 w'))
  case atStart => exact ⟨l0, a1, 0, rfl, rfl, H', ⟨Nat.le_refl _⟩, HO0, HK, HB⟩
  case round =>
    clear H' HO0 HK HB
    obtain ⟨x0_1, x1_1, x5_1, rfl, rfl, HA, HK1, HO, HK, HB⟩ := hrel
    cases gk with
    | zero => exact absurd HA.out (by simp [laws_markPageS.l0])
    | succ k1 =>
      have H := HA.out
      clear HA
      simp only [laws_markPageS.l0] at H
      by_cases c3 : x5_1 < (x0_1.length : Int)
      · rw [if_pos c3] at H
        by_cases c4 : 0 ≤ x5_1
        · rw [if_pos c4] at H
          obtain ⟨⟨q1, q2⟩, hq, H⟩ := Option.bind_eq_some_iff.mp H
          have H' := Aside0.mk H
          clear H
          replace hq : laws_markEntryS.f k1 (x0_1.getD x5_1.toNat z77).f1.f1 (w1 (w1 x1_1)) = some (q1, q2) := hq
          obtain ⟨Ao6, co6, eo6⟩ := Kd.S_slice HO.out
          subst eo6
          obtain ⟨go5, co5, eo5, gb5, gl5, cl5, HG5⟩ := Kd.S_form HO.out (by omega)
          injection eo5 with ea_ en_ ec_
          subst ea_
          subst ec_
          clear en_
          have hPg := Aside0.mk (show (P0_ go5 ∨ w.heap.size ≤ go5) from ((Kd.S_R HO.out).1 _ rfl))
          obtain ⟨oki, c, hcl, hM, hcc, hfr, hoki, hH⟩ := Kd.S_elem HO.out z77 x5_1 c4 c3
          generalize x0_1.getD x5_1.toNat z77 = pg at hM hq
          have HQ := Aside0.mk hq
          clear hq
          obtain ⟨v2, rfl, g2⟩ := k77_openM hM
          obtain ⟨A2, c2, ev2⟩ := Kd.R_slice g2
          subst ev2
          have hseg := Kd.H_seg (Kd.H_widen hH) c4 c3 (seg := [.bool (m3 x1_1), .bool (m3 (w1 x1_1))]) (j := 0) (show 2 ≤ 3 by decide) (by intro q hq; simp at hq; rcases hq with rfl | rfl <;> rfl)
          have HSEG := Aside0.mk hseg
          have G2 := Aside0.mk g2
          have OKI := Aside0.mk hoki
          have hx0 : wr.cell? ⟨go5, x5_1.toNat * 3, none⟩ = some _ := hcc 0 _ rfl
          have hx1 : wr.cell? ⟨go5, x5_1.toNat * 3 + 1, none⟩ = some _ := hcc 1 _ rfl
          have hx2 : wr.cell? ⟨go5, x5_1.toNat * 3 + 2, none⟩ = some _ := hcc 2 _ rfl
          have hf0 : wr.frozen? ⟨go5, x5_1.toNat * 3, none⟩ = false := hfr 0
          have hf1 : wr.frozen? ⟨go5, x5_1.toNat * 3 + 1, none⟩ = false := hfr 1
          clear hcc hfr hM hcl hseg g2 hoki hH
          have GB := Aside0.mk gb5
          clear gb5 gl5 HG5
          have c3b0 : decide (x5_1 < (x0_1.length : Int)) = true := decide_eq_true c3
          go_wp2_with (go_at_call 37; refine (laws_markEntryS.calls k1 oki _ pg.f1.f1 (w1 (w1 x1_1)) q1 q2 w0 _ (below_set (below_set HB.out GB.out) GB.out) (Kd.R_far (p := ⟨go5, x5_1.toNat * 3 + 1, none⟩) (Kd.R_far (p := ⟨go5, x5_1.toNat * 3, none⟩) G2.out (fun k hk => (OKI.out k hk).2) _) (fun k hk => (OKI.out k hk).2) _) HQ.out).mono ?_; rintro e w' ⟨rfl, ho, hb, hk⟩; have HO2 := Aside0.mk ho; have HB2 := Aside0.mk hb; have HK2 := Aside0.mk hk; clear ho hb hk)
          have hS := mark_back HSEG.out.1 HK2.out HO2.out HK.out.1 (size_set2 _ _ _ _ _)
          go_roundg k1
          case measure => have := HK1.out; omega
          case rel => exact ⟨_, _, _, rfl, rfl, H', ⟨by have := HK1.out; omega⟩, ⟨hS⟩, ⟨((HK.out.setCell hPg.out _).setCell hPg.out _).then_ HK2.out (fun k hk => (OKI.out k hk).1)⟩, HB2⟩
        · rw [if_neg c4] at H
          exact absurd H (by simp)
      · rw [if_neg c3] at H
        have c3b0 : decide (x5_1 < (x0_1.length : Int)) = false := decide_eq_false c3
        clear c3
        simp only [Option.some.injEq, Prod.mk.injEq] at H
        obtain ⟨rfl, rfl⟩ := H
        obtain ⟨Ao9, co9, eo9⟩ := Kd.S_slice HO.out
        subst eo9
        go_wp2
        go_ret
        exact ⟨rfl, HO.out, HB.out, HK.out⟩

/-! ### laws_markBook: by hand -/
def laws_markBook.f (k : Nat) (a0_0 : Int) (l0_1 : List S77) (a1 : Int) : Option (Int × List S77) := laws_markPageS.f k l0_1 a1
theorem laws_markBook.mono : ∀ a0 a1 a2 k, LeO (laws_markBook.f k a0 a1 a2) (laws_markBook.f (k + 1) a0 a1 a2) := fun a0 a1 a2 k => laws_markPageS.mono a1 a2 k
set_option maxHeartbeats 2000000 in
set_option maxRecDepth 100000 in
theorem laws_markBook.calls (k : Nat) (P0_1_ : Nat → Prop) (a0_0 : Int) (u9000_ : Value) (l0_1 : List S77) (a1 : Int) (r1 : Int) (r2 : List S77) (w0 w : World) (hB : Below w0.heap.size w0 w) (ho0 : Kd.S k77 77 w w0.heap.size P0_1_ u9000_ l0_1) (h : laws_markBook.f k a0_0 l0_1 a1 = some (r1, r2)) :
    Calls Try.prog 47 #[.agg #[.int .i64 a0_0, u9000_], .int .i64 a1] w fun e w' => e = .returned (.int .i64 r1) ∧ Kd.S k77 77 w' w0.heap.size (fun k_ => (P0_1_ k_ ∨ w.heap.size ≤ k_)) u9000_ r2 ∧ Below w0.heap.size w0 w' ∧ Kept w w' (fun k_ => P0_1_ k_) := by
  obtain ⟨Av, cv, ev⟩ := Kd.S_slice ho0
  subst ev
  have HO := Aside0.mk ho0
  have HB := Aside0.mk hB
  have H' := Aside0.mk h
  clear hB ho0 h
  have hu2 := Try.underlying36
  go_enter Try.func47, Try.ntmps47
  go_wp2_with (first
    | ((with_reducible refine gate_dst (N := 2) rfl ?_); refine box_event ?hg (N := 2) ?hd (cs := #[.int .i64 a0_0, .slice Av l0_1.length cv]) (t := 36) ?hr ?_; (case hd => rfl); (case hg => rfl); (case hr => first | (go_simp; done) | (go_simp; rfl)); intro g2 hg w2 hbox hb; have B2 := Aside0.mk hb; have hk1 : w2.cell? ⟨g2, 1, none⟩ = some (.slice Av l0_1.length cv) := (blk_cell hbox 1).trans rfl; clear hb hg hbox)
    | (go_at_call 76; refine (laws_markPageS.calls k P0_1_ _ l0_1 a1 r1 r2 w0 _ (below_step HB.out B2.out) (Kd.S_below HO.out B2.out) H'.out).mono ?_; rintro e w' ⟨rfl, ho, hb, hk⟩))
  go_ret
  exact ⟨rfl, Kd.S_mono ho (fun k hk => hk.elim .inl (fun h => .inr (Nat.le_trans B2.out.size h))), hb, (Kept.of_below B2.out _).then_ hk (fun k hk => .inl hk)⟩

end Go.Proofs.Ythenmlaleobapaa.All

/- markItemS writes count, count + 1, .. into the numbers of a row of items of one's own, and returns the next number. No condition. -/
namespace Go.Proofs.Ythenmlaleobapaa.All
open Go.RowKit Go.Proofs.YthenmlaleobapaaW.PrintWords Go.Proofs.YthenmlaleobapaaW.PrintLast Go.Proofs.YthenmlaleobapaaW.PrintMore
set_option linter.unusedVariables false
set_option linter.unusedSimpArgs false

/-! ### laws_markItemS: by hand -/
def w1i (n : Int) : Int := wrap64 (n + 1)
def laws_markItemS.l0 : Nat → List S68 → Int → Int → Option (Int × List S68)
  | 0, _, _, _ => none
  | k + 1, x0, x1, x5 => if x5 < (x0.length : Int) then (if 0 ≤ x5 then (laws_markItemS.l0 k (x0.set x5.toNat ⟨x1, ⟨w1i x1, w1i (w1i x1), w1i (w1i (w1i x1)), w1i (w1i (w1i (w1i x1)))⟩⟩) (w1i (w1i (w1i (w1i (w1i x1))))) (wrap64 (x5 + 1))) else none) else (some (x1, x0))
def laws_markItemS.f (k : Nat) (l0 : List S68) (a1 : Int) : Option (Int × List S68) := laws_markItemS.l0 k l0 a1 0
theorem laws_markItemS.mono_l : ∀ k, (∀ y0 y1 y2, LeO (laws_markItemS.l0 k y0 y1 y2) (laws_markItemS.l0 (k + 1) y0 y1 y2))
  | 0 => fun _ _ _ r h => by simp [laws_markItemS.l0] at h
  | k + 1 => by
    have ih0 := laws_markItemS.mono_l k
    intro y0 y1 y2
    unfold laws_markItemS.l0
    exact LeO.ite (LeO.ite (ih0 _ _ _) (LeO.refl _)) (LeO.refl _)
theorem laws_markItemS.mono : ∀ a0 a1 k, LeO (laws_markItemS.f k a0 a1) (laws_markItemS.f (k + 1) a0 a1) := fun a0 a1 k => laws_markItemS.mono_l k _ _ _
set_option maxHeartbeats 8000000 in
set_option maxRecDepth 100000 in
theorem laws_markItemS.calls (k : Nat) (P0_ : Nat → Prop) (u9000_ : Value) (l0 : List S68) (a1 : Int) (r1 : Int) (r2 : List S68) (w0 w : World) (hB : Below w0.heap.size w0 w) (ho0 : Kd.R k68 68 w w0.heap.size P0_ u9000_ l0) (h : laws_markItemS.f k l0 a1 = some (r1, r2)) :
    Calls Try.prog 57 #[u9000_, .int .i64 a1] w fun e w' => e = .returned (.int .i64 r1) ∧ Kd.R k68 68 w' w0.heap.size (fun k_ => (P0_ k_ ∨ w.heap.size ≤ k_)) u9000_ r2 ∧ Below w0.heap.size w0 w' ∧ Kept w w' (fun k_ => P0_ k_) := by
  have HO0 := Aside0.mk (show Kd.R k68 68 w w0.heap.size (fun k_ => (P0_ k_ ∨ w.heap.size ≤ k_)) u9000_ l0 from Kd.R_mono ho0 (fun k_ hk => (.inl hk)))
  have HK := Aside0.mk (Kept.refl w (fun k_ => P0_ k_))
  have HB := Aside0.mk hB
  clear hB ho0
  have H' := Aside0.mk h
  clear h
  have hu1 := Try.underlying68
  go_enter Try.func57, Try.ntmps57
  go_wp2
  go_loopg [1, 5] k (fun kq v1 v5 w' => ∃ (x0_1 : List S68) (x1_1 : Int) (x5_1 : Int), v1 = .int .i64 x1_1 ∧ v5 = .int .i64 x5_1 ∧ Aside0 (laws_markItemS.l0 kq x0_1 x1_1 x5_1 = some (r1, r2)) ∧ Aside0 (kq ≤ k) ∧ Aside0 (Kd.R k68 68 w' w0.heap.size (fun k_ => (P0_ k_ ∨ w.heap.size ≤ k_)) u9000_ x0_1) ∧ Aside0 (Kept w w' (fun k_ => P0_ k_)) ∧ Aside0 (Below w0.heap.size w0 w'))
  case atStart => exact ⟨l0, a1, 0, rfl, rfl, H', ⟨Nat.le_refl _⟩, HO0, HK, HB⟩
  case round =>
    clear H' HO0 HK HB
    obtain ⟨x0_1, x1_1, x5_1, rfl, rfl, HA, HK1, HO, HK, HB⟩ := hrel
    cases gk with
    | zero => exact absurd HA.out (by simp [laws_markItemS.l0])
    | succ k1 =>
      have H := HA.out
      clear HA
      simp only [laws_markItemS.l0] at H
      by_cases c3 : x5_1 < (x0_1.length : Int)
      · rw [if_pos c3] at H
        by_cases c4 : 0 ≤ x5_1
        · rw [if_pos c4] at H
          have H' := Aside0.mk H
          clear H
          obtain ⟨Ao6, co6, eo6⟩ := Kd.R_slice HO.out
          subst eo6
          obtain ⟨go5, co5, eo5, gb5, gl5, cl5, HG5⟩ := Kd.R_form HO.out (by omega)
          injection eo5 with ea_ en_ ec_
          subst ea_
          subst ec_
          clear en_
          have hPg := Aside0.mk (show (P0_ go5 ∨ w.heap.size ≤ go5) from (HO.out.1 _ rfl))
          obtain ⟨c, hcl, hM, hcc, hfr⟩ := Kd.R_elem HO.out z68 x5_1 c4 c3
          obtain rfl := k68_openM hM
          have HP := Aside0.mk (Kd.R_seg HO.out x5_1 c4 c3 (seg := [.int .i64 x1_1, .int .i64 (w1i x1_1), .int .i64 (w1i (w1i x1_1)), .int .i64 (w1i (w1i (w1i x1_1))), .int .i64 (w1i (w1i (w1i (w1i x1_1))))]) (j := 0) hcl hcc (show 5 ≤ 5 from Nat.le_refl _) (x' := (⟨x1_1, ⟨w1i x1_1, w1i (w1i x1_1), w1i (w1i (w1i x1_1)), w1i (w1i (w1i (w1i x1_1)))⟩⟩ : S68)) (k68_mkM wr w0.heap.size (fun _ => False) _) (fun _ hk => hk.elim))
          have hx0 : wr.cell? ⟨go5, x5_1.toNat * 5, none⟩ = some _ := hcc 0 _ rfl
          have hx1 : wr.cell? ⟨go5, x5_1.toNat * 5 + 1, none⟩ = some _ := hcc 1 _ rfl
          have hx2 : wr.cell? ⟨go5, x5_1.toNat * 5 + 2, none⟩ = some _ := hcc 2 _ rfl
          have hx3 : wr.cell? ⟨go5, x5_1.toNat * 5 + 3, none⟩ = some _ := hcc 3 _ rfl
          have hx4 : wr.cell? ⟨go5, x5_1.toNat * 5 + 4, none⟩ = some _ := hcc 4 _ rfl
          have hf0 : wr.frozen? ⟨go5, x5_1.toNat * 5, none⟩ = false := hfr 0
          have hf1 : wr.frozen? ⟨go5, x5_1.toNat * 5 + 1, none⟩ = false := hfr 1
          have hf2 : wr.frozen? ⟨go5, x5_1.toNat * 5 + 2, none⟩ = false := hfr 2
          have hf3 : wr.frozen? ⟨go5, x5_1.toNat * 5 + 3, none⟩ = false := hfr 3
          have hf4 : wr.frozen? ⟨go5, x5_1.toNat * 5 + 4, none⟩ = false := hfr 4
          clear hcc hfr hM hcl
          have GB := Aside0.mk gb5
          clear gb5 gl5 HG5
          have c3b0 : decide (x5_1 < (x0_1.length : Int)) = true := decide_eq_true c3
          go_wp2_with fail
          go_roundg k1
          case measure => have := HK1.out; omega
          case rel => exact ⟨_, _, _, rfl, rfl, H', ⟨by have := HK1.out; omega⟩, ⟨HP.out.1⟩, ⟨((((HK.out.setCell hPg.out _).setCell hPg.out _).setCell hPg.out _).setCell hPg.out _).setCell hPg.out _⟩, ⟨below_set (below_set (below_set (below_set (below_set HB.out GB.out) GB.out) GB.out) GB.out) GB.out⟩⟩
        · rw [if_neg c4] at H
          exact absurd H (by simp)
      · rw [if_neg c3] at H
        have c3b0 : decide (x5_1 < (x0_1.length : Int)) = false := decide_eq_false c3
        clear c3
        simp only [Option.some.injEq, Prod.mk.injEq] at H
        obtain ⟨rfl, rfl⟩ := H
        obtain ⟨Ao9, co9, eo9⟩ := Kd.R_slice HO.out
        subst eo9
        go_wp2
        go_ret
        exact ⟨rfl, HO.out, HB.out, HK.out⟩

end Go.Proofs.Ythenmlaleobapaa.All

/- Small lemmas on worlds for the laws' chains. No condition. -/
namespace Go.Proofs.Ythenmlaleobapaa.All
open Go.RowKit Go.Proofs.YthenmlaleobapaaW.PrintWords Go.Proofs.YthenmlaleobapaaW.PrintLast Go.Proofs.YthenmlaleobapaaW.PrintMore
theorem calls_args {P : Program} {f : FuncId} {args args' : Array Value} {w : World} {Q : Ending → World → Prop} (h : args = args') (hc : Calls P f args' w Q) : Calls P f args w Q := h ▸ hc
end Go.Proofs.Ythenmlaleobapaa.All

/- The law FnExactAll as a chain over the contracts of what it calls. No condition. -/
namespace Go.Proofs.Ythenmlaleobapaa.All
open Go.RowKit Go.Proofs.YthenmlaleobapaaW.PrintWords Go.Proofs.YthenmlaleobapaaW.PrintLast Go.Proofs.YthenmlaleobapaaW.PrintMore
set_option linter.unusedVariables false
set_option linter.unusedSimpArgs false

/-! ### laws_FnExactAll -/
def laws_FnExactAll.f (k : Nat) (a0_0 : Int) (l0_1 : List (S102)) : Option Bool := ((laws_szBook.f k a0_0 l0_1 1048576).bind fun r13_0 => (if r13_0 < 0 then some true else ((laws_toBook.f k a0_0 l0_1).bind fun (r17_0, r17_1) => ((spec_All.f k r17_0 r17_1).bind fun r18_0 => ((laws_toBook.f k a0_0 l0_1).bind fun (r20_0, r20_1) => ((impl_All.f k r20_0 r20_1).bind fun r22_0 => ((laws_eqItemS.f k r22_0 r18_0).bind fun r25_0 => (if r25_0 = true then ((laws_toBook.f k a0_0 l0_1).bind fun (r29_0, r29_1) => ((laws_eqBook.f k r20_0 r20_1 r29_0 r29_1).bind fun r30_0 => (if r30_0 = true then ((laws_markBook.f k r20_0 r20_1 1).bind fun (r34_0, r34_1) => ((laws_eqItemS.f k r22_0 r18_0).bind fun r40_0 => (if ¬ r34_0 < 0 then (if r40_0 = true then ((laws_markItemS.f k r22_0 1).bind fun (r45_0, r45_1) => ((laws_heldItemS.f k r45_1 1).bind fun r48_0 => (if ¬ r48_0 < 0 then (if r48_0 = r45_0 then ((laws_toBook.f k a0_0 l0_1).bind fun (r55_0, r55_1) => ((impl_All.f k r55_0 r55_1).bind fun r56_0 => ((laws_eqItemS.f k r56_0 r18_0).bind fun r59_0 => (if r59_0 = true then ((laws_heldItemS.f k r45_1 1).bind fun r63_0 => (if ¬ r63_0 < 0 then (if r63_0 = r45_0 then some true else none) else none)) else none)))) else none) else none))) else none) else none))) else none))) else none))))))))
set_option maxHeartbeats 4000000 in
set_option maxRecDepth 100000 in
theorem laws_FnExactAll.calls (k : Nat) (a0_0 : Int) (A0_1 : Option Addr) (c0_1 : Nat) (l0_1 : List (S102)) (r : Bool) (w : World) (hr0_1 : Kd.C k102 w A0_1 l0_1.length l0_1) (hc0_1 : l0_1.length ≤ c0_1) (h : laws_FnExactAll.f k a0_0 l0_1 = some r) :
    Calls Try.prog 14 #[.agg #[.int .i64 a0_0, .slice A0_1 l0_1.length c0_1]] w fun e w' => e = .returned (.bool r) ∧ Below w.heap.size w w' := by
  have hu31 := Try.underlying31
  have hu36 := Try.underlying36
  have HR0_1 := Aside0.mk hr0_1
  have HC0_1 := Aside0.mk hc0_1
  clear hr0_1 hc0_1
  obtain ⟨T0, hT0⟩ : ∃ n_, n_ = w.heap.size := ⟨_, rfl⟩
  have HT := Aside0.mk (Nat.le_of_eq hT0)
  clear hT0
  have HB := Aside0.mk (Below.refl w.heap.size w)
  have H := h
  clear h
  unfold laws_FnExactAll.f at H
  obtain ⟨r13_0, E13_, H⟩ := Option.bind_eq_some_iff.mp H
  have E13 := Aside0.mk E13_
  clear E13_
  by_cases c15 : r13_0 < 0
  · rw [if_pos c15] at H
    have c15b : decide (r13_0 < 0) = true := decide_eq_true c15
    clear c15
    obtain rfl := Option.some.inj H
    go_enter Try.func14, Try.ntmps14
    go_wp2_with (first
      | ((with_reducible refine gate_dst (N := 1) rfl ?_); refine box_event ?hg (N := 1) ?hd (cs := #[.int .i64 a0_0, .slice A0_1 l0_1.length c0_1]) (t := 31) ?hr ?_; (case hd => rfl); (case hg => rfl); (case hr => first | (go_simp; done) | (go_simp; rfl)); intro g1 hg W1 hbox hb; have hle_ : T0 ≤ g1 := (by rw [hg]; exact HT.out); have hlt_ : g1 < W1.heap.size := blk_lt hbox; have nHB_ := Aside0.mk (below_step HB.out hb); have nHT_ := Aside0.mk (Nat.le_trans HT.out hb.size); clear HB HT; have HB := nHB_; have HT := nHT_; clear nHB_ nHT_; obtain ⟨T1, hT1⟩ : ∃ n_, n_ = W1.heap.size := ⟨_, rfl⟩; have ORD1 := Aside0.mk (show T0 ≤ T1 from by rw [hT1]; exact HT.out); clear HT; have HT := Aside0.mk (Nat.le_of_eq hT1); have BK1 := Aside0.mk hbox; have GB1 := Aside0.mk (show T0 ≤ g1 ∧ g1 < T1 from ⟨hle_, by rw [hT1]; exact hlt_⟩); clear hb hg hbox hle_ hlt_ hT1; have hk1_0 : W1.cell? ⟨g1, 0, none⟩ = some (.int .i64 a0_0) := (blk_cell BK1.out 0).trans rfl; have hk1_1 : W1.cell? ⟨g1, 1, none⟩ = some (.slice A0_1 l0_1.length c0_1) := (blk_cell BK1.out 1).trans rfl)
      | ((with_reducible refine gate_dst (N := 13) rfl ?_); refine goesL_ (some 13) rfl rfl Try.func20 (by kernel_rfl) rfl #[.agg #[.int .i64 a0_0, .slice A0_1 l0_1.length c0_1], .int .i64 1048576] rfl (by (try simp only [List.map_toArray, List.map_cons, List.map_nil]); first | done | rfl | (simp only [List.length_drop, List.length_take]; rfl)) ?_; refine (laws_szBook.calls k a0_0 _ _ l0_1 1048576 r13_0 _ (Kd.C_below HR0_1.out HB.out) HC0_1.out E13.out).mono ?_; rintro e W2 ⟨rfl, hb⟩; refine ⟨_, rfl, ?_⟩; clear hk1_0 hk1_1; have nB1_ := Aside0.mk (blk_below BK1.out hb); have nHB_ := Aside0.mk (below_step HB.out hb); have nHT_ := Aside0.mk (Nat.le_trans HT.out hb.size); clear BK1 HB HT; have BK1 := nB1_; have HB := nHB_; have HT := nHT_; clear nB1_ nHB_ nHT_; clear hb; have hk1_0 : W2.cell? ⟨g1, 0, none⟩ = some (.int .i64 a0_0) := (blk_cell BK1.out 0).trans rfl; have hk1_1 : W2.cell? ⟨g1, 1, none⟩ = some (.slice A0_1 l0_1.length c0_1) := (blk_cell BK1.out 1).trans rfl))
    go_ret
    exact ⟨rfl, HB.out⟩
  rw [if_neg c15] at H
  have c15b : decide (r13_0 < 0) = false := decide_eq_false c15
  clear c15
  obtain ⟨⟨r17_0, r17_1⟩, E17_, H⟩ := Option.bind_eq_some_iff.mp H
  have E17 := Aside0.mk E17_
  clear E17_
  try dsimp only at H
  obtain ⟨r18_0, E18_, H⟩ := Option.bind_eq_some_iff.mp H
  have E18 := Aside0.mk E18_
  clear E18_
  obtain ⟨⟨r20_0, r20_1⟩, E20_, H⟩ := Option.bind_eq_some_iff.mp H
  have E20 := Aside0.mk E20_
  clear E20_
  try dsimp only at H
  obtain ⟨r22_0, E22_, H⟩ := Option.bind_eq_some_iff.mp H
  have E22 := Aside0.mk E22_
  clear E22_
  obtain ⟨r25_0, E25_, H⟩ := Option.bind_eq_some_iff.mp H
  have E25 := Aside0.mk E25_
  clear E25_
  by_cases F26_1 : r25_0 = true
  rotate_left
  · rw [if_neg F26_1] at H
    exact absurd H (by simp)
  rw [if_pos F26_1] at H
  subst F26_1
  obtain ⟨⟨r29_0, r29_1⟩, E29_, H⟩ := Option.bind_eq_some_iff.mp H
  have E29 := Aside0.mk E29_
  clear E29_
  try dsimp only at H
  obtain ⟨r30_0, E30_, H⟩ := Option.bind_eq_some_iff.mp H
  have E30 := Aside0.mk E30_
  clear E30_
  by_cases F31_2 : r30_0 = true
  rotate_left
  · rw [if_neg F31_2] at H
    exact absurd H (by simp)
  rw [if_pos F31_2] at H
  subst F31_2
  obtain ⟨⟨r34_0, r34_1⟩, E34_, H⟩ := Option.bind_eq_some_iff.mp H
  have E34 := Aside0.mk E34_
  clear E34_
  try dsimp only at H
  obtain ⟨r40_0, E40_, H⟩ := Option.bind_eq_some_iff.mp H
  have E40 := Aside0.mk E40_
  clear E40_
  by_cases F42_3 : ¬ r34_0 < 0
  rotate_left
  · rw [if_neg F42_3] at H
    exact absurd H (by simp)
  rw [if_pos F42_3] at H
  have F42_3b : decide (r34_0 < 0) = false := decide_eq_false F42_3
  clear F42_3
  by_cases F42_4 : r40_0 = true
  rotate_left
  · rw [if_neg F42_4] at H
    exact absurd H (by simp)
  rw [if_pos F42_4] at H
  subst F42_4
  obtain ⟨⟨r45_0, r45_1⟩, E45_, H⟩ := Option.bind_eq_some_iff.mp H
  have E45 := Aside0.mk E45_
  clear E45_
  try dsimp only at H
  obtain ⟨r48_0, E48_, H⟩ := Option.bind_eq_some_iff.mp H
  have E48 := Aside0.mk E48_
  clear E48_
  by_cases F50_5 : ¬ r48_0 < 0
  rotate_left
  · rw [if_neg F50_5] at H
    exact absurd H (by simp)
  rw [if_pos F50_5] at H
  have F50_5b : decide (r48_0 < 0) = false := decide_eq_false F50_5
  clear F50_5
  by_cases F53_6 : r48_0 = r45_0
  rotate_left
  · rw [if_neg F53_6] at H
    exact absurd H (by simp)
  rw [if_pos F53_6] at H
  have F53_6a : (r48_0 != r45_0) = false := by simp [F53_6]
  have F53_6b : (r48_0 == r45_0) = true := by simp [F53_6]
  have F53_6c : decide (r48_0 = r45_0) = true := by simp [F53_6]
  clear F53_6
  obtain ⟨⟨r55_0, r55_1⟩, E55_, H⟩ := Option.bind_eq_some_iff.mp H
  have E55 := Aside0.mk E55_
  clear E55_
  try dsimp only at H
  obtain ⟨r56_0, E56_, H⟩ := Option.bind_eq_some_iff.mp H
  have E56 := Aside0.mk E56_
  clear E56_
  obtain ⟨r59_0, E59_, H⟩ := Option.bind_eq_some_iff.mp H
  have E59 := Aside0.mk E59_
  clear E59_
  by_cases F60_7 : r59_0 = true
  rotate_left
  · rw [if_neg F60_7] at H
    exact absurd H (by simp)
  rw [if_pos F60_7] at H
  subst F60_7
  obtain ⟨r63_0, E63_, H⟩ := Option.bind_eq_some_iff.mp H
  have E63 := Aside0.mk E63_
  clear E63_
  by_cases F65_8 : ¬ r63_0 < 0
  rotate_left
  · rw [if_neg F65_8] at H
    exact absurd H (by simp)
  rw [if_pos F65_8] at H
  have F65_8b : decide (r63_0 < 0) = false := decide_eq_false F65_8
  clear F65_8
  by_cases F68_9 : r63_0 = r45_0
  rotate_left
  · rw [if_neg F68_9] at H
    exact absurd H (by simp)
  rw [if_pos F68_9] at H
  have F68_9a : (r63_0 != r45_0) = false := by simp [F68_9]
  have F68_9b : (r63_0 == r45_0) = true := by simp [F68_9]
  have F68_9c : decide (r63_0 = r45_0) = true := by simp [F68_9]
  clear F68_9
  obtain rfl := Option.some.inj H
  clear H
  go_enter Try.func14, Try.ntmps14
  go_wp2_with (first
    | ((with_reducible refine gate_dst (N := 1) rfl ?_); refine box_event ?hg (N := 1) ?hd (cs := #[.int .i64 a0_0, .slice A0_1 l0_1.length c0_1]) (t := 31) ?hr ?_; (case hd => rfl); (case hg => rfl); (case hr => first | (go_simp; done) | (go_simp; rfl)); intro g1 hg W1 hbox hb; have hle_ : T0 ≤ g1 := (by rw [hg]; exact HT.out); have hlt_ : g1 < W1.heap.size := blk_lt hbox; have nHB_ := Aside0.mk (below_step HB.out hb); have nHT_ := Aside0.mk (Nat.le_trans HT.out hb.size); clear HB HT; have HB := nHB_; have HT := nHT_; clear nHB_ nHT_; obtain ⟨T1, hT1⟩ : ∃ n_, n_ = W1.heap.size := ⟨_, rfl⟩; have ORD1 := Aside0.mk (show T0 ≤ T1 from by rw [hT1]; exact HT.out); clear HT; have HT := Aside0.mk (Nat.le_of_eq hT1); have BK1 := Aside0.mk hbox; have GB1 := Aside0.mk (show T0 ≤ g1 ∧ g1 < T1 from ⟨hle_, by rw [hT1]; exact hlt_⟩); clear hb hg hbox hle_ hlt_ hT1; have hk1_0 : W1.cell? ⟨g1, 0, none⟩ = some (.int .i64 a0_0) := (blk_cell BK1.out 0).trans rfl; have hk1_1 : W1.cell? ⟨g1, 1, none⟩ = some (.slice A0_1 l0_1.length c0_1) := (blk_cell BK1.out 1).trans rfl)
    | ((with_reducible refine gate_dst (N := 13) rfl ?_); refine goesL_ (some 13) rfl rfl Try.func20 (by kernel_rfl) rfl #[.agg #[.int .i64 a0_0, .slice A0_1 l0_1.length c0_1], .int .i64 1048576] rfl (by (try simp only [List.map_toArray, List.map_cons, List.map_nil]); first | done | rfl | (simp only [List.length_drop, List.length_take]; rfl)) ?_; refine (laws_szBook.calls k a0_0 _ _ l0_1 1048576 r13_0 _ (Kd.C_below HR0_1.out HB.out) HC0_1.out E13.out).mono ?_; rintro e W2 ⟨rfl, hb⟩; refine ⟨_, rfl, ?_⟩; clear hk1_0 hk1_1; have nB1_ := Aside0.mk (blk_below BK1.out hb); have nHB_ := Aside0.mk (below_step HB.out hb); have nHT_ := Aside0.mk (Nat.le_trans HT.out hb.size); clear BK1 HB HT; have BK1 := nB1_; have HB := nHB_; have HT := nHT_; clear nB1_ nHB_ nHT_; clear hb; have hk1_0 : W2.cell? ⟨g1, 0, none⟩ = some (.int .i64 a0_0) := (blk_cell BK1.out 0).trans rfl; have hk1_1 : W2.cell? ⟨g1, 1, none⟩ = some (.slice A0_1 l0_1.length c0_1) := (blk_cell BK1.out 1).trans rfl)
    | ((with_reducible refine gate_dst (N := 17) rfl ?_); refine goesL_ (some 17) rfl rfl Try.func22 (by kernel_rfl) rfl #[.agg #[.int .i64 a0_0, .slice A0_1 l0_1.length c0_1]] rfl (by (try simp only [List.map_toArray, List.map_cons, List.map_nil]); first | done | rfl | (simp only [List.length_drop, List.length_take]; rfl)) ?_; refine (laws_toBook.calls k a0_0 _ _ l0_1 r17_0 r17_1 _ (Kd.C_below HR0_1.out HB.out) HC0_1.out E17.out).mono ?_; rintro e W3 ⟨v17, rfl, ho, hb⟩; refine ⟨_, rfl, ?_⟩; clear hk1_0 hk1_1; have nOn_ := Kd.S_lower (Kd.S_bound ho) HB.out.size; have hle_ := HT.out; have nB1_ := Aside0.mk (blk_below BK1.out hb); have nHB_ := Aside0.mk (below_step HB.out hb); have nHT_ := Aside0.mk (Nat.le_trans HT.out hb.size); clear BK1 HB HT; have BK1 := nB1_; have HB := nHB_; have HT := nHT_; clear nB1_ nHB_ nHT_; obtain ⟨T2, hT2⟩ : ∃ n_, n_ = W3.heap.size := ⟨_, rfl⟩; have ORD2 := Aside0.mk (show T1 ≤ T2 from by rw [hT2]; exact HT.out); clear HT; have HT := Aside0.mk (Nat.le_of_eq hT2); have HO17 := Aside0.mk (Kd.S_mono (ok' := fun k_ => T1 ≤ k_ ∧ k_ < T2) nOn_ (fun k_ hk_ => ⟨Nat.le_trans hle_ hk_.2.1, by rw [hT2]; exact hk_.2.2.1⟩)); clear nOn_ hle_ ho hT2; obtain ⟨Ao17, co17, eo17⟩ := Kd.S_slice HO17.out; subst eo17; clear hb; have hk1_0 : W3.cell? ⟨g1, 0, none⟩ = some (.int .i64 a0_0) := (blk_cell BK1.out 0).trans rfl; have hk1_1 : W3.cell? ⟨g1, 1, none⟩ = some (.slice A0_1 l0_1.length c0_1) := (blk_cell BK1.out 1).trans rfl)
    | ((with_reducible refine gate_dst (N := 18) rfl ?_); refine goesL_ (some 18) rfl rfl Try.func55 (by kernel_rfl) rfl #[.agg #[.int .i64 r17_0, .slice Ao17 r17_1.length co17]] rfl (by (try simp only [List.map_toArray, List.map_cons, List.map_nil]); first | done | rfl | (simp only [List.length_drop, List.length_take]; rfl)) ?_; refine (spec_All.calls k r17_0 _ _ r17_1 r18_0 _ (Kd.S_reads' HO17.out).2.2 (Kd.S_reads' HO17.out).2.1 E18.out).mono ?_; rintro e W4 ⟨v18, rfl, ho, hb⟩; refine ⟨_, rfl, ?_⟩; clear hk1_0 hk1_1; have nOn_ := Kd.R_lower (Kd.R_bound ho) HB.out.size; have hle_ := HT.out; have nB1_ := Aside0.mk (blk_below BK1.out hb); have nO17_ := Aside0.mk (Kd.S_below HO17.out hb); have nHB_ := Aside0.mk (below_step HB.out hb); have nHT_ := Aside0.mk (Nat.le_trans HT.out hb.size); clear BK1 HO17 HB HT; have BK1 := nB1_; have HO17 := nO17_; have HB := nHB_; have HT := nHT_; clear nB1_ nO17_ nHB_ nHT_; obtain ⟨T3, hT3⟩ : ∃ n_, n_ = W4.heap.size := ⟨_, rfl⟩; have ORD3 := Aside0.mk (show T2 ≤ T3 from by rw [hT3]; exact HT.out); clear HT; have HT := Aside0.mk (Nat.le_of_eq hT3); have HO18 := Aside0.mk (Kd.R_mono (ok' := fun k_ => T2 ≤ k_ ∧ k_ < T3) nOn_ (fun k_ hk_ => ⟨Nat.le_trans hle_ hk_.2.1, by rw [hT3]; exact hk_.2.2.1⟩)); clear nOn_ hle_ ho hT3; obtain ⟨Ao18, co18, eo18⟩ := Kd.R_slice HO18.out; subst eo18; clear hb; have hk1_0 : W4.cell? ⟨g1, 0, none⟩ = some (.int .i64 a0_0) := (blk_cell BK1.out 0).trans rfl; have hk1_1 : W4.cell? ⟨g1, 1, none⟩ = some (.slice A0_1 l0_1.length c0_1) := (blk_cell BK1.out 1).trans rfl)
    | ((with_reducible refine gate_dst (N := 20) rfl ?_); refine goesL_ (some 20) rfl rfl Try.func22 (by kernel_rfl) rfl #[.agg #[.int .i64 a0_0, .slice A0_1 l0_1.length c0_1]] rfl (by (try simp only [List.map_toArray, List.map_cons, List.map_nil]); first | done | rfl | (simp only [List.length_drop, List.length_take]; rfl)) ?_; refine (laws_toBook.calls k a0_0 _ _ l0_1 r20_0 r20_1 _ (Kd.C_below HR0_1.out HB.out) HC0_1.out E20.out).mono ?_; rintro e W5 ⟨v20, rfl, ho, hb⟩; refine ⟨_, rfl, ?_⟩; clear hk1_0 hk1_1; have nOn_ := Kd.S_lower (Kd.S_bound ho) HB.out.size; have hle_ := HT.out; have nB1_ := Aside0.mk (blk_below BK1.out hb); have nO17_ := Aside0.mk (Kd.S_below HO17.out hb); have nO18_ := Aside0.mk (Kd.R_below HO18.out hb); have nHB_ := Aside0.mk (below_step HB.out hb); have nHT_ := Aside0.mk (Nat.le_trans HT.out hb.size); clear BK1 HO17 HO18 HB HT; have BK1 := nB1_; have HO17 := nO17_; have HO18 := nO18_; have HB := nHB_; have HT := nHT_; clear nB1_ nO17_ nO18_ nHB_ nHT_; obtain ⟨T4, hT4⟩ : ∃ n_, n_ = W5.heap.size := ⟨_, rfl⟩; have ORD4 := Aside0.mk (show T3 ≤ T4 from by rw [hT4]; exact HT.out); clear HT; have HT := Aside0.mk (Nat.le_of_eq hT4); have HO20 := Aside0.mk (Kd.S_mono (ok' := fun k_ => T3 ≤ k_ ∧ k_ < T4) nOn_ (fun k_ hk_ => ⟨Nat.le_trans hle_ hk_.2.1, by rw [hT4]; exact hk_.2.2.1⟩)); clear nOn_ hle_ ho hT4; obtain ⟨Ao20, co20, eo20⟩ := Kd.S_slice HO20.out; subst eo20; clear hb; have hk1_0 : W5.cell? ⟨g1, 0, none⟩ = some (.int .i64 a0_0) := (blk_cell BK1.out 0).trans rfl; have hk1_1 : W5.cell? ⟨g1, 1, none⟩ = some (.slice A0_1 l0_1.length c0_1) := (blk_cell BK1.out 1).trans rfl)
    | ((with_reducible refine gate_dst (N := 5) rfl ?_); refine box_event ?hg (N := 5) ?hd (cs := #[.int .i64 0, .slice none 0 0]) (t := 36) ?hr ?_; (case hd => rfl); (case hg => rfl); (case hr => first | (go_simp; done) | (go_simp; rfl)); intro g5 hg W6 hbox hb; have hs5_0 : W6.cell? ⟨g5, 0, none⟩ = some (.int .i64 0) := (blk_cell hbox 0).trans rfl; have hf5_0 := blk_frozen hbox 0; have hs5_1 : W6.cell? ⟨g5, 1, none⟩ = some (.slice none 0 0) := (blk_cell hbox 1).trans rfl; have hf5_1 := blk_frozen hbox 1; have HG5 := Aside0.mk hg; have HX5 := Aside0.mk hbox; have HW5 := Aside0.mk hb; clear hg hbox hb)
    | ((with_reducible refine gate_store (t := 36) (p := 5) rfl ?_); refine store_event (t := 36) (p := 5) (v := ?vo5) (w1 := ((W6.setCell ⟨g5, 0, none⟩ (.int .i64 r20_0)).setCell ⟨g5, 1, none⟩ (.slice Ao20 r20_1.length co20))) ?hg ?ho ?hn ?hr ?_; (case ho => rfl); (case hg => rfl); (case hn => rfl); (case hr => first | (go_simp; done) | (go_simp; rfl)); intro W7 hw; have hb : Below W5.heap.size W5 W7 := (by rw [hw]; exact (below_set (below_set HW5.out (Nat.le_of_eq HG5.out.symm)) (Nat.le_of_eq HG5.out.symm))); have hbox : W7.heap[g5]? = some (.cells #[.int .i64 r20_0, .slice Ao20 r20_1.length co20] 36 (0, 0)) := (by rw [hw]; exact (blk_put (cs' := #[.int .i64 r20_0, .slice Ao20 r20_1.length co20]) (blk_put (cs' := #[.int .i64 r20_0, .slice none 0 0]) HX5.out 0 (.int .i64 r20_0) rfl) 1 (.slice Ao20 r20_1.length co20) rfl)); clear hw hs5_0 hf5_0 hs5_1 hf5_1; have hle_ : T4 ≤ g5 := (by rw [HG5.out]; exact HT.out); have hlt_ : g5 < W7.heap.size := blk_lt hbox; clear HG5 HX5 HW5; clear hk1_0 hk1_1; have nB1_ := Aside0.mk (blk_below BK1.out hb); have nO17_ := Aside0.mk (Kd.S_below HO17.out hb); have nO18_ := Aside0.mk (Kd.R_below HO18.out hb); have nO20_ := Aside0.mk (Kd.S_below HO20.out hb); have nHB_ := Aside0.mk (below_step HB.out hb); have nHT_ := Aside0.mk (Nat.le_trans HT.out hb.size); clear BK1 HO17 HO18 HO20 HB HT; have BK1 := nB1_; have HO17 := nO17_; have HO18 := nO18_; have HO20 := nO20_; have HB := nHB_; have HT := nHT_; clear nB1_ nO17_ nO18_ nO20_ nHB_ nHT_; obtain ⟨T5, hT5⟩ : ∃ n_, n_ = W7.heap.size := ⟨_, rfl⟩; have ORD5 := Aside0.mk (show T4 ≤ T5 from by rw [hT5]; exact HT.out); clear HT; have HT := Aside0.mk (Nat.le_of_eq hT5); have BK5 := Aside0.mk hbox; have GB5 := Aside0.mk (show T4 ≤ g5 ∧ g5 < T5 from ⟨hle_, by rw [hT5]; exact hlt_⟩); clear hb hbox hle_ hlt_ hT5; have hk1_0 : W7.cell? ⟨g1, 0, none⟩ = some (.int .i64 a0_0) := (blk_cell BK1.out 0).trans rfl; have hk1_1 : W7.cell? ⟨g1, 1, none⟩ = some (.slice A0_1 l0_1.length c0_1) := (blk_cell BK1.out 1).trans rfl; have hk5_0 : W7.cell? ⟨g5, 0, none⟩ = some (.int .i64 r20_0) := (blk_cell BK5.out 0).trans rfl; have hk5_1 : W7.cell? ⟨g5, 1, none⟩ = some (.slice Ao20 r20_1.length co20) := (blk_cell BK5.out 1).trans rfl)
    | ((with_reducible refine gate_dst (N := 22) rfl ?_); refine goesL_ (some 22) rfl rfl Try.func56 (by kernel_rfl) rfl #[.agg #[.int .i64 r20_0, .slice Ao20 r20_1.length co20]] rfl (by (try simp only [List.map_toArray, List.map_cons, List.map_nil]); first | done | rfl | (simp only [List.length_drop, List.length_take]; rfl)) ?_; refine (impl_All.calls k r20_0 _ _ r20_1 r22_0 _ (Kd.S_reads' HO20.out).2.2 (Kd.S_reads' HO20.out).2.1 E22.out).mono ?_; rintro e W8 ⟨v22, rfl, ho, hb⟩; refine ⟨_, rfl, ?_⟩; clear hk1_0 hk1_1; clear hk5_0 hk5_1; have nOn_ := Kd.R_lower (Kd.R_bound ho) HB.out.size; have hle_ := HT.out; have nB1_ := Aside0.mk (blk_below BK1.out hb); have nO17_ := Aside0.mk (Kd.S_below HO17.out hb); have nO18_ := Aside0.mk (Kd.R_below HO18.out hb); have nO20_ := Aside0.mk (Kd.S_below HO20.out hb); have nB5_ := Aside0.mk (blk_below BK5.out hb); have nHB_ := Aside0.mk (below_step HB.out hb); have nHT_ := Aside0.mk (Nat.le_trans HT.out hb.size); clear BK1 HO17 HO18 HO20 BK5 HB HT; have BK1 := nB1_; have HO17 := nO17_; have HO18 := nO18_; have HO20 := nO20_; have BK5 := nB5_; have HB := nHB_; have HT := nHT_; clear nB1_ nO17_ nO18_ nO20_ nB5_ nHB_ nHT_; obtain ⟨T6, hT6⟩ : ∃ n_, n_ = W8.heap.size := ⟨_, rfl⟩; have ORD6 := Aside0.mk (show T5 ≤ T6 from by rw [hT6]; exact HT.out); clear HT; have HT := Aside0.mk (Nat.le_of_eq hT6); have HO22 := Aside0.mk (Kd.R_mono (ok' := fun k_ => T5 ≤ k_ ∧ k_ < T6) nOn_ (fun k_ hk_ => ⟨Nat.le_trans hle_ hk_.2.1, by rw [hT6]; exact hk_.2.2.1⟩)); clear nOn_ hle_ ho hT6; obtain ⟨Ao22, co22, eo22⟩ := Kd.R_slice HO22.out; subst eo22; clear hb; have hk1_0 : W8.cell? ⟨g1, 0, none⟩ = some (.int .i64 a0_0) := (blk_cell BK1.out 0).trans rfl; have hk1_1 : W8.cell? ⟨g1, 1, none⟩ = some (.slice A0_1 l0_1.length c0_1) := (blk_cell BK1.out 1).trans rfl; have hk5_0 : W8.cell? ⟨g5, 0, none⟩ = some (.int .i64 r20_0) := (blk_cell BK5.out 0).trans rfl; have hk5_1 : W8.cell? ⟨g5, 1, none⟩ = some (.slice Ao20 r20_1.length co20) := (blk_cell BK5.out 1).trans rfl)
    | ((with_reducible refine gate_dst (N := 25) rfl ?_); refine goesL_ (some 25) rfl rfl Try.func19 (by kernel_rfl) rfl #[.slice Ao22 r22_0.length co22, .slice Ao18 r18_0.length co18] rfl (by (try simp only [List.map_toArray, List.map_cons, List.map_nil]); first | done | rfl | (simp only [List.length_drop, List.length_take]; rfl)) ?_; refine (laws_eqItemS.calls k _ _ r22_0 _ _ r18_0 true _ (Kd.R_reads' HO22.out).2.2 (Kd.R_reads' HO22.out).2.1 (Kd.R_reads' HO18.out).2.2 (Kd.R_reads' HO18.out).2.1 E25.out).mono ?_; rintro e W9 ⟨rfl, hb⟩; refine ⟨_, rfl, ?_⟩; clear hk1_0 hk1_1; clear hk5_0 hk5_1; have nB1_ := Aside0.mk (blk_below BK1.out hb); have nO17_ := Aside0.mk (Kd.S_below HO17.out hb); have nO18_ := Aside0.mk (Kd.R_below HO18.out hb); have nO20_ := Aside0.mk (Kd.S_below HO20.out hb); have nB5_ := Aside0.mk (blk_below BK5.out hb); have nO22_ := Aside0.mk (Kd.R_below HO22.out hb); have nHB_ := Aside0.mk (below_step HB.out hb); have nHT_ := Aside0.mk (Nat.le_trans HT.out hb.size); clear BK1 HO17 HO18 HO20 BK5 HO22 HB HT; have BK1 := nB1_; have HO17 := nO17_; have HO18 := nO18_; have HO20 := nO20_; have BK5 := nB5_; have HO22 := nO22_; have HB := nHB_; have HT := nHT_; clear nB1_ nO17_ nO18_ nO20_ nB5_ nO22_ nHB_ nHT_; clear hb; have hk1_0 : W9.cell? ⟨g1, 0, none⟩ = some (.int .i64 a0_0) := (blk_cell BK1.out 0).trans rfl; have hk1_1 : W9.cell? ⟨g1, 1, none⟩ = some (.slice A0_1 l0_1.length c0_1) := (blk_cell BK1.out 1).trans rfl; have hk5_0 : W9.cell? ⟨g5, 0, none⟩ = some (.int .i64 r20_0) := (blk_cell BK5.out 0).trans rfl; have hk5_1 : W9.cell? ⟨g5, 1, none⟩ = some (.slice Ao20 r20_1.length co20) := (blk_cell BK5.out 1).trans rfl))
  clear hk1_0 hk1_1
  clear hk5_0 hk5_1
  have nB1_ := Aside0.mk (blk_drew BK1.out)
  have nO17_ := Aside0.mk (Kd.S_drew HO17.out)
  have nO18_ := Aside0.mk (Kd.R_drew HO18.out)
  have nO20_ := Aside0.mk (Kd.S_drew HO20.out)
  have nB5_ := Aside0.mk (blk_drew BK5.out)
  have nO22_ := Aside0.mk (Kd.R_drew HO22.out)
  have nHB_ := Aside0.mk (below_drew1 HB.out)
  have nHT_ := Aside0.mk (show T6 ≤ W9.drew.heap.size from HT.out)
  clear BK1 HO17 HO18 HO20 BK5 HO22 HB HT
  have BK1 := nB1_
  have HO17 := nO17_
  have HO18 := nO18_
  have HO20 := nO20_
  have BK5 := nB5_
  have HO22 := nO22_
  have HB := nHB_
  have HT := nHT_
  clear nB1_ nO17_ nO18_ nO20_ nB5_ nO22_ nHB_ nHT_
  refine start_ (n := 5) (S := fun w' => w'.cell? ⟨g5, 0, none⟩ = some (.int .i64 r20_0) ∧ w'.cell? ⟨g5, 1, none⟩ = some (.slice Ao20 r20_1.length co20) ∧ w'.cell? ⟨g1, 0, none⟩ = some (.int .i64 a0_0) ∧ w'.cell? ⟨g1, 1, none⟩ = some (.slice A0_1 l0_1.length c0_1)) (ds := []) #[false, false, false, false, false] (by kernel_rfl) rfl rfl ⟨(blk_cell BK5.out 0).trans rfl, (blk_cell BK5.out 1).trans rfl, (blk_cell BK1.out 0).trans rfl, (blk_cell BK1.out 1).trans rfl⟩ (fun hHeld => ?_)
  generalize W9.drew = W10 at HB HT BK1 HO17 HO18 HO20 BK5 HO22 hHeld ⊢
  refine take_ (i := 0) (N := some 27) (v := ?_) (a' := ?_) #[true, false, false, false, false] rfl rfl (by kernel_rfl) (fun _ _ _ h => h) (Or.inl ⟨by rfl, ?_⟩) hHeld ?_ ?_
  rotate_left
  · rintro w' ⟨s0, s1, s2, s3⟩
    go_simp
    with_reducible rfl
  rotate_left
  · simp only [Act.put, List.setIfInBounds_toArray, List.set_cons_zero, List.set_cons_succ, i64_w, i32_w]
    rfl
  refine take_ (i := 1) (N := some 28) (v := ?_) (a' := ?_) #[true, true, false, false, false] rfl rfl (by kernel_rfl) (fun _ _ _ h => h) (Or.inl ⟨by rfl, ?_⟩) hHeld ?_ ?_
  rotate_left
  · rintro w' ⟨s0, s1, s2, s3⟩
    go_simp
    with_reducible rfl
  rotate_left
  · simp only [Act.put, List.setIfInBounds_toArray, List.set_cons_zero, List.set_cons_succ, i64_w, i32_w]
    rfl
  refine one_ (i := 2) (N := some 29) #[true, true, true, false, false] rfl rfl (by kernel_rfl) (by decide) (fun K hK => ?_)
  refine goes_ Try.func22 (by kernel_rfl) rfl #[.agg #[.int .i64 a0_0, .slice A0_1 l0_1.length c0_1]] (by rfl) rfl rfl (by (try simp only [List.map_toArray, List.map_cons, List.map_nil]); first | done | rfl | (simp only [List.length_drop, List.length_take]; rfl)) ?_
  refine (laws_toBook.calls k a0_0 _ _ l0_1 r29_0 r29_1 _ (Kd.C_below HR0_1.out HB.out) HC0_1.out E29.out).mono ?_
  rintro e W11 ⟨v29, rfl, ho, hb⟩
  refine ⟨_, rfl, ?_⟩
  have nOn_ := Kd.S_lower (Kd.S_bound ho) HB.out.size
  have hle_ := HT.out
  have nB1_ := Aside0.mk (blk_below BK1.out hb)
  have nO17_ := Aside0.mk (Kd.S_below HO17.out hb)
  have nO18_ := Aside0.mk (Kd.R_below HO18.out hb)
  have nO20_ := Aside0.mk (Kd.S_below HO20.out hb)
  have nB5_ := Aside0.mk (blk_below BK5.out hb)
  have nO22_ := Aside0.mk (Kd.R_below HO22.out hb)
  have nHB_ := Aside0.mk (below_step HB.out hb)
  have nHT_ := Aside0.mk (Nat.le_trans HT.out hb.size)
  clear BK1 HO17 HO18 HO20 BK5 HO22 HB HT
  have BK1 := nB1_
  have HO17 := nO17_
  have HO18 := nO18_
  have HO20 := nO20_
  have BK5 := nB5_
  have HO22 := nO22_
  have HB := nHB_
  have HT := nHT_
  clear nB1_ nO17_ nO18_ nO20_ nB5_ nO22_ nHB_ nHT_
  obtain ⟨T7, hT7⟩ : ∃ n_, n_ = W11.heap.size := ⟨_, rfl⟩
  have ORD7 := Aside0.mk (show T6 ≤ T7 from by rw [hT7]; exact HT.out)
  clear HT
  have HT := Aside0.mk (Nat.le_of_eq hT7)
  have HO29 := Aside0.mk (Kd.S_mono (ok' := fun k_ => T6 ≤ k_ ∧ k_ < T7) nOn_ (fun k_ hk_ => ⟨Nat.le_trans hle_ hk_.2.1, by rw [hT7]; exact hk_.2.2.1⟩))
  clear nOn_ hle_ ho hT7
  obtain ⟨Ao29, co29, eo29⟩ := Kd.S_slice HO29.out
  subst eo29
  clear hb
  refine hK.out _ _ ⟨(blk_cell BK5.out 0).trans rfl, (blk_cell BK5.out 1).trans rfl, (blk_cell BK1.out 0).trans rfl, (blk_cell BK1.out 1).trans rfl⟩ (fun hHeld => ?_)
  clear hK K
  refine norm_ (a' := ?_) ?_ ?_
  rotate_left
  · show Act.put _ (some 29) _ = _
    simp only [Act.put, List.setIfInBounds_toArray, List.set_cons_zero, List.set_cons_succ, i64_w, i32_w]
    rfl
  refine one_ (i := 3) (N := some 30) #[true, true, true, true, false] rfl rfl (by kernel_rfl) (by decide) (fun K hK => ?_)
  refine goes_ Try.func24 (by kernel_rfl) rfl #[.agg #[.int .i64 r20_0, .slice Ao20 r20_1.length co20], .agg #[.int .i64 r29_0, .slice Ao29 r29_1.length co29]] (by rfl) rfl rfl (by (try simp only [List.map_toArray, List.map_cons, List.map_nil]); first | done | rfl | (simp only [List.length_drop, List.length_take]; rfl)) ?_
  refine (laws_eqBook.calls k r20_0 _ _ r20_1 r29_0 _ _ r29_1 true _ (Kd.S_reads' HO20.out).2.2 (Kd.S_reads' HO20.out).2.1 (Kd.S_reads' HO29.out).2.2 (Kd.S_reads' HO29.out).2.1 E30.out).mono ?_
  rintro e W12 ⟨rfl, hb⟩
  refine ⟨_, rfl, ?_⟩
  have nB1_ := Aside0.mk (blk_below BK1.out hb)
  have nO17_ := Aside0.mk (Kd.S_below HO17.out hb)
  have nO18_ := Aside0.mk (Kd.R_below HO18.out hb)
  have nO20_ := Aside0.mk (Kd.S_below HO20.out hb)
  have nB5_ := Aside0.mk (blk_below BK5.out hb)
  have nO22_ := Aside0.mk (Kd.R_below HO22.out hb)
  have nO29_ := Aside0.mk (Kd.S_below HO29.out hb)
  have nHB_ := Aside0.mk (below_step HB.out hb)
  have nHT_ := Aside0.mk (Nat.le_trans HT.out hb.size)
  clear BK1 HO17 HO18 HO20 BK5 HO22 HO29 HB HT
  have BK1 := nB1_
  have HO17 := nO17_
  have HO18 := nO18_
  have HO20 := nO20_
  have BK5 := nB5_
  have HO22 := nO22_
  have HO29 := nO29_
  have HB := nHB_
  have HT := nHT_
  clear nB1_ nO17_ nO18_ nO20_ nB5_ nO22_ nO29_ nHB_ nHT_
  clear hb
  refine hK.out _ _ ⟨(blk_cell BK5.out 0).trans rfl, (blk_cell BK5.out 1).trans rfl, (blk_cell BK1.out 0).trans rfl, (blk_cell BK1.out 1).trans rfl⟩ (fun hHeld => ?_)
  clear hK K
  refine norm_ (a' := ?_) ?_ ?_
  rotate_left
  · show Act.put _ (some 30) _ = _
    simp only [Act.put, List.setIfInBounds_toArray, List.set_cons_zero, List.set_cons_succ, i64_w, i32_w]
    rfl
  refine pure_ (i := 4) (N := some 31) (v := ?_) (a' := ?_) #[true, true, true, true, true] rfl rfl (by kernel_rfl) (fun _ _ _ h => h) (Or.inl ⟨by rfl, ?_⟩) ?_ ?_
  rotate_left
  · intro w'
    go_simp
    with_reducible rfl
  rotate_left
  · simp only [Act.put, List.setIfInBounds_toArray, List.set_cons_zero, List.set_cons_succ, i64_w, i32_w]
    rfl
  refine done_ (by kernel_rfl) ?_
  clear hHeld
  have hk1_0 : W12.cell? ⟨g1, 0, none⟩ = some (.int .i64 a0_0) := (blk_cell BK1.out 0).trans rfl
  have hk1_1 : W12.cell? ⟨g1, 1, none⟩ = some (.slice A0_1 l0_1.length c0_1) := (blk_cell BK1.out 1).trans rfl
  have hk5_0 : W12.cell? ⟨g5, 0, none⟩ = some (.int .i64 r20_0) := (blk_cell BK5.out 0).trans rfl
  have hk5_1 : W12.cell? ⟨g5, 1, none⟩ = some (.slice Ao20 r20_1.length co20) := (blk_cell BK5.out 1).trans rfl
  go_wp2_with (first
    | ((with_reducible refine gate_dst (N := 34) rfl ?_); refine goesL_ (some 34) rfl rfl Try.func47 (by kernel_rfl) rfl #[.agg #[.int .i64 r20_0, .slice Ao20 r20_1.length co20], .int .i64 1] rfl (by (try simp only [List.map_toArray, List.map_cons, List.map_nil]); first | done | rfl | (simp only [List.length_drop, List.length_take]; rfl)) ?_; refine (laws_markBook.calls k (fun k_ => T3 ≤ k_ ∧ k_ < T4) r20_0 _ r20_1 1 r34_0 r34_1 w _ HB.out HO20.out E34.out).mono ?_; rintro e W13 ⟨rfl, ho, hb, hk⟩; refine ⟨_, rfl, ?_⟩; clear hk1_0 hk1_1; clear hk5_0 hk5_1; have nB1_ := Aside0.mk (blk_kept BK1.out hk (fun h2_ => by have o1_ := ORD1.out; have o2_ := ORD2.out; have o3_ := ORD3.out; have o4_ := ORD4.out; have o5_ := ORD5.out; have o6_ := ORD6.out; have o7_ := ORD7.out; have g_ := GB1.out; omega)); have nO17_ := Aside0.mk (Kd.S_kept HO17.out hk (fun k_ h1_ h2_ => by have o1_ := ORD1.out; have o2_ := ORD2.out; have o3_ := ORD3.out; have o4_ := ORD4.out; have o5_ := ORD5.out; have o6_ := ORD6.out; have o7_ := ORD7.out; exact absurd h1_ (by omega))); have nO18_ := Aside0.mk (Kd.R_kept HO18.out hk (fun k_ h1_ h2_ => by have o1_ := ORD1.out; have o2_ := ORD2.out; have o3_ := ORD3.out; have o4_ := ORD4.out; have o5_ := ORD5.out; have o6_ := ORD6.out; have o7_ := ORD7.out; exact absurd h1_ (by omega))); have nB5_ := Aside0.mk (blk_kept BK5.out hk (fun h2_ => by have o1_ := ORD1.out; have o2_ := ORD2.out; have o3_ := ORD3.out; have o4_ := ORD4.out; have o5_ := ORD5.out; have o6_ := ORD6.out; have o7_ := ORD7.out; have g_ := GB5.out; omega)); have nO22_ := Aside0.mk (Kd.R_kept HO22.out hk (fun k_ h1_ h2_ => by have o1_ := ORD1.out; have o2_ := ORD2.out; have o3_ := ORD3.out; have o4_ := ORD4.out; have o5_ := ORD5.out; have o6_ := ORD6.out; have o7_ := ORD7.out; exact absurd h1_ (by omega))); have nO29_ := Aside0.mk (Kd.S_kept HO29.out hk (fun k_ h1_ h2_ => by have o1_ := ORD1.out; have o2_ := ORD2.out; have o3_ := ORD3.out; have o4_ := ORD4.out; have o5_ := ORD5.out; have o6_ := ORD6.out; have o7_ := ORD7.out; exact absurd h1_ (by omega))); have nHB_ := Aside0.mk hb; have nHT_ := Aside0.mk (Nat.le_trans HT.out hk.1); clear BK1 HO17 HO18 BK5 HO22 HO29 HB HT; have BK1 := nB1_; have HO17 := nO17_; have HO18 := nO18_; have BK5 := nB5_; have HO22 := nO22_; have HO29 := nO29_; have HB := nHB_; have HT := nHT_; clear nB1_ nO17_ nO18_ nB5_ nO22_ nO29_ nHB_ nHT_; have nO_ := Aside0.mk (Kd.S_mono (ok' := fun _ => True) ho (fun _ _ => trivial)); clear HO20; have HO20 := nO_; have LN20 := Aside0.mk (show r20_1.length = r34_1.length from (Kd.S_reads' HO20.out).1); clear nO_ ho hb hk; have hk1_0 : W13.cell? ⟨g1, 0, none⟩ = some (.int .i64 a0_0) := (blk_cell BK1.out 0).trans rfl; have hk1_1 : W13.cell? ⟨g1, 1, none⟩ = some (.slice A0_1 l0_1.length c0_1) := (blk_cell BK1.out 1).trans rfl; have hk5_0 : W13.cell? ⟨g5, 0, none⟩ = some (.int .i64 r20_0) := (blk_cell BK5.out 0).trans rfl; have hk5_1 : W13.cell? ⟨g5, 1, none⟩ = some (.slice Ao20 r20_1.length co20) := (blk_cell BK5.out 1).trans rfl)
    | ((with_reducible refine gate_dst (N := 40) rfl ?_); (try (refine gate_guard (by rfl) ?_; dsimp only)); refine goesL_ (some 40) rfl rfl Try.func19 (by kernel_rfl) rfl #[.slice Ao22 r22_0.length co22, .slice Ao18 r18_0.length co18] rfl (by (try simp only [List.map_toArray, List.map_cons, List.map_nil]); first | done | rfl | (simp only [List.length_drop, List.length_take]; rfl)) ?_; refine (laws_eqItemS.calls k _ _ r22_0 _ _ r18_0 true _ (Kd.R_reads' HO22.out).2.2 (Kd.R_reads' HO22.out).2.1 (Kd.R_reads' HO18.out).2.2 (Kd.R_reads' HO18.out).2.1 E40.out).mono ?_; rintro e W14 ⟨rfl, hb⟩; refine ⟨_, rfl, ?_⟩; clear hk1_0 hk1_1; clear hk5_0 hk5_1; have nB1_ := Aside0.mk (blk_below BK1.out hb); have nO17_ := Aside0.mk (Kd.S_below HO17.out hb); have nO18_ := Aside0.mk (Kd.R_below HO18.out hb); have nO20_ := Aside0.mk (Kd.S_below HO20.out hb); have nB5_ := Aside0.mk (blk_below BK5.out hb); have nO22_ := Aside0.mk (Kd.R_below HO22.out hb); have nO29_ := Aside0.mk (Kd.S_below HO29.out hb); have nHB_ := Aside0.mk (below_step HB.out hb); have nHT_ := Aside0.mk (Nat.le_trans HT.out hb.size); clear BK1 HO17 HO18 HO20 BK5 HO22 HO29 HB HT; have BK1 := nB1_; have HO17 := nO17_; have HO18 := nO18_; have HO20 := nO20_; have BK5 := nB5_; have HO22 := nO22_; have HO29 := nO29_; have HB := nHB_; have HT := nHT_; clear nB1_ nO17_ nO18_ nO20_ nB5_ nO22_ nO29_ nHB_ nHT_; clear hb; have hk1_0 : W14.cell? ⟨g1, 0, none⟩ = some (.int .i64 a0_0) := (blk_cell BK1.out 0).trans rfl; have hk1_1 : W14.cell? ⟨g1, 1, none⟩ = some (.slice A0_1 l0_1.length c0_1) := (blk_cell BK1.out 1).trans rfl; have hk5_0 : W14.cell? ⟨g5, 0, none⟩ = some (.int .i64 r20_0) := (blk_cell BK5.out 0).trans rfl; have hk5_1 : W14.cell? ⟨g5, 1, none⟩ = some (.slice Ao20 r20_1.length co20) := (blk_cell BK5.out 1).trans rfl)
    | ((with_reducible refine gate_dst (N := 45) rfl ?_); refine goesL_ (some 45) rfl rfl Try.func57 (by kernel_rfl) rfl #[.slice Ao22 r22_0.length co22, .int .i64 1] rfl (by (try simp only [List.map_toArray, List.map_cons, List.map_nil]); first | done | rfl | (simp only [List.length_drop, List.length_take]; rfl)) ?_; refine (laws_markItemS.calls k (fun k_ => T5 ≤ k_ ∧ k_ < T6) _ r22_0 1 r45_0 r45_1 w _ HB.out HO22.out E45.out).mono ?_; rintro e W15 ⟨rfl, ho, hb, hk⟩; refine ⟨_, rfl, ?_⟩; clear hk1_0 hk1_1; clear hk5_0 hk5_1; have nB1_ := Aside0.mk (blk_kept BK1.out hk (fun h2_ => by have o1_ := ORD1.out; have o2_ := ORD2.out; have o3_ := ORD3.out; have o4_ := ORD4.out; have o5_ := ORD5.out; have o6_ := ORD6.out; have o7_ := ORD7.out; have g_ := GB1.out; omega)); have nO17_ := Aside0.mk (Kd.S_kept HO17.out hk (fun k_ h1_ h2_ => by have o1_ := ORD1.out; have o2_ := ORD2.out; have o3_ := ORD3.out; have o4_ := ORD4.out; have o5_ := ORD5.out; have o6_ := ORD6.out; have o7_ := ORD7.out; exact absurd h1_ (by omega))); have nO18_ := Aside0.mk (Kd.R_kept HO18.out hk (fun k_ h1_ h2_ => by have o1_ := ORD1.out; have o2_ := ORD2.out; have o3_ := ORD3.out; have o4_ := ORD4.out; have o5_ := ORD5.out; have o6_ := ORD6.out; have o7_ := ORD7.out; exact absurd h1_ (by omega))); have nB5_ := Aside0.mk (blk_kept BK5.out hk (fun h2_ => by have o1_ := ORD1.out; have o2_ := ORD2.out; have o3_ := ORD3.out; have o4_ := ORD4.out; have o5_ := ORD5.out; have o6_ := ORD6.out; have o7_ := ORD7.out; have g_ := GB5.out; omega)); have nO29_ := Aside0.mk (Kd.S_kept HO29.out hk (fun k_ h1_ h2_ => by have o1_ := ORD1.out; have o2_ := ORD2.out; have o3_ := ORD3.out; have o4_ := ORD4.out; have o5_ := ORD5.out; have o6_ := ORD6.out; have o7_ := ORD7.out; exact absurd h1_ (by omega))); have nHB_ := Aside0.mk hb; have nHT_ := Aside0.mk (Nat.le_trans HT.out hk.1); clear BK1 HO17 HO18 BK5 HO29 HB HT HO20 LN20; have BK1 := nB1_; have HO17 := nO17_; have HO18 := nO18_; have BK5 := nB5_; have HO29 := nO29_; have HB := nHB_; have HT := nHT_; clear nB1_ nO17_ nO18_ nB5_ nO29_ nHB_ nHT_; have nO_ := Aside0.mk (Kd.R_mono (ok' := fun _ => True) ho (fun _ _ => trivial)); clear HO22; have HO22 := nO_; have LN22 := Aside0.mk (show r22_0.length = r45_1.length from (Kd.R_reads' HO22.out).1); clear nO_ ho hb hk; have hk1_0 : W15.cell? ⟨g1, 0, none⟩ = some (.int .i64 a0_0) := (blk_cell BK1.out 0).trans rfl; have hk1_1 : W15.cell? ⟨g1, 1, none⟩ = some (.slice A0_1 l0_1.length c0_1) := (blk_cell BK1.out 1).trans rfl; have hk5_0 : W15.cell? ⟨g5, 0, none⟩ = some (.int .i64 r20_0) := (blk_cell BK5.out 0).trans rfl; have hk5_1 : W15.cell? ⟨g5, 1, none⟩ = some (.slice Ao20 r20_1.length co20) := (blk_cell BK5.out 1).trans rfl)
    | ((with_reducible refine gate_dst (N := 48) rfl ?_); refine goesL_ (some 48) rfl rfl Try.func58 (by kernel_rfl) rfl #[.slice Ao22 r22_0.length co22, .int .i64 1] rfl (by (try simp only [List.map_toArray, List.map_cons, List.map_nil]); first | done | rfl | (simp only [List.length_drop, List.length_take]; rfl)) ?_; refine calls_args (by rw [LN22.out]) ((laws_heldItemS.calls k Ao22 co22 r45_1 1 r48_0 _ (Kd.R_reads' HO22.out).2.2 (by rw [← LN22.out]; exact (Kd.R_reads' HO22.out).2.1) E48.out).mono ?_); rintro e W16 ⟨rfl, hd⟩; refine ⟨_, rfl, ?_⟩; have hb := Drawn0.below hd; clear hd; clear hk1_0 hk1_1; clear hk5_0 hk5_1; have nB1_ := Aside0.mk (blk_below BK1.out hb); have nO17_ := Aside0.mk (Kd.S_below HO17.out hb); have nO18_ := Aside0.mk (Kd.R_below HO18.out hb); have nB5_ := Aside0.mk (blk_below BK5.out hb); have nO22_ := Aside0.mk (Kd.R_below HO22.out hb); have nO29_ := Aside0.mk (Kd.S_below HO29.out hb); have nHB_ := Aside0.mk (below_step HB.out hb); have nHT_ := Aside0.mk (Nat.le_trans HT.out hb.size); clear BK1 HO17 HO18 BK5 HO22 HO29 HB HT; have BK1 := nB1_; have HO17 := nO17_; have HO18 := nO18_; have BK5 := nB5_; have HO22 := nO22_; have HO29 := nO29_; have HB := nHB_; have HT := nHT_; clear nB1_ nO17_ nO18_ nB5_ nO22_ nO29_ nHB_ nHT_; clear hb; have hk1_0 : W16.cell? ⟨g1, 0, none⟩ = some (.int .i64 a0_0) := (blk_cell BK1.out 0).trans rfl; have hk1_1 : W16.cell? ⟨g1, 1, none⟩ = some (.slice A0_1 l0_1.length c0_1) := (blk_cell BK1.out 1).trans rfl; have hk5_0 : W16.cell? ⟨g5, 0, none⟩ = some (.int .i64 r20_0) := (blk_cell BK5.out 0).trans rfl; have hk5_1 : W16.cell? ⟨g5, 1, none⟩ = some (.slice Ao20 r20_1.length co20) := (blk_cell BK5.out 1).trans rfl)
    | ((with_reducible refine gate_dst (N := 55) rfl ?_); refine goesL_ (some 55) rfl rfl Try.func22 (by kernel_rfl) rfl #[.agg #[.int .i64 a0_0, .slice A0_1 l0_1.length c0_1]] rfl (by (try simp only [List.map_toArray, List.map_cons, List.map_nil]); first | done | rfl | (simp only [List.length_drop, List.length_take]; rfl)) ?_; refine (laws_toBook.calls k a0_0 _ _ l0_1 r55_0 r55_1 _ (Kd.C_below HR0_1.out HB.out) HC0_1.out E55.out).mono ?_; rintro e W17 ⟨v55, rfl, ho, hb⟩; refine ⟨_, rfl, ?_⟩; clear hk1_0 hk1_1; clear hk5_0 hk5_1; have nOn_ := Kd.S_lower (Kd.S_bound ho) HB.out.size; have hle_ := HT.out; have nB1_ := Aside0.mk (blk_below BK1.out hb); have nO17_ := Aside0.mk (Kd.S_below HO17.out hb); have nO18_ := Aside0.mk (Kd.R_below HO18.out hb); have nB5_ := Aside0.mk (blk_below BK5.out hb); have nO22_ := Aside0.mk (Kd.R_below HO22.out hb); have nO29_ := Aside0.mk (Kd.S_below HO29.out hb); have nHB_ := Aside0.mk (below_step HB.out hb); have nHT_ := Aside0.mk (Nat.le_trans HT.out hb.size); clear BK1 HO17 HO18 BK5 HO22 HO29 HB HT; have BK1 := nB1_; have HO17 := nO17_; have HO18 := nO18_; have BK5 := nB5_; have HO22 := nO22_; have HO29 := nO29_; have HB := nHB_; have HT := nHT_; clear nB1_ nO17_ nO18_ nB5_ nO22_ nO29_ nHB_ nHT_; obtain ⟨T8, hT8⟩ : ∃ n_, n_ = W17.heap.size := ⟨_, rfl⟩; have ORD8 := Aside0.mk (show T7 ≤ T8 from by rw [hT8]; exact HT.out); clear HT; have HT := Aside0.mk (Nat.le_of_eq hT8); have HO55 := Aside0.mk (Kd.S_mono (ok' := fun k_ => T7 ≤ k_ ∧ k_ < T8) nOn_ (fun k_ hk_ => ⟨Nat.le_trans hle_ hk_.2.1, by rw [hT8]; exact hk_.2.2.1⟩)); clear nOn_ hle_ ho hT8; obtain ⟨Ao55, co55, eo55⟩ := Kd.S_slice HO55.out; subst eo55; clear hb; have hk1_0 : W17.cell? ⟨g1, 0, none⟩ = some (.int .i64 a0_0) := (blk_cell BK1.out 0).trans rfl; have hk1_1 : W17.cell? ⟨g1, 1, none⟩ = some (.slice A0_1 l0_1.length c0_1) := (blk_cell BK1.out 1).trans rfl; have hk5_0 : W17.cell? ⟨g5, 0, none⟩ = some (.int .i64 r20_0) := (blk_cell BK5.out 0).trans rfl; have hk5_1 : W17.cell? ⟨g5, 1, none⟩ = some (.slice Ao20 r20_1.length co20) := (blk_cell BK5.out 1).trans rfl)
    | ((with_reducible refine gate_dst (N := 56) rfl ?_); refine goesL_ (some 56) rfl rfl Try.func56 (by kernel_rfl) rfl #[.agg #[.int .i64 r55_0, .slice Ao55 r55_1.length co55]] rfl (by (try simp only [List.map_toArray, List.map_cons, List.map_nil]); first | done | rfl | (simp only [List.length_drop, List.length_take]; rfl)) ?_; refine (impl_All.calls k r55_0 _ _ r55_1 r56_0 _ (Kd.S_reads' HO55.out).2.2 (Kd.S_reads' HO55.out).2.1 E56.out).mono ?_; rintro e W18 ⟨v56, rfl, ho, hb⟩; refine ⟨_, rfl, ?_⟩; clear hk1_0 hk1_1; clear hk5_0 hk5_1; have nOn_ := Kd.R_lower (Kd.R_bound ho) HB.out.size; have hle_ := HT.out; have nB1_ := Aside0.mk (blk_below BK1.out hb); have nO17_ := Aside0.mk (Kd.S_below HO17.out hb); have nO18_ := Aside0.mk (Kd.R_below HO18.out hb); have nB5_ := Aside0.mk (blk_below BK5.out hb); have nO22_ := Aside0.mk (Kd.R_below HO22.out hb); have nO29_ := Aside0.mk (Kd.S_below HO29.out hb); have nO55_ := Aside0.mk (Kd.S_below HO55.out hb); have nHB_ := Aside0.mk (below_step HB.out hb); have nHT_ := Aside0.mk (Nat.le_trans HT.out hb.size); clear BK1 HO17 HO18 BK5 HO22 HO29 HO55 HB HT; have BK1 := nB1_; have HO17 := nO17_; have HO18 := nO18_; have BK5 := nB5_; have HO22 := nO22_; have HO29 := nO29_; have HO55 := nO55_; have HB := nHB_; have HT := nHT_; clear nB1_ nO17_ nO18_ nB5_ nO22_ nO29_ nO55_ nHB_ nHT_; obtain ⟨T9, hT9⟩ : ∃ n_, n_ = W18.heap.size := ⟨_, rfl⟩; have ORD9 := Aside0.mk (show T8 ≤ T9 from by rw [hT9]; exact HT.out); clear HT; have HT := Aside0.mk (Nat.le_of_eq hT9); have HO56 := Aside0.mk (Kd.R_mono (ok' := fun k_ => T8 ≤ k_ ∧ k_ < T9) nOn_ (fun k_ hk_ => ⟨Nat.le_trans hle_ hk_.2.1, by rw [hT9]; exact hk_.2.2.1⟩)); clear nOn_ hle_ ho hT9; obtain ⟨Ao56, co56, eo56⟩ := Kd.R_slice HO56.out; subst eo56; clear hb; have hk1_0 : W18.cell? ⟨g1, 0, none⟩ = some (.int .i64 a0_0) := (blk_cell BK1.out 0).trans rfl; have hk1_1 : W18.cell? ⟨g1, 1, none⟩ = some (.slice A0_1 l0_1.length c0_1) := (blk_cell BK1.out 1).trans rfl; have hk5_0 : W18.cell? ⟨g5, 0, none⟩ = some (.int .i64 r20_0) := (blk_cell BK5.out 0).trans rfl; have hk5_1 : W18.cell? ⟨g5, 1, none⟩ = some (.slice Ao20 r20_1.length co20) := (blk_cell BK5.out 1).trans rfl)
    | ((with_reducible refine gate_dst (N := 59) rfl ?_); refine goesL_ (some 59) rfl rfl Try.func19 (by kernel_rfl) rfl #[.slice Ao56 r56_0.length co56, .slice Ao18 r18_0.length co18] rfl (by (try simp only [List.map_toArray, List.map_cons, List.map_nil]); first | done | rfl | (simp only [List.length_drop, List.length_take]; rfl)) ?_; refine (laws_eqItemS.calls k _ _ r56_0 _ _ r18_0 true _ (Kd.R_reads' HO56.out).2.2 (Kd.R_reads' HO56.out).2.1 (Kd.R_reads' HO18.out).2.2 (Kd.R_reads' HO18.out).2.1 E59.out).mono ?_; rintro e W19 ⟨rfl, hb⟩; refine ⟨_, rfl, ?_⟩; clear hk1_0 hk1_1; clear hk5_0 hk5_1; have nB1_ := Aside0.mk (blk_below BK1.out hb); have nO17_ := Aside0.mk (Kd.S_below HO17.out hb); have nO18_ := Aside0.mk (Kd.R_below HO18.out hb); have nB5_ := Aside0.mk (blk_below BK5.out hb); have nO22_ := Aside0.mk (Kd.R_below HO22.out hb); have nO29_ := Aside0.mk (Kd.S_below HO29.out hb); have nO55_ := Aside0.mk (Kd.S_below HO55.out hb); have nO56_ := Aside0.mk (Kd.R_below HO56.out hb); have nHB_ := Aside0.mk (below_step HB.out hb); have nHT_ := Aside0.mk (Nat.le_trans HT.out hb.size); clear BK1 HO17 HO18 BK5 HO22 HO29 HO55 HO56 HB HT; have BK1 := nB1_; have HO17 := nO17_; have HO18 := nO18_; have BK5 := nB5_; have HO22 := nO22_; have HO29 := nO29_; have HO55 := nO55_; have HO56 := nO56_; have HB := nHB_; have HT := nHT_; clear nB1_ nO17_ nO18_ nB5_ nO22_ nO29_ nO55_ nO56_ nHB_ nHT_; clear hb; have hk1_0 : W19.cell? ⟨g1, 0, none⟩ = some (.int .i64 a0_0) := (blk_cell BK1.out 0).trans rfl; have hk1_1 : W19.cell? ⟨g1, 1, none⟩ = some (.slice A0_1 l0_1.length c0_1) := (blk_cell BK1.out 1).trans rfl; have hk5_0 : W19.cell? ⟨g5, 0, none⟩ = some (.int .i64 r20_0) := (blk_cell BK5.out 0).trans rfl; have hk5_1 : W19.cell? ⟨g5, 1, none⟩ = some (.slice Ao20 r20_1.length co20) := (blk_cell BK5.out 1).trans rfl)
    | ((with_reducible refine gate_dst (N := 63) rfl ?_); refine goesL_ (some 63) rfl rfl Try.func58 (by kernel_rfl) rfl #[.slice Ao22 r22_0.length co22, .int .i64 1] rfl (by (try simp only [List.map_toArray, List.map_cons, List.map_nil]); first | done | rfl | (simp only [List.length_drop, List.length_take]; rfl)) ?_; refine calls_args (by rw [LN22.out]) ((laws_heldItemS.calls k Ao22 co22 r45_1 1 r63_0 _ (Kd.R_reads' HO22.out).2.2 (by rw [← LN22.out]; exact (Kd.R_reads' HO22.out).2.1) E63.out).mono ?_); rintro e W20 ⟨rfl, hd⟩; refine ⟨_, rfl, ?_⟩; have hb := Drawn0.below hd; clear hd; clear hk1_0 hk1_1; clear hk5_0 hk5_1; have nB1_ := Aside0.mk (blk_below BK1.out hb); have nO17_ := Aside0.mk (Kd.S_below HO17.out hb); have nO18_ := Aside0.mk (Kd.R_below HO18.out hb); have nB5_ := Aside0.mk (blk_below BK5.out hb); have nO22_ := Aside0.mk (Kd.R_below HO22.out hb); have nO29_ := Aside0.mk (Kd.S_below HO29.out hb); have nO55_ := Aside0.mk (Kd.S_below HO55.out hb); have nO56_ := Aside0.mk (Kd.R_below HO56.out hb); have nHB_ := Aside0.mk (below_step HB.out hb); have nHT_ := Aside0.mk (Nat.le_trans HT.out hb.size); clear BK1 HO17 HO18 BK5 HO22 HO29 HO55 HO56 HB HT; have BK1 := nB1_; have HO17 := nO17_; have HO18 := nO18_; have BK5 := nB5_; have HO22 := nO22_; have HO29 := nO29_; have HO55 := nO55_; have HO56 := nO56_; have HB := nHB_; have HT := nHT_; clear nB1_ nO17_ nO18_ nB5_ nO22_ nO29_ nO55_ nO56_ nHB_ nHT_; clear hb; have hk1_0 : W20.cell? ⟨g1, 0, none⟩ = some (.int .i64 a0_0) := (blk_cell BK1.out 0).trans rfl; have hk1_1 : W20.cell? ⟨g1, 1, none⟩ = some (.slice A0_1 l0_1.length c0_1) := (blk_cell BK1.out 1).trans rfl; have hk5_0 : W20.cell? ⟨g5, 0, none⟩ = some (.int .i64 r20_0) := (blk_cell BK5.out 0).trans rfl; have hk5_1 : W20.cell? ⟨g5, 1, none⟩ = some (.slice Ao20 r20_1.length co20) := (blk_cell BK5.out 1).trans rfl))
  go_ret
  exact ⟨rfl, HB.out⟩

end Go.Proofs.Ythenmlaleobapaa.All

/- Opening of arguments: what reads as data of a type is of its kind. No condition. -/
namespace Go.Proofs.Ythenmlaleobapaa.Op
open Go.Proofs.YthenmlaleobapaaW.PrintWords
open Go.Deep
set_option linter.unusedVariables false

/-- What reads as data of type t is of the kind d, and good. -/
def Opens {α : Type} (P : Program) (t : TypeId) (d : Kd α) (good : α → Prop) : Prop :=
  ∀ {H : Type} {enc : TypeId × Value → H} {w : World} {base : Nat} {spare : Nat → Bool} {held : Bool} {fuel : Nat} {cs : List Value} {x : DataW H × List MemPlace},
    DataW.trod enc P w base spare held fuel t cs = some x → ∃ y, d.K w y cs ∧ good y

def goodInt (n : Int) : Prop := -9223372036854775808 ≤ n ∧ n ≤ 9223372036854775807

theorem goodInt_of_wf {n : Int} (h : (Lit.int .i64 n).wf = true) : goodInt n := by
  simp [Lit.wf, IntKind.min, IntKind.max, IntKind.signed, IntKind.bits] at h
  unfold goodInt
  omega

theorem opens_int {P : Program} {t : TypeId} (ht : P.underlying t = some (.int .i64)) : Opens P t (Kd.int .i64) goodInt := by
  intro H enc w base spare held fuel cs x h
  obtain ⟨n, rfl, _, hw⟩ := DataW.trod_int ht h
  exact ⟨n, rfl, goodInt_of_wf hw⟩

theorem opens_bool {P : Program} {t : TypeId} (ht : P.underlying t = some .bool) : Opens P t Kd.bool (fun _ => True) := by
  intro H enc w base spare held fuel cs x h
  obtain ⟨n, rfl, _⟩ := DataW.trod_bool ht h
  exact ⟨n, rfl, trivial⟩

theorem opens_slice {α : Type} {P : Program} {t e : TypeId} {d : Kd α} {good : α → Prop} (ht : P.underlying t = some (.slice e)) (hC : P.cellsOf e = d.sz) (he : Opens P e d good) :
    Opens P t (Kd.slice e d) (fun xs => xs.length ≤ 9223372036854775807 ∧ ∀ y ∈ xs, good y) := by
  intro H enc w base spare held fuel cs x h
  rcases open_slice ht h with ⟨rfl, _⟩ | ⟨a, len, cap, m, n, D, Pl, rfl, hb, hl, hm, hmm, rfl, hx⟩
  · exact ⟨[], ⟨none, 0, rfl, Nat.le_refl _, ⟨rfl, by simp, fun h => absurd h (Nat.lt_irrefl 0)⟩⟩, by simp, by simp⟩
  · have hlm : len ≤ m := by rw [hmm]; split <;> omega
    have hex : ∀ i : Nat, ∃ y : α ⊕ Unit, i < len → ∃ z cs', y = .inl z ∧ d.K w z cs' ∧ good z ∧ w.cells? base (a.add (i * d.sz)) d.sz = some cs' := by
      intro i
      by_cases hi : i < len
      · obtain ⟨cs', h1, h2⟩ := hx i (by omega)
        obtain ⟨z, hz, hg⟩ := he h2
        exact ⟨.inl z, fun _ => ⟨z, cs', rfl, hz, hg, by rw [← hC]; exact h1⟩⟩
      · exact ⟨.inr (), fun h => absurd h hi⟩
    obtain ⟨f, hf⟩ := Classical.axiomOfChoice hex
    have hlist : ∀ k, k ≤ len → ∃ ys : List α, ys.length = k ∧ ∀ i y, ys[i]? = some y → f i = .inl y := by
      intro k
      induction k with
      | zero => exact fun _ => ⟨[], rfl, fun i y h => by simp at h⟩
      | succ k ih =>
        intro hk
        obtain ⟨ys, hys, hall⟩ := ih (by omega)
        obtain ⟨z, cs', hz, _⟩ := hf k (by omega)
        refine ⟨ys ++ [z], by simp [hys], fun i y hy => ?_⟩
        rcases Nat.lt_or_ge i ys.length with hi | hi
        · rw [List.getElem?_append_left hi] at hy
          exact hall i y hy
        · have hik : i = k := by
            have := (List.getElem?_eq_some_iff.1 hy).1
            simp at this
            omega
          subst hik
          rw [List.getElem?_append_right (by omega)] at hy
          simp [hys] at hy
          rw [hz, hy]
    obtain ⟨ys, hys, hall⟩ := hlist len (Nat.le_refl _)
    have hget : ∀ i y, ys[i]? = some y → ∃ cs', d.K w y cs' ∧ good y ∧ w.cells? base (a.add (i * d.sz)) d.sz = some cs' := by
      intro i y hy
      have hi : i < len := by rw [← hys]; exact (List.getElem?_eq_some_iff.1 hy).1
      obtain ⟨z, cs', hz, hK, hg, hc⟩ := hf i hi
      have := hall i y hy
      rw [hz] at this
      cases this
      exact ⟨cs', hK, hg, hc⟩
    subst hys
    refine ⟨ys, ⟨some a, cap, rfl, hl, ⟨rfl, by unfold maxLen at hm; omega, fun _ => ⟨a, rfl, fun j p hp => ?_⟩⟩⟩, by unfold maxLen at hm; omega, fun y hy => ?_⟩
    · obtain ⟨cs', hK, _, hc⟩ := hget j p hp
      obtain ⟨_, hcl, hat⟩ := World.cells?_some hc
      refine ⟨cs', hcl, hK, fun i u hu => ?_⟩
      have hi : i < d.sz := by rw [← hcl]; exact (List.getElem?_eq_some_iff.1 hu).1
      have := hat i hi
      rw [← Go.Deep.add_add, this, hu]
    · obtain ⟨i, hi⟩ := List.getElem?_of_mem hy
      obtain ⟨_, _, hg, _⟩ := hget i y hi
      exact hg

theorem opens_pair2 {α β γ : Type} {P : Program} {t : TypeId} {f0 f1 : Field} {d0 : Kd α} {d1 : Kd β} {g0 : α → Prop} {g1 : β → Prop} (f : γ → α × β) (mk : α → β → γ) (hmk : ∀ a b, f (mk a b) = (a, b))
    (ht : P.underlying t = some (.struct #[f0, f1])) (hc : P.cellsOf t = d0.sz + d1.sz) (ho0 : f0.offset = 0) (ho1 : f1.offset = d0.sz) (hc0 : P.cellsOf f0.type = d0.sz) (hc1 : P.cellsOf f1.type = d1.sz)
    (h0 : Opens P f0.type d0 g0) (h1 : Opens P f1.type d1 g1) : Opens P t (Kd.iso (Kd.pair d0 d1) f) (fun y => g0 (f y).1 ∧ g1 (f y).2) := by
  intro H enc w base spare held fuel cs x h
  obtain ⟨y0, y1, n, _, hl, ht0, ht1⟩ := ChangeShapes.trod_struct2 ht h
  obtain ⟨a, ha, ga⟩ := h0 ht0
  obtain ⟨b, hb, gb⟩ := h1 ht1
  rw [ho0, hc0] at ha
  rw [ho1, hc1] at hb
  refine ⟨mk a b, ⟨_, _, ?_, by rw [hmk]; exact ha, by rw [hmk]; exact hb⟩, show g0 (f (mk a b)).1 ∧ g1 (f (mk a b)).2 by rw [hmk]; exact ⟨ga, gb⟩⟩
  rw [List.drop_zero, List.take_of_length_le (l := List.drop d0.sz cs) (by rw [List.length_drop]; omega), List.take_append_drop]

def goodByte (n : Int) : Prop := 0 ≤ n ∧ n ≤ 255

theorem opens_byte {P : Program} {t : TypeId} (ht : P.underlying t = some (.int .u8)) : Opens P t (Kd.int .u8) goodByte := by
  intro H enc w base spare held fuel cs x h
  obtain ⟨n, rfl, _, hw⟩ := DataW.trod_int ht h
  refine ⟨n, rfl, ?_⟩
  simp [Lit.wf, IntKind.min, IntKind.max, IntKind.signed, IntKind.bits] at hw
  unfold goodByte
  omega

theorem opens_int4 {γ : Type} {P : Program} {t : TypeId} {f0 f1 f2 f3 : Field} {g0 g1 g2 g3 : Int → Prop} (f : γ → Int × Int × Int × Int) (mk : Int → Int → Int → Int → γ) (hmk : ∀ a b c d, f (mk a b c d) = (a, b, c, d))
    (ht : P.underlying t = some (.struct #[f0, f1, f2, f3])) (hc : P.cellsOf t = 4) (ho0 : f0.offset = 0) (ho1 : f1.offset = 1) (ho2 : f2.offset = 2) (ho3 : f3.offset = 3)
    (hc0 : P.cellsOf f0.type = 1) (hc1 : P.cellsOf f1.type = 1) (hc2 : P.cellsOf f2.type = 1) (hc3 : P.cellsOf f3.type = 1)
    (h0 : Opens P f0.type (Kd.int .i64) g0) (h1 : Opens P f1.type (Kd.int .i64) g1) (h2 : Opens P f2.type (Kd.int .i64) g2) (h3 : Opens P f3.type (Kd.int .i64) g3) :
    Opens P t (Kd.iso (Kd.pair (Kd.int .i64) (Kd.pair (Kd.int .i64) (Kd.pair (Kd.int .i64) (Kd.int .i64)))) f) (fun y => g0 (f y).1 ∧ g1 (f y).2.1 ∧ g2 (f y).2.2.1 ∧ g3 (f y).2.2.2) := by
  intro H enc w base spare held fuel cs x h
  obtain ⟨xs, n, _, _, hl, hlen, hf⟩ := DataW.trod_struct ht h
  have hn : ∀ i, i < 4 → ∃ y, xs[i]? = some y := fun i hi => ⟨_, List.getElem?_eq_getElem (by rw [hlen]; exact hi)⟩
  obtain ⟨y0, e0⟩ := hn 0 (by omega)
  obtain ⟨y1, e1⟩ := hn 1 (by omega)
  obtain ⟨y2, e2⟩ := hn 2 (by omega)
  obtain ⟨y3, e3⟩ := hn 3 (by omega)
  obtain ⟨a, ha, ga⟩ := h0 ((hf 0 f0 rfl).trans e0)
  obtain ⟨b, hb, gb⟩ := h1 ((hf 1 f1 rfl).trans e1)
  obtain ⟨c, hcc, gc⟩ := h2 ((hf 2 f2 rfl).trans e2)
  obtain ⟨d, hd, gd⟩ := h3 ((hf 3 f3 rfl).trans e3)
  rw [ho0, hc0] at ha
  rw [ho1, hc1] at hb
  rw [ho2, hc2] at hcc
  rw [ho3, hc3] at hd
  rw [hc] at hl
  match cs, hl with
  | [v0, v1, v2, v3], _ =>
    have ea : v0 = .int .i64 a := by simpa [Kd.int, Kd.scalar] using ha
    have eb : v1 = .int .i64 b := by simpa [Kd.int, Kd.scalar] using hb
    have ec : v2 = .int .i64 c := by simpa [Kd.int, Kd.scalar] using hcc
    have ed : v3 = .int .i64 d := by simpa [Kd.int, Kd.scalar] using hd
    subst ea eb ec ed
    refine ⟨mk a b c d, ?_, ?_⟩
    · show (Kd.pair (Kd.int .i64) (Kd.pair (Kd.int .i64) (Kd.pair (Kd.int .i64) (Kd.int .i64)))).K w (f (mk a b c d)) _
      rw [hmk]
      exact ⟨[_], [_, _, _], rfl, rfl, ⟨[_], [_, _], rfl, rfl, ⟨[_], [_], rfl, rfl, rfl⟩⟩⟩
    · show g0 (f (mk a b c d)).1 ∧ g1 (f (mk a b c d)).2.1 ∧ g2 (f (mk a b c d)).2.2.1 ∧ g3 (f (mk a b c d)).2.2.2
      rw [hmk]
      exact ⟨ga, gb, gc, gd⟩

end Go.Proofs.Ythenmlaleobapaa.Op

/- What reads as data of the laws' argument types is of their kinds. -/
namespace Go.Proofs.Ythenmlaleobapaa.Op
open Go.Proofs.Ythenmlaleobapaa.All Go.Proofs.YthenmlaleobapaaW.PrintWords
def good3 (n : Int) : Prop := goodInt n
theorem op3 : Opens Try.prog 3 (Kd.int .i64) good3 := opens_int Try.underlying3
def good4 (_ : Bool) : Prop := True
theorem op4 : Opens Try.prog 4 Kd.bool good4 := opens_bool Try.underlying4
def good70 (x : S70) : Prop := good3 x.f0 ∧ good3 x.f1 ∧ good3 x.f2 ∧ good3 x.f3
theorem op70 : Opens Try.prog 70 k70 good70 := opens_int4 (fun x : S70 => (x.f0, x.f1, x.f2, x.f3)) (fun a b c d => ⟨a, b, c, d⟩) (fun _ _ _ _ => rfl) Try.underlying70 (by kernel_rfl) rfl rfl rfl rfl (by kernel_rfl) (by kernel_rfl) (by kernel_rfl) (by kernel_rfl) op3 op3 op3 op3
def good86 (x : S86) : Prop := good3 x.f0 ∧ good70 x.f1
theorem op86 : Opens Try.prog 86 k86 good86 := opens_pair2 (d0 := (Kd.int .i64)) (d1 := k70) (fun x : S86 => (x.f0, x.f1)) (fun a b => ⟨a, b⟩) (fun _ _ => rfl) Try.underlying86 (by kernel_rfl) rfl rfl (by kernel_rfl) (by kernel_rfl) op3 op70
def good40 (xs : List (S86)) : Prop := xs.length ≤ 9223372036854775807 ∧ ∀ y ∈ xs, good86 y
theorem op40 : Opens Try.prog 40 (Kd.slice 86 k86) good40 := opens_slice Try.underlying40 (by kernel_rfl) op86
def good100 (x : S100) : Prop := good4 x.f0 ∧ good40 x.f1
theorem op100 : Opens Try.prog 100 k100 good100 := opens_pair2 (d0 := Kd.bool) (d1 := (Kd.slice 86 k86)) (fun x : S100 => (x.f0, x.f1)) (fun a b => ⟨a, b⟩) (fun _ _ => rfl) Try.underlying100 (by kernel_rfl) rfl rfl (by kernel_rfl) (by kernel_rfl) op4 op40
def good102 (x : S102) : Prop := good4 x.f0 ∧ good100 x.f1
theorem op102 : Opens Try.prog 102 k102 good102 := opens_pair2 (d0 := Kd.bool) (d1 := k100) (fun x : S102 => (x.f0, x.f1)) (fun a b => ⟨a, b⟩) (fun _ _ => rfl) Try.underlying102 (by kernel_rfl) rfl rfl (by kernel_rfl) (by kernel_rfl) op4 op100
def good29 (xs : List (S102)) : Prop := xs.length ≤ 9223372036854775807 ∧ ∀ y ∈ xs, good102 y
theorem op29 : Opens Try.prog 29 (Kd.slice 102 k102) good29 := opens_slice Try.underlying29 (by kernel_rfl) op102
def good31 (x : (Int × List (S102))) : Prop := good3 x.1 ∧ good29 x.2
theorem op31 : Opens Try.prog 31 (Kd.iso (Kd.pair (Kd.int .i64) (Kd.slice 102 k102)) (fun x : (Int × List (S102)) => x)) good31 := opens_pair2 (d0 := (Kd.int .i64)) (d1 := (Kd.slice 102 k102)) (fun x : (Int × List (S102)) => x) (fun a b => (a, b)) (fun _ _ => rfl) Try.underlying31 (by kernel_rfl) rfl rfl (by kernel_rfl) (by kernel_rfl) op3 op29
end Go.Proofs.Ythenmlaleobapaa.Op

/- Plain laws of the printed functions over lists of entries: what is made of a list. No condition. -/
namespace Go.Proofs.Ythenmlaleobapaa.Pure
open Go.RowKit Go.Proofs.Ythenmlaleobapaa.All Go.Proofs.YthenmlaleobapaaW.PrintWords Go.Proofs.YthenmlaleobapaaW.PrintLast
set_option linter.unusedVariables false

def big : Nat := 1152921504606846976
theorem wrap_small {a : Int} (h0 : -9223372036854775808 ≤ a) (h1 : a ≤ 9223372036854775807) : wrap64 a = a := by
  unfold wrap64
  omega
theorem wrap_succ {i n : Nat} (h : i < n) (hn : n ≤ big) : wrap64 ((i : Int) + 1) = ((i + 1 : Nat) : Int) := by
  unfold big at hn
  rw [wrap_small (by omega) (by omega)]
  omega
/-- A loop, told from its end. -/
theorem down {P : Nat → Prop} : ∀ (n : Nat), (∀ i, i < n → P (i + 1) → P i) → P n → P 0
  | 0, _, h => h
  | n + 1, hs, h => down n (fun i hi => hs i (by omega)) (hs n (by omega) h)
/-- The same from i on. -/
theorem downFrom {P : Nat → Prop} (i : Nat) : ∀ (d : Nat), (∀ j, i ≤ j → j < i + d → P (j + 1) → P j) → P (i + d) → P i
  | 0, _, h => h
  | d + 1, hs, h => downFrom i d (fun j h0 hj => hs j h0 (by omega)) (hs (i + d) (by omega) (by omega) h)

theorem rdE_at (l : List En) (i : Nat) : rd_T82 l (i : Int) = l.getD i z82 := rfl
theorem rdB_at (l : List Bx) (i : Nat) : rd_T60 l (i : Int) = l.getD i z60 := rfl

/-- A loop that fills a row of the same length. -/
theorem fill_loop {α β : Type} {L : Nat → List α → List β → Int → Option (List β)} {f : α → β} {F : Nat → α → Option β} (d : α)
    (hstep : ∀ k (xs : List α) (acc : List β) (i : Nat), i < xs.length → acc.length = xs.length → L (k + 1) xs acc i = (F k (xs.getD i d)).bind fun y => L k xs (acc.set i y) (wrap64 ((i : Int) + 1)))
    (hstop : ∀ k (xs : List α) (acc : List β), L (k + 1) xs acc xs.length = some acc)
    (xs : List α) (hl : xs.length ≤ big) (hF : ∀ x ∈ xs, Evn (fun k => F k x) (f x)) (z : β) : Evn (fun k => L k xs (List.replicate xs.length z) 0) (xs.map f) := by
  have key : Evn (fun k => L k xs ((xs.take 0).map f ++ List.replicate (xs.length - 0) z) ((0 : Nat) : Int)) (xs.map f) := by
    refine down (P := fun i => Evn (fun k => L k xs ((xs.take i).map f ++ List.replicate (xs.length - i) z) (i : Int)) (xs.map f)) xs.length (fun i hi h => ?_) ?_
    · refine Evn.step (fun k => hstep k xs _ i hi (by simp; omega)) ?_
      refine Evn.bind (hF _ ?_) ?_
      · rw [List.getD_eq_getElem?_getD, List.getElem?_eq_getElem hi]
        exact List.getElem_mem hi
      · rw [wrap_succ hi hl]
        refine Evn.same h (fun k => ?_)
        congr 1
        have hi' : (List.map f (List.take i xs)).length = i := by simp; omega
        rw [List.set_append, if_neg (by omega), hi', Nat.sub_self]
        obtain ⟨m, hm⟩ : ∃ m, xs.length - i = m + 1 := ⟨xs.length - i - 1, by omega⟩
        rw [hm, show xs.length - (i + 1) = m from by omega, List.replicate_succ, List.set_cons_zero, List.take_succ_eq_append_getElem hi, List.map_append, List.append_assoc, List.getD_eq_getElem?_getD, List.getElem?_eq_getElem hi]
        rfl
    · refine Evn.step (fun k => ?_) (Evn.ret _)
      rw [hstop]
      simp
  simpa using key

def toB (b : LBx) : Bx := ⟨b.f0, b.f1, b.f2, b.f3⟩
def toE (e : LEn) : En := ⟨e.f0, toB e.f1⟩
theorem toEntryS_f (l : List LEn) (hl : l.length ≤ 1048576) : Evn (fun k => laws_toEntryS.f k l) (l.map toE) := by
  have h := fill_loop (L := laws_toEntryS.l0) (f := toE) (F := fun _ x => some (toE x)) z86 (fun k xs acc i hi ha => by
    simp only [laws_toEntryS.l0]
    rw [if_pos (by omega), if_pos (by omega)]
    simp only [laws_toEntry.f, laws_toBox.f, Option.bind_some]
    rw [if_pos (by omega)]
    rfl) (fun k xs acc => by simp only [laws_toEntryS.l0]; rw [if_neg (by omega)]) l (by unfold big; omega) (fun x _ => Evn.ret _) z82
  unfold laws_toEntryS.f
  refine Evn.pos (by omega) (Evn.pos (by omega) ?_)
  exact h

/-- A loop that compares a row with itself. -/
theorem same_loop {α : Type} {L : Nat → List α → List α → Int → Option Bool}
    (hstep : ∀ k (xs : List α) (i : Nat), i < xs.length → L (k + 1) xs xs i = L k xs xs (wrap64 ((i : Int) + 1)))
    (hstop : ∀ k (xs : List α), L (k + 1) xs xs xs.length = some true) (xs : List α) (hl : xs.length ≤ big) : Evn (fun k => L k xs xs 0) true := by
  refine down (P := fun i => Evn (fun k => L k xs xs (i : Int)) true) xs.length (fun i hi h => ?_) (Evn.step (fun k => hstop k xs) (Evn.ret _))
  refine Evn.step (fun k => hstep k xs i hi) ?_
  rw [wrap_succ hi hl]
  exact h
theorem eqBox_same (a b c d : Int) : laws_eqBox.f a b c d a b c d = some true := by simp [laws_eqBox.f]
theorem eqEntryS_same (l : List En) (hl : l.length ≤ big) : Evn (fun k => laws_eqEntryS.f k l l) true := by
  unfold laws_eqEntryS.f
  refine Evn.pos rfl ?_
  refine same_loop (L := laws_eqEntryS.l0) (fun k xs i hi => ?_) (fun k xs => ?_) l hl
  · simp only [laws_eqEntryS.l0]
    rw [if_pos (by omega), if_pos (by omega), if_pos (by omega)]
    simp only [laws_eqEntry.f, eqBox_same, Option.bind_some, if_true]
  · simp only [laws_eqEntryS.l0]
    rw [if_neg (by omega)]

/-- The count of what came in, and what it leaves of a bound. -/
theorem szEntryS_f (l : List LEn) (n : Int) (hn : 0 ≤ n ∧ n ≤ 1048576) (hl : l.length ≤ 9223372036854775807) : laws_szEntryS.f l n = some (if n < l.length then -1 else n - l.length) := by
  unfold laws_szEntryS.f
  rw [wrap_small (by omega) (by omega)]
  by_cases h : n < l.length
  · rw [if_pos (by omega), if_pos h]
  · rw [if_neg (by omega), if_neg h]

end Go.Proofs.Ythenmlaleobapaa.Pure

/- Plain laws of the printed marks: a row that is marked from n on holds the marks from n on. No condition. -/
namespace Go.Proofs.Ythenmlaleobapaa.Pure
open Go.RowKit Go.Proofs.Ythenmlaleobapaa.All Go.Proofs.YthenmlaleobapaaW.PrintWords Go.Proofs.YthenmlaleobapaaW.PrintLast
set_option linter.unusedVariables false

def marks {α : Type} (f : Int → α) (s : Int) : Int → Nat → List α
  | _, 0 => []
  | n, m + 1 => f n :: marks f s (n + s) m
theorem marks_len {α : Type} (f : Int → α) (s : Int) : ∀ (n : Int) (m : Nat), (marks f s n m).length = m
  | _, 0 => rfl
  | n, m + 1 => by rw [marks, List.length_cons, marks_len f s (n + s) m]
theorem cost_succ (s n : Int) (m : Nat) : n + s * ((m + 1 : Nat) : Int) = n + s + s * (m : Int) := by
  rw [Int.natCast_succ, Int.mul_add, Int.mul_one]
  omega
theorem mark_loop {α : Type} {L : Nat → List α → Int → Int → Option (Int × List α)} {f : Int → α} {s : Int} (hs : 0 ≤ s)
    (hstep : ∀ k (done : List α) (a : α) (rest : List α) (n : Int), 0 ≤ n → n + s ≤ 4611686018427387904 → done.length ≤ 4611686018427387904 → L (k + 1) (done ++ a :: rest) n done.length = L k (done ++ f n :: rest) (n + s) ((done.length + 1 : Nat) : Int))
    (hstop : ∀ k (xs : List α) (n : Int), L (k + 1) xs n xs.length = some (n, xs)) :
    ∀ (rest done : List α) (n : Int), 0 ≤ n → n + s * rest.length ≤ 4611686018427387904 → done.length + rest.length ≤ 4611686018427387904 → Evn (fun k => L k (done ++ rest) n done.length) (n + s * rest.length, done ++ marks f s n rest.length)
  | [], done, n, _, _, _ => by
    refine Evn.step (fun k => ?_) (Evn.ret _)
    rw [List.append_nil, hstop]
    simp [marks]
  | a :: rest, done, n, hn, hb, hl => by
    rw [List.length_cons, cost_succ] at hb
    rw [List.length_cons] at hl
    have hp : 0 ≤ s * (rest.length : Int) := Int.mul_nonneg hs (by omega)
    have ih := mark_loop hs hstep hstop rest (done ++ [f n]) (n + s) (by omega) hb (by rw [List.length_append]; simp; omega)
    refine Evn.step (fun k => hstep k done a rest n hn (by omega) (by omega)) ?_
    rw [List.length_cons, cost_succ, marks]
    simpa using ih
theorem held_loop {α : Type} {H : Nat → List α → Int → Int → Option Int} {f : Int → α} {s : Int} (hs : 0 ≤ s)
    (hstep : ∀ k (done rest : List α) (n : Int), 0 ≤ n → n + s ≤ 4611686018427387904 → done.length ≤ 4611686018427387904 → H (k + 1) (done ++ f n :: rest) n done.length = H k (done ++ f n :: rest) (n + s) ((done.length + 1 : Nat) : Int))
    (hstop : ∀ k (xs : List α) (n : Int), H (k + 1) xs n xs.length = some n) :
    ∀ (m : Nat) (done : List α) (n : Int), 0 ≤ n → n + s * m ≤ 4611686018427387904 → done.length + m ≤ 4611686018427387904 → Evn (fun k => H k (done ++ marks f s n m) n done.length) (n + s * m)
  | 0, done, n, _, _, _ => by
    refine Evn.step (fun k => ?_) (Evn.ret _)
    rw [marks, List.append_nil, hstop]
    simp
  | m + 1, done, n, hn, hb, hl => by
    rw [cost_succ] at hb
    have hp : 0 ≤ s * (m : Int) := Int.mul_nonneg hs (by omega)
    have ih := held_loop hs hstep hstop m (done ++ [f n]) (n + s) (by omega) hb (by rw [List.length_append]; simp; omega)
    rw [marks]
    refine Evn.step (fun k => hstep k done _ n hn (by omega) (by omega)) ?_
    rw [cost_succ]
    simpa using ih
theorem getD_mid {α : Type} (done : List α) (a : α) (rest : List α) (z : α) : (done ++ a :: rest).getD done.length z = a := by
  rw [List.getD_eq_getElem?_getD, List.getElem?_append_right (Nat.le_refl _), Nat.sub_self]
  rfl
theorem set_mid {α : Type} (done : List α) (a b : α) (rest : List α) : (done ++ a :: rest).set done.length b = done ++ b :: rest := by
  rw [List.set_append, if_neg (by omega), Nat.sub_self, List.set_cons_zero]
theorem succ_small {n : Nat} (h : n ≤ 4611686018427387904) : wrap64 ((n : Int) + 1) = ((n + 1 : Nat) : Int) := by
  rw [wrap_small (by omega) (by omega)]
  omega
theorem mid_lt {α : Type} (done : List α) (a : α) (rest : List α) : (done.length : Int) < ((done ++ a :: rest).length : Int) := by
  rw [List.length_append, List.length_cons]
  omega

end Go.Proofs.Ythenmlaleobapaa.Pure

/- Plain laws of the printed marks of items. No condition. -/
namespace Go.Proofs.Ythenmlaleobapaa.Pure
open Go.RowKit Go.Proofs.Ythenmlaleobapaa.All Go.Proofs.YthenmlaleobapaaW.PrintWords Go.Proofs.YthenmlaleobapaaW.PrintLast
set_option linter.unusedVariables false

def mkI (n : Int) : S68 := ⟨n, ⟨n + 1, n + 2, n + 3, n + 4⟩⟩
theorem w1_upI {n : Int} (h0 : 0 ≤ n) (h1 : n + 1 ≤ 4611686018427387904) : wrap64 (n + 1) = n + 1 := wrap_small (by omega) (by omega)
theorem markItemS_f (l : List S68) (n : Int) (hn : 0 ≤ n) (hb : n + 5 * l.length ≤ 4611686018427387904) : Evn (fun k => laws_markItemS.f k l n) (n + 5 * l.length, marks mkI 5 n l.length) := by
  exact mark_loop (L := laws_markItemS.l0) (f := mkI) (s := 5) (by decide) (fun k done a rest n hn hb hl => by
    rw [laws_markItemS.l0, if_pos (mid_lt _ _ _), if_pos (by omega), Int.toNat_natCast, set_mid, succ_small hl]
    simp only [w1i]
    rw [w1_upI hn (by omega), w1_upI (show 0 ≤ n + 1 by omega) (by omega), w1_upI (show 0 ≤ n + 1 + 1 by omega) (by omega), w1_upI (show 0 ≤ n + 1 + 1 + 1 by omega) (by omega), w1_upI (show 0 ≤ n + 1 + 1 + 1 + 1 by omega) (by omega)]
    have e2 : n + 1 + 1 = n + 2 := by omega
    have e3 : n + 1 + 1 + 1 = n + 3 := by omega
    have e4 : n + 1 + 1 + 1 + 1 = n + 4 := by omega
    have e5 : n + 1 + 1 + 1 + 1 + 1 = n + 5 := by omega
    rw [e5, e4, e3, e2]
    rfl) (fun k xs n => by rw [laws_markItemS.l0, if_neg (by omega)]) l [] n hn hb (by simp; omega)
theorem heldItemS_f (m : Nat) (n : Int) (hn : 0 ≤ n) (hb : n + 5 * m ≤ 4611686018427387904) : Evn (fun k => laws_heldItemS.f k (marks mkI 5 n m) n) (n + 5 * m) := by
  exact held_loop (H := laws_heldItemS.l0) (f := mkI) (s := 5) (by decide) (fun k done rest n hn hb hl => by
    rw [laws_heldItemS.l0, if_pos (mid_lt _ _ _), if_pos (by omega), show rd_T68 (done ++ mkI n :: rest) (done.length : Int) = mkI n from getD_mid done (mkI n) rest _, succ_small hl]
    rw [w1_upI hn (by omega), w1_upI (show 0 ≤ n + 1 by omega) (by omega), w1_upI (show 0 ≤ n + 1 + 1 by omega) (by omega), w1_upI (show 0 ≤ n + 1 + 1 + 1 by omega) (by omega), w1_upI (show 0 ≤ n + 1 + 1 + 1 + 1 by omega) (by omega)]
    rw [if_pos (show (mkI n).f0 = n from rfl), if_pos (show (mkI n).f1.f0 = n + 1 from rfl), if_pos (show (mkI n).f1.f1 = n + 1 + 1 by show n + 2 = _; omega), if_pos (show (mkI n).f1.f2 = n + 1 + 1 + 1 by show n + 3 = _; omega), if_pos (show (mkI n).f1.f3 = n + 1 + 1 + 1 + 1 by show n + 4 = _; omega), show n + 1 + 1 + 1 + 1 + 1 = n + 5 by omega]) (fun k xs n => by rw [laws_heldItemS.l0, if_neg (by omega)]) m [] n hn hb (by simp; omega)
theorem eqItemS_same (l : List S68) (hl : l.length ≤ big) : Evn (fun k => laws_eqItemS.f k l l) true := by
  unfold laws_eqItemS.f
  refine Evn.pos rfl ?_
  refine same_loop (L := laws_eqItemS.l0) (fun k xs i hi => ?_) (fun k xs => ?_) l hl
  · rw [laws_eqItemS.l0, if_pos (by omega), if_pos (by omega), if_pos (by omega)]
    simp only [laws_eqItem.f, eqBox_same, Option.bind_some, if_true]
  · rw [laws_eqItemS.l0, if_neg (by omega)]

end Go.Proofs.Ythenmlaleobapaa.Pure

/- Plain laws of the printed functions that make, weigh and compare books. No condition. -/
namespace Go.Proofs.Ythenmlaleobapaa.Pure
open Go.RowKit Go.Proofs.Ythenmlaleobapaa.All Go.Proofs.YthenmlaleobapaaW.PrintWords Go.Proofs.YthenmlaleobapaaW.PrintLast
set_option linter.unusedVariables false

abbrev LPg := S102
abbrev Pg := S77
abbrev Nd := S75
abbrev zPg : Pg := z77
def toPg (p : LPg) : Pg := ⟨p.f0, ⟨p.f1.f0, p.f1.f1.map toE⟩⟩
/-- How many entries the pages have together. -/
def heap (l : List LPg) : Nat := (l.map fun p => p.f1.f1.length).sum
theorem heap_snoc (l : List LPg) (i : Nat) (h : i < l.length) : heap (l.take (i + 1)) = heap (l.take i) + l[i].f1.f1.length := by
  unfold heap
  rw [List.take_succ_eq_append_getElem h, List.map_append, List.sum_append]
  simp
theorem heap_le (l : List LPg) (i : Nat) : heap (l.take i) ≤ heap l := by
  unfold heap
  rw [← List.take_append_drop i l, List.map_append, List.sum_append]
  simp
theorem heap_mem (l : List LPg) (p : LPg) (h : p ∈ l) : p.f1.f1.length ≤ heap l := by
  obtain ⟨i, hi, rfl⟩ := List.getElem_of_mem h
  have h1 := heap_snoc l i hi
  have h2 := heap_le l (i + 1)
  omega
theorem getD_LPg (l : List LPg) (i : Nat) (h : i < l.length) : l.getD i z102 = l[i] := by rw [List.getD_eq_getElem?_getD, List.getElem?_eq_getElem h]; rfl
theorem rdLPg_at (l : List LPg) (i : Nat) (h : i < l.length) : rd_T102 l (i : Int) = l[i] := getD_LPg l i h
theorem rdPg_at (l : List Pg) (i : Nat) (h : i < l.length) : rd_T77 l (i : Int) = l[i] := by
  show l.getD i zPg = l[i]
  rw [List.getD_eq_getElem?_getD, List.getElem?_eq_getElem h]; rfl

theorem szPage_f (a b : Bool) (l : List LEn) (n : Int) (hn : 0 ≤ n ∧ n ≤ 1048576) (hl : l.length ≤ 9223372036854775807) : laws_szPage.f a b l n = some (if n < l.length then -1 else n - l.length) := by
  unfold laws_szPage.f laws_szNode.f
  rw [szEntryS_f l n hn hl]
  simp only [Option.bind_some]
  by_cases h : n < l.length
  · simp [if_pos h]
  · rw [if_neg h, if_neg (by omega)]
    simp only [Option.bind_some]
    rw [if_neg (by omega)]
/-- What is weighed: -1 where it is too much. -/
theorem szPageS_f (l : List LPg) (n : Int) (hn : 0 ≤ n ∧ n ≤ 1048576) (hl : l.length ≤ 9223372036854775807) (hp : ∀ p ∈ l, p.f1.f1.length ≤ 9223372036854775807) :
    Evn (fun k => laws_szPageS.f k l n) (if n < l.length + heap l then -1 else n - l.length - heap l) := by
  unfold laws_szPageS.f
  rw [wrap_small (by omega) (by omega)]
  by_cases h0 : n - l.length < 0
  · rw [if_pos (show n < l.length + heap l by omega)]
    exact Evn.pos h0 (Evn.ret _)
  · refine Evn.neg h0 ?_
    have hb : l.length ≤ big := by unfold big; omega
    have key : ∀ i, ∀ hi : i < l.length, ∀ k (m : Int), 0 ≤ m → m ≤ 1048576 → laws_szPageS.l0 (k + 1) l m (i : Int) = if m < (l[i]'hi).f1.f1.length then some (-1) else laws_szPageS.l0 k l (m - (l[i]'hi).f1.f1.length) ((i + 1 : Nat) : Int) := by
      intro i hi k m hm0 hm1
      rw [laws_szPageS.l0, if_pos (by omega), if_pos (by omega), rdLPg_at l i hi, szPage_f _ _ _ _ ⟨hm0, hm1⟩ (hp _ (List.getElem_mem hi)), Option.bind_some, wrap_succ hi hb]
      by_cases hm : m < (l[i]).f1.f1.length
      · rw [if_pos hm, if_pos hm, if_pos (by omega)]
      · rw [if_neg hm, if_neg hm, if_neg (by omega)]
    have hend : ∀ k (m : Int), laws_szPageS.l0 (k + 1) l m (l.length : Int) = some m := fun k m => by rw [laws_szPageS.l0, if_neg (by omega)]
    by_cases hbig : n < l.length + heap l
    · rw [if_pos hbig]
      have := down (P := fun i => 0 ≤ n - l.length - heap (l.take i) → Evn (fun k => laws_szPageS.l0 k l (n - l.length - heap (l.take i)) (i : Int)) (-1)) l.length (fun i hi h hm => ?_) (fun hm => by rw [List.take_length] at hm; omega)
      · have h1 := this (by simp [heap]; omega)
        simpa [heap] using h1
      · refine Evn.step (fun k => key i hi k _ hm (by omega)) ?_
        by_cases hc : n - l.length - heap (l.take i) < (l[i]).f1.f1.length
        · exact Evn.pos hc (Evn.ret _)
        · refine Evn.neg hc ?_
          have hs := heap_snoc l i hi
          rw [show n - l.length - heap (l.take i) - (l[i]).f1.f1.length = n - l.length - heap (l.take (i + 1)) by omega]
          exact h (by omega)
    · rw [if_neg hbig]
      have := down (P := fun i => Evn (fun k => laws_szPageS.l0 k l (n - l.length - heap (l.take i)) (i : Int)) (n - l.length - heap l)) l.length (fun i hi h => ?_) (Evn.step (fun k => hend k _) (by rw [List.take_length]; exact Evn.ret _))
      · simpa [heap] using this
      · have hs := heap_snoc l i hi
        have hle := heap_le l (i + 1)
        refine Evn.step (fun k => key i hi k _ (by omega) (by omega)) (Evn.neg (by omega) ?_)
        rw [show n - l.length - heap (l.take i) - (l[i]).f1.f1.length = n - l.length - heap (l.take (i + 1)) by omega]
        exact h
theorem szBook_f (a : Int) (l : List LPg) (n : Int) (hn : 0 ≤ n ∧ n ≤ 1048576) (hl : l.length ≤ 9223372036854775807) (hp : ∀ p ∈ l, p.f1.f1.length ≤ 9223372036854775807) :
    Evn (fun k => laws_szBook.f k a l n) (if n < l.length + heap l then -1 else n - l.length - heap l) := by
  unfold laws_szBook.f
  refine Evn.bind (szPageS_f l n hn hl hp) ?_
  by_cases h : n < l.length + heap l
  · rw [if_pos h]
    exact Evn.ret _
  · rw [if_neg h, if_neg (by omega)]
    exact Evn.ret _

theorem toPage_f (p : LPg) (h : p.f1.f1.length ≤ 1048576) : Evn (fun k => laws_toPage.f k p.f0 p.f1.f0 p.f1.f1) (p.f0, p.f1.f0, p.f1.f1.map toE) := by
  unfold laws_toPage.f laws_toNode.f
  exact Evn.bind (Evn.bind (toEntryS_f _ h) (Evn.ret _)) (Evn.ret _)
theorem toPageS_f (l : List LPg) (hl : l.length ≤ 1048576) (hp : ∀ p ∈ l, p.f1.f1.length ≤ 1048576) : Evn (fun k => laws_toPageS.f k l) (l.map toPg) := by
  have h := fill_loop (L := laws_toPageS.l0) (f := toPg) (F := fun k p => (laws_toPage.f k p.f0 p.f1.f0 p.f1.f1).bind fun t => some (⟨t.1, ⟨t.2.1, t.2.2⟩⟩ : Pg)) z102 (fun k xs acc i hi ha => by
    simp only [laws_toPageS.l0]
    rw [if_pos (by omega), if_pos (by omega), rdLPg_at xs i hi, getD_LPg xs i hi]
    cases laws_toPage.f k (xs[i]).f0 (xs[i]).f1.f0 (xs[i]).f1.f1 with
    | none => rfl
    | some t =>
      simp only [Option.bind_some]
      rw [if_pos (by omega)]
      rfl) (fun k xs acc => by simp only [laws_toPageS.l0]; rw [if_neg (by omega)]) l (by unfold big; omega) (fun x hx => Evn.bind (toPage_f x (hp x hx)) (Evn.ret _)) zPg
  unfold laws_toPageS.f
  exact Evn.pos (by omega) (Evn.pos (by omega) h)
theorem toBook_f (a : Int) (l : List LPg) (hl : l.length ≤ 1048576) (hp : ∀ p ∈ l, p.f1.f1.length ≤ 1048576) : Evn (fun k => laws_toBook.f k a l) (a, l.map toPg) := by
  unfold laws_toBook.f
  exact Evn.bind (toPageS_f l hl hp) (Evn.ret _)

theorem eqNode_same (b : Bool) (l : List En) (hl : l.length ≤ big) : Evn (fun k => laws_eqNode.f k b l b l) true := by
  unfold laws_eqNode.f
  exact Evn.neg (by simp) (Evn.bind (eqEntryS_same l hl) (Evn.ret _))
theorem eqPageS_same (l : List Pg) (hl : l.length ≤ big) (hp : ∀ p ∈ l, p.f1.f1.length ≤ big) : Evn (fun k => laws_eqPageS.f k l l) true := by
  unfold laws_eqPageS.f
  refine Evn.pos rfl ?_
  refine down (P := fun i => Evn (fun k => laws_eqPageS.l0 k l l (i : Int)) true) l.length (fun i hi h => ?_) (Evn.step (fun k => by rw [laws_eqPageS.l0, if_neg (by omega)]) (Evn.ret _))
  refine Evn.step (fun k => by rw [laws_eqPageS.l0, if_pos (by omega), if_pos (by omega), if_pos (by omega), rdPg_at l i hi, wrap_succ hi hl]) ?_
  refine Evn.bind (a := true) ?_ (Evn.pos rfl h)
  unfold laws_eqPage.f
  exact Evn.neg (by simp) (Evn.bind (eqNode_same _ _ (hp _ (List.getElem_mem hi))) (Evn.ret _))
theorem eqBook_same (a : Int) (l : List Pg) (hl : l.length ≤ big) (hp : ∀ p ∈ l, p.f1.f1.length ≤ big) : Evn (fun k => laws_eqBook.f k a l a l) true := by
  unfold laws_eqBook.f
  exact Evn.pos rfl (Evn.bind (eqPageS_same l hl hp) (Evn.ret _))

/-- What a law over a book does: weigh it, make it, ask both, compare. -/
structure Small (l : List LPg) : Prop where
  len : l.length ≤ 1048576
  ent : ∀ p ∈ l, p.f1.f1.length ≤ 1048576
  sum : l.length + heap l ≤ 1048576
theorem Small.of (l : List LPg) (h : l.length + heap l ≤ 1048576) : Small l := ⟨by omega, fun p hp => by have := heap_mem l p hp; omega, h⟩
theorem Small.made (l : List LPg) (h : Small l) : (l.map toPg).length ≤ 1048576 ∧ ∀ p ∈ l.map toPg, p.f1.f1.length ≤ 1048576 := by
  refine ⟨by rw [List.length_map]; exact h.len, fun p hp => ?_⟩
  obtain ⟨q, hq, rfl⟩ := List.mem_map.mp hp
  show (q.f1.f1.map toE).length ≤ _
  rw [List.length_map]
  exact h.ent q hq
theorem big_of {n : Nat} (h : n ≤ 1048576) : n ≤ big := by unfold big; omega

end Go.Proofs.Ythenmlaleobapaa.Pure
