/- The program's walk over the pages, by a closure over a map and a row: it comes to the model of the reference's walk. No condition. -/
import Derived.Test.YthenmlaleobapaaHWalk
import Derived.Test.YthenmlaleobapaaAllx68
import Derived.Maps.OwnOps
import Derived.Maps.Views
namespace Go.Proofs.Ythenmlaleobapaa.All
open Go.RowKit Go.Proofs.YthenmlaleobapaaW.PrintWords Go.Proofs.YthenmlaleobapaaW.PrintLast Go.Proofs.YthenmlaleobapaaW.PrintMore
set_option linter.unusedVariables false
set_option linter.unusedSimpArgs false

/-- Block b is the map of those that were met. -/
def MetOk (w : World) (b : Nat) (out : List Int) : Prop := ∃ (n : Nat) (D : DataW Unit), n ≤ out.length ∧ Go.Maps.IsMap D ∧ w.ownsMap Try.prog 3 (plainElem Try.prog 3) b n D ∧ ∀ i, (Lit.int .i64 i).wf = true → D.atKey (.int .i64 i) (.lit (.int .i64 0)) = .lit (.int .i64 (if i ∈ out then 1 else 0))
theorem MetOk.step {w w' : World} {b : Nat} {out : List Int} (h : MetOk w b out) (he : w'.heap[b]? = w.heap[b]?) : MetOk w' b out := by
  obtain ⟨n, D, h1, h2, ⟨es, clock, hb, hr⟩, h4⟩ := h
  exact ⟨n, D, h1, h2, ⟨es, clock, he.trans hb, hr⟩, h4⟩
theorem MetOk.isMap {w : World} {b : Nat} {out : List Int} (h : MetOk w b out) : ∃ es clock, w.heap[b]? = some (.map es clock) := by
  obtain ⟨n, D, h1, h2, ⟨es, clock, hb, hr⟩, h4⟩ := h
  exact ⟨es, clock, hb⟩
theorem MetOk.made (w : World) : MetOk (w.alloc (.map #[] 0)) w.heap.size [] := ⟨0, .map [], Nat.le_refl _, ⟨[], rfl⟩, World.ownsMap_made w _ _ _, fun i _ => rfl⟩
theorem MetOk.put {w' : World} {b : Nat} {out : List Int} {i : Int} {n : Nat} {D : DataW Unit} (hn : n ≤ out.length) (hm : Go.Maps.IsMap D) (h : w'.ownsMap Try.prog 3 (plainElem Try.prog 3) b (n + 1) (D.put (.int .i64 i) (.lit (.int .i64 1)))) (ha : ∀ i, (Lit.int .i64 i).wf = true → D.atKey (.int .i64 i) (.lit (.int .i64 0)) = .lit (.int .i64 (if i ∈ out then 1 else 0))) : MetOk w' b (out ++ [i]) := by
  refine ⟨n + 1, _, by simp; omega, ?_, h, fun j hj => ?_⟩
  · obtain ⟨es, rfl⟩ := hm
    exact ⟨_, DataW.put_eq _ _ _⟩
  · by_cases hji : j = i
    · subst hji
      rw [Go.Maps.atKey_put_same hm (show WideAt.IsKeyLit (.int .i64 j) from trivial)]
      simp
    · rw [Go.Maps.atKey_put_other (fun e => hji (by injection e)), ha j hj]
      simp [hji]
/-- What stands while the walk goes on. -/
structure VState (w0 : World) (g2 g5 g6 g7 bm : Nat) (root : Int) (A : Option Addr) (c n : Nat) (w : World) (out mo : List Int) : Prop where
  below : Below w0.heap.size w0 w
  box : w.heap[g2]? = some (.cells #[.int .i64 root, .slice A n c] 36 (0, 0))
  met : w.heap[g6]? = some (.cells #[.map (some bm)] 105 (0, 0))
  row : ∃ A v c, v = .slice A out.length c ∧ w.heap[g5]? = some (.cells #[v] 54 (0, 0)) ∧ Kd.R (Kd.int .i64) 3 w w0.heap.size (fun _ => True) v out
  fn : w.heap[g7]? = some (.cells #[.func (.func 88) #[] #[.pointer (some ⟨g2, 0, none⟩), .pointer (some ⟨g6, 0, none⟩), .pointer (some ⟨g5, 0, none⟩), .pointer (some ⟨g7, 0, none⟩)]] 106 (0, 0))
  map : MetOk w bm mo
  g5b : w0.heap.size ≤ g5
  bmb : w0.heap.size ≤ bm
section
variable {w0 : World} {g2 g5 g6 g7 bm : Nat} {root : Int} {A : Option Addr} {c n : Nat} {w w' : World} {out mo mo' : List Int}
theorem VState.next (h : VState w0 g2 g5 g6 g7 bm root A c n w out mo) (hb : Below w.heap.size w w') : VState w0 g2 g5 g6 g7 bm root A c n w' out mo := by
  obtain ⟨Av, v, cv, ev, h5, hr⟩ := h.row
  obtain ⟨es, clock, hm⟩ := h.map.isMap
  exact ⟨below_step h.below hb, blk_below h.box hb, blk_below h.met hb, ⟨Av, v, cv, ev, blk_below h5 hb, Kd.R_below hr hb⟩, blk_below h.fn hb, h.map.step ((blk_below hm hb).trans hm.symm), h.g5b, h.bmb⟩
theorem VState.drewN (h : VState w0 g2 g5 g6 g7 bm root A c n w out mo) (m : Nat) : VState w0 g2 g5 g6 g7 bm root A c n (w.drewN m) out mo := h.next (pw_below_drewN (Below.refl _ _) m)
theorem blkNe {g g' : Nat} {t t' : TypeId} {cs cs' : Array Value} (h : w.heap[g]? = some (.cells cs t (0, 0))) (h' : w.heap[g']? = some (.cells cs' t' (0, 0))) (hne : t ≠ t') : g ≠ g' := by
  rintro rfl
  rw [h] at h'
  injection h' with h'
  injection h' with _ ht
  exact hne ht
theorem cells_ne_map {g b : Nat} {cs : Array Value} {t : TypeId} {fr : Nat × Nat} {es : Array _} {clock : Nat} (hc : w.heap[g]? = some (.cells cs t fr)) (hm : w.heap[b]? = some (.map es clock)) : some g ≠ some b := by
  intro e
  injection e with e
  subst e
  rw [hc] at hm
  cases hm
theorem VState.put (h : VState w0 g2 g5 g6 g7 bm root A c n w out mo) (hg : w.grownBy w' (some bm)) (hm : MetOk w' bm mo') : VState w0 g2 g5 g6 g7 bm root A c n w' out mo' := by
  obtain ⟨Av, v, cv, ev, h5, hr⟩ := h.row
  obtain ⟨es, clock, hmm⟩ := h.map.isMap
  refine ⟨h.below.grown hg h.below.size (fun k hk => ?_), blk_grown h.box hg (cells_ne_map h.box hmm), blk_grown h.met hg (cells_ne_map h.met hmm), ⟨Av, v, cv, ev, blk_grown h5 hg (cells_ne_map h5 hmm), ?_⟩, blk_grown h.fn hg (cells_ne_map h.fn hmm), hm, h.g5b, h.bmb⟩
  · injection hk with hk
    rw [← hk]
    exact h.bmb
  · refine Kd.R_mono (Kd.R_step (Kd.R_bound hr) (fun k hk hlt => hg.block k hlt ?_)) (fun _ _ => trivial)
    obtain ⟨_, _, _, q, hq, cells, hc⟩ := hk
    exact cells_ne_map hc hmm
theorem VState.app (h : VState w0 g2 g5 g6 g7 bm root A c n w out mo) {v v5 : Value} {xs : List Int} (hcell : w.heap[g5]? = some (.cells #[v] 54 (0, 0))) (hv : Kd.R (Kd.int .i64) 3 w w0.heap.size (fun _ => True) v out) (hg : w.grownBy w' v.ownBlock) (hb : Below w0.heap.size w0 w') (hr : Kd.R (Kd.int .i64) 3 w' w0.heap.size (fun _ => True) v5 xs) :
    VState w0 g2 g5 g6 g7 bm root A c n (w'.setCell ⟨g5, 0, none⟩ v5) xs mo := by
  obtain ⟨es, clock, hmm⟩ := h.map.isMap
  obtain ⟨A5, c5, e5⟩ := Kd.R_slice hr
  have k2 := blk_grown h.box hg (Kd.R_ne hv h.box (by decide))
  have k6 := blk_grown h.met hg (Kd.R_ne hv h.met (by decide))
  have k5 := blk_grown hcell hg (Kd.R_ne hv hcell (by decide))
  have k7 := blk_grown h.fn hg (Kd.R_ne hv h.fn (by decide))
  have km : w'.heap[bm]? = w.heap[bm]? := hg.block bm (blk_lt hmm) (fun e => by
    obtain ⟨inner, ho⟩ := Kd.R_own hv
    obtain ⟨cells, hc⟩ := Kd.R_typed hv bm e.symm
    exact cells_ne_map hc hmm rfl)
  have far : ∀ {g : Nat}, g ≠ g5 → (w'.setCell ⟨g5, 0, none⟩ v5).heap[g]? = w'.heap[g]? := fun hne => Below.heap_setCell w' _ v5 _ hne
  exact ⟨below_set hb h.g5b, (far (blkNe k2 k5 (by decide))).trans k2, (far (blkNe k6 k5 (by decide))).trans k6, ⟨A5, v5, c5, e5, blk_put k5 0 v5 rfl, Kd.R_mono (Kd.R_far (Kd.R_types hr k5 (by decide)) (fun _ hk => hk.2) v5) (fun _ _ => trivial)⟩,
    (far (blkNe k7 k5 (by decide))).trans k7, h.map.step ((far (fun e => cells_ne_map hcell hmm (by rw [e]))).trans km), h.g5b, h.bmb⟩
end

def VisitSaid (w0 : World) (g2 g5 g6 g7 bm : Nat) (root : Int) (A : Option Addr) (c : Nat) (ps : List S77) (k : Nat) : Prop :=
  ∀ (i : Int) (xs r : List Int) (w : World), VState w0 g2 g5 g6 g7 bm root A c ps.length w xs xs → walkM k ps i xs = some r →
    Calls Try.prog 88 #[.int .i64 i, .pointer (some ⟨g2, 0, none⟩), .pointer (some ⟨g6, 0, none⟩), .pointer (some ⟨g5, 0, none⟩), .pointer (some ⟨g7, 0, none⟩)] w (fun e w' => ∃ v, e = .returned v ∧ VState w0 g2 g5 g6 g7 bm root A c ps.length w' r r)


theorem used_f (a : Int) (ps : List S77) (i : Int) : impl_used.f a ps i = some (decide (pgOk ps i)) := by
  unfold impl_used.f impl_exists.f pgOk
  by_cases h0 : i ≥ 0
  · rw [if_pos h0]
    simp only [Option.bind_some]
    by_cases h1 : i < ps.length
    · simp only [h1, decide_true, if_true]
      rw [if_pos (by omega)]
      simp [show (0 : Int) ≤ i from h0]
    · simp [h1]
  · rw [if_neg h0]
    simp [h0]

set_option maxHeartbeats 8000000 in
set_option maxRecDepth 100000 in
theorem visit_out (w0 : World) (g2 g5 g6 g7 bm : Nat) (A : Option Addr) (c : Nat) (ps : List S77) (hr0 : Kd.C k77 w0 A ps.length ps) (hc0 : ps.length ≤ c)
    (root i : Int) (xs : List Int) (w : World) (hv : VState w0 g2 g5 g6 g7 bm root A c ps.length w xs xs) (hno : ¬ pgOk ps i) :
    Calls Try.prog 88 #[.int .i64 i, .pointer (some ⟨g2, 0, none⟩), .pointer (some ⟨g6, 0, none⟩), .pointer (some ⟨g5, 0, none⟩), .pointer (some ⟨g7, 0, none⟩)] w (fun e w' => ∃ v, e = .returned v ∧ VState w0 g2 g5 g6 g7 bm root A c ps.length w' xs xs) := by
  have HR := Aside0.mk hr0
  have HC := Aside0.mk hc0
  have HV := Aside0.mk hv
  have HU := Aside0.mk ((used_f root ps i).trans (congrArg some (decide_eq_false hno)))
  clear hr0 hc0 hv hno
  have hu1 := Try.underlying77
  have hu2 := Try.underlying36
  have hk0 : w.cell? ⟨g2, 0, none⟩ = some (.int .i64 root) := (blk_cell HV.out.box 0).trans rfl
  have hk1 : w.cell? ⟨g2, 1, none⟩ = some (.slice A ps.length c) := (blk_cell HV.out.box 1).trans rfl
  go_enter Try.func88, Try.ntmps88
  go_wp2_with (go_at_call 67; refine (impl_used.calls root _ c ps i _ _ (Kd.C_below HR.out HV.out.below) HC.out HU.out).mono ?_; rintro e w1 ⟨rfl, hb1⟩; have HV1 := Aside0.mk (HV.out.next hb1); clear hb1 hk0 hk1 HV)
  refine bodyPost_ret (results_none rfl _ _ _) rfl ?_
  exact ⟨_, rfl, HV1.out⟩

theorem zero_int (w : World) : (zeroValue 3).run Try.prog w = .ok (.int .i64 0) w := by kernel_rfl
theorem look_eq {D : DataW Unit} {i c m : Int} (h : D.atKey (.int .i64 i) (.lit (.int .i64 0)) = .lit (.int .i64 m)) (hc : D.atKey (.int .i64 i) (.lit (.int .i64 0)) = .lit (.int .i64 c)) : c = m := by
  rw [h] at hc
  injection hc with hc
  injection hc with _ hc
  exact hc.symm
set_option maxHeartbeats 8000000 in
set_option maxRecDepth 100000 in
theorem visit_met (w0 : World) (g2 g5 g6 g7 bm : Nat) (A : Option Addr) (c : Nat) (ps : List S77) (hr0 : Kd.C k77 w0 A ps.length ps) (hc0 : ps.length ≤ c)
    (root i : Int) (xs : List Int) (w : World) (hv : VState w0 g2 g5 g6 g7 bm root A c ps.length w xs xs) (hyes : pgOk ps i) (hwf : (Lit.int .i64 i).wf = true) (hin : i ∈ xs) :
    Calls Try.prog 88 #[.int .i64 i, .pointer (some ⟨g2, 0, none⟩), .pointer (some ⟨g6, 0, none⟩), .pointer (some ⟨g5, 0, none⟩), .pointer (some ⟨g7, 0, none⟩)] w (fun e w' => ∃ v, e = .returned v ∧ VState w0 g2 g5 g6 g7 bm root A c ps.length w' xs xs) := by
  have HR := Aside0.mk hr0
  have HC := Aside0.mk hc0
  have HV := Aside0.mk hv
  have HU := Aside0.mk ((used_f root ps i).trans (congrArg some (decide_eq_true hyes)))
  have HIN := Aside0.mk hin
  have HWF := Aside0.mk hwf
  clear hr0 hc0 hv hyes hin hwf
  have hu1 := Try.underlying77
  have hu2 := Try.underlying36
  have hk0 : w.cell? ⟨g2, 0, none⟩ = some (.int .i64 root) := (blk_cell HV.out.box 0).trans rfl
  have hk1 : w.cell? ⟨g2, 1, none⟩ = some (.slice A ps.length c) := (blk_cell HV.out.box 1).trans rfl
  go_enter Try.func88, Try.ntmps88
  go_wp2_with (first
    | (go_at_call 67; refine (impl_used.calls root _ c ps i _ _ (Kd.C_below HR.out HV.out.below) HC.out HU.out).mono ?_; rintro e w1 ⟨rfl, hb1⟩; have HV1 := Aside0.mk (HV.out.next hb1); clear hb1 hk0 hk1 HV; have hk6 : w1.cell? ⟨g6, 0, none⟩ = some (.map (some bm)) := (blk_cell HV1.out.met 0).trans rfl; obtain ⟨nm, Dm, hnm, him, hom, hcm⟩ := HV1.out.map; have HNM := Aside0.mk hnm; have HIM := Aside0.mk him; have HOM := Aside0.mk hom; have HCM := Aside0.mk hcm; clear hnm him hom hcm) | ((try (refine gate_guard (by rfl) ?_; dsimp only)); at_lookup; refine wpList_lookup_own_int _ rfl _ _ 105 rfl 3 3 .i64 (Go.Maps.int_keyed Try.underlying3) Try.underlying105 Try.underlying3 (zero_int _) bm nm Dm rfl HOM.out _ _ rfl (Go.Maps.keyOf_int_mk Try.underlying3 HWF.out) ?_; intro cm hat hwc; obtain rfl : cm = 1 := (look_eq (HCM.out i HWF.out) hat).trans (if_pos HIN.out); clear hat hwc))
  refine bodyPost_ret (results_none rfl _ _ _) rfl ?_
  exact ⟨_, rfl, HV1.out⟩

theorem walkL_leaf {k : Nat} {ps : List S77} {es : List S82} {o r : List Int} {x : Int} (h : walkL k ps true es o x = some r) : r = o := by
  cases k with
  | zero => simp [walkL] at h
  | succ k =>
    rw [walkL, if_pos rfl] at h
    split at h <;> exact (Option.some.inj h).symm
theorem set5_below {W w7 : World} {g : Nat} (h : Below W.heap.size W w7) (hg : g = W.heap.size) (a b c d e : Value) : Below W.heap.size W (((((w7.setCell ⟨g, 0, none⟩ a).setCell ⟨g, 1, none⟩ b).setCell ⟨g, 2, none⟩ c).setCell ⟨g, 3, none⟩ d).setCell ⟨g, 4, none⟩ e) := by
  have hl := Nat.le_of_eq hg.symm
  exact below_set (below_set (below_set (below_set (below_set h hl) hl) hl) hl) hl
theorem VState.fncell {w0 : World} {g2 g5 g6 g7 bm : Nat} {root : Int} {A : Option Addr} {c n : Nat} {w : World} {out mo : List Int} (h : VState w0 g2 g5 g6 g7 bm root A c n w out mo) : w.cell? ⟨g7, 0, none⟩ = some (.func (.func 88) #[] #[.pointer (some ⟨g2, 0, none⟩), .pointer (some ⟨g6, 0, none⟩), .pointer (some ⟨g5, 0, none⟩), .pointer (some ⟨g7, 0, none⟩)]) := (blk_cell h.fn 0).trans rfl
theorem set5_cell {w7 : World} {g t : Nat} {z0 z1 z2 z3 z4 : Value} (h : w7.heap[g]? = some (.cells #[z0, z1, z2, z3, z4] t (0, 0))) (a b c d e : Value) : (((((w7.setCell ⟨g, 0, none⟩ a).setCell ⟨g, 1, none⟩ b).setCell ⟨g, 2, none⟩ c).setCell ⟨g, 3, none⟩ d).setCell ⟨g, 4, none⟩ e).cell? ⟨g, 0, none⟩ = some a := by
  have h1 := blk_put (cs' := #[a, z1, z2, z3, z4]) h 0 a rfl
  have h2 := blk_put (cs' := #[a, b, z2, z3, z4]) h1 1 b rfl
  have h3 := blk_put (cs' := #[a, b, c, z3, z4]) h2 2 c rfl
  have h4 := blk_put (cs' := #[a, b, c, d, z4]) h3 3 d rfl
  have h5 := blk_put (cs' := #[a, b, c, d, e]) h4 4 e rfl
  exact (blk_cell h5 0).trans rfl
theorem store5_run (o : Oper) (a : Act) (p v : Tmp) (hop : o.op = .store 82 (.tmp p) (.tmp v)) (g : Nat) (w7 : World) (b0 b1 b2 b3 b4 : Int) (hp : a.eval (.tmp p) = .pointer (some ⟨g, 0, none⟩)) (hv : a.eval (.tmp v) = .agg #[.int .i64 b0, .int .i64 b1, .int .i64 b2, .int .i64 b3, .int .i64 b4])
    (hbox : w7.heap[g]? = some (.cells #[.int .i64 0, .int .i64 0, .int .i64 0, .int .i64 0, .int .i64 0] 82 (0, 0))) :
    (execOp a.eval o).run Try.prog w7 = .ok .skip (((((w7.setCell ⟨g, 0, none⟩ (.int .i64 b0)).setCell ⟨g, 1, none⟩ (.int .i64 b1)).setCell ⟨g, 2, none⟩ (.int .i64 b2)).setCell ⟨g, 3, none⟩ (.int .i64 b3)).setCell ⟨g, 4, none⟩ (.int .i64 b4)) := by
  have hu1 := Try.underlying82
  have hs0 : w7.cell? ⟨g, 0, none⟩ = some (.int .i64 0) := (blk_cell hbox 0).trans rfl
  have hs1 : w7.cell? ⟨g, 1, none⟩ = some (.int .i64 0) := (blk_cell hbox 1).trans rfl
  have hs2 : w7.cell? ⟨g, 2, none⟩ = some (.int .i64 0) := (blk_cell hbox 2).trans rfl
  have hs3 : w7.cell? ⟨g, 3, none⟩ = some (.int .i64 0) := (blk_cell hbox 3).trans rfl
  have hs4 : w7.cell? ⟨g, 4, none⟩ = some (.int .i64 0) := (blk_cell hbox 4).trans rfl
  have hf0 := blk_frozen hbox 0
  have hf1 := blk_frozen hbox 1
  have hf2 := blk_frozen hbox 2
  have hf3 := blk_frozen hbox 3
  have hf4 := blk_frozen hbox 4
  clear hbox
  unfold execOp
  rw [hop]
  simp only [hp, hv]
  clear hop hp hv
  first | (go_simp; done) | (go_simp; rfl)
theorem hinfoInt5 : (Try.prog.info? 3).map (fun i => (i.zero, i.size, i.bytes)) = some (some (.int .i64 0), 1, 8) := hinfoInt
set_option maxHeartbeats 16000000 in
set_option maxRecDepth 100000 in
theorem visit_new (w0 : World) (g2 g5 g6 g7 bm : Nat) (A : Option Addr) (c : Nat) (ps : List S77) (hr0 : Kd.C k77 w0 A ps.length ps) (hc0 : ps.length ≤ c)
    (root i : Int) (xs : List Int) (w : World) (hv : VState w0 g2 g5 g6 g7 bm root A c ps.length w xs xs) (hyes : pgOk ps i) (hwf : (Lit.int .i64 i).wf = true) (hin : ¬ i ∈ xs) (hlen : xs.length < 17592186044415)
    (k : Nat) (ih : ∀ k', k' ≤ k → VisitSaid w0 g2 g5 g6 g7 bm root A c ps k') (r : List Int) (h : walkL k ps (rd_T77 ps i).f1.f0 (rd_T77 ps i).f1.f1 (xs ++ [i]) 0 = some r) :
    Calls Try.prog 88 #[.int .i64 i, .pointer (some ⟨g2, 0, none⟩), .pointer (some ⟨g6, 0, none⟩), .pointer (some ⟨g5, 0, none⟩), .pointer (some ⟨g7, 0, none⟩)] w (fun e w' => ∃ v, e = .returned v ∧ VState w0 g2 g5 g6 g7 bm root A c ps.length w' r r) := by
  have HR := Aside0.mk hr0
  have HC := Aside0.mk hc0
  have HV := Aside0.mk hv
  have HU := Aside0.mk ((used_f root ps i).trans (congrArg some (decide_eq_true hyes)))
  have HIN := Aside0.mk hin
  have HWF := Aside0.mk hwf
  have HLEN := Aside0.mk hlen
  have IH := Aside0.mk ih
  have H' := Aside0.mk h
  clear hr0 hc0 hv hin hwf hlen ih h
  have hu1 := Try.underlying77
  have hu2 := Try.underlying36
  have hk0 : w.cell? ⟨g2, 0, none⟩ = some (.int .i64 root) := (blk_cell HV.out.box 0).trans rfl
  have hk1 : w.cell? ⟨g2, 1, none⟩ = some (.slice A ps.length c) := (blk_cell HV.out.box 1).trans rfl
  have hu3 := Try.underlying75
  obtain ⟨h0, h1, hus⟩ := hyes
  obtain ⟨ad, A2, c2, e2, hz0, hz1, hz2, hl2, hC2⟩ := at_T77 HR.out i h0 h1
  subst e2
  have HC2 := Aside0.mk hC2
  have HL2 := Aside0.mk hl2
  have HZ1 := Aside0.mk hz1
  have HZ2 := Aside0.mk hz2
  clear hC2 hl2 hz0 hz1 hz2 hus
  obtain ⟨bl, hbl⟩ : ∃ b : Bool, b = (rd_T77 ps i).f1.f0 := ⟨_, rfl⟩
  obtain ⟨es, hes⟩ : ∃ l : List S82, l = (rd_T77 ps i).f1.f1 := ⟨_, rfl⟩
  rw [← hbl] at HZ1 H'
  rw [← hes] at HZ2 H' HC2 HL2
  clear hbl hes
  cases bl with
  | true =>
    go_enter Try.func88, Try.ntmps88
    go_wp2_with (first
      | (go_at_call 67; refine (impl_used.calls root _ c ps i _ _ (Kd.C_below HR.out HV.out.below) HC.out HU.out).mono ?_; rintro e w1 ⟨rfl, hb1⟩; have HV1 := Aside0.mk (HV.out.next hb1); clear hb1 hk0 hk1 HV; have hk6 : w1.cell? ⟨g6, 0, none⟩ = some (.map (some bm)) := (blk_cell HV1.out.met 0).trans rfl; obtain ⟨nm, Dm, hnm, him, hom, hcm⟩ := HV1.out.map; have HNM := Aside0.mk hnm; have HIM := Aside0.mk him; have HOM := Aside0.mk hom; have HCM := Aside0.mk hcm; clear hnm him hom hcm) | ((try (refine gate_guard (by rfl) ?_; dsimp only)); at_lookup; refine wpList_lookup_own_int _ rfl _ _ 105 rfl 3 3 .i64 (Go.Maps.int_keyed Try.underlying3) Try.underlying105 Try.underlying3 (zero_int _) bm nm Dm rfl HOM.out _ _ rfl (Go.Maps.keyOf_int_mk Try.underlying3 HWF.out) ?_; intro cm hat hwc; obtain rfl : cm = 0 := (look_eq (HCM.out i HWF.out) hat).trans (if_neg HIN.out); clear hat hwc)
      | (at_mapUpdate; refine wpList_mapUpdate_own _ rfl _ _ _ 105 rfl 3 3 (Go.Maps.int_keyed Try.underlying3) Try.underlying105 _ bm nm Dm rfl HOM.out (by have := HNM.out; have := HLEN.out; unfold maxLen; omega) _ _ (.int .i64 i) rfl rfl (Go.Maps.keyOf_int_mk Try.underlying3 HWF.out) (.lit (.int .i64 1)) [] (plainElem_int Try.underlying3 (by decide)) ?_; intro w2 hown2 hg2; have HV2 := Aside0.mk (HV1.out.put hg2 (MetOk.put HNM.out HIM.out hown2 HCM.out)); clear hown2 hg2 hk6; obtain ⟨Av, vv, cv, evv, h5c, hvr⟩ := HV2.out.row; subst evv; have HVR := Aside0.mk hvr; have H5C := Aside0.mk h5c; have hk5 : w2.cell? ⟨g5, 0, none⟩ = some (.slice Av xs.length cv) := (blk_cell h5c 0).trans rfl; have hf5 := blk_frozen h5c 0; clear hvr h5c)
      | ((with_reducible refine gate_builtin (b := .append) (xs := #[.tmp 20, .tmp 22]) rfl ?_); at_builtin; refine Kd.R_append (Kd.int .i64) (w0 := w0) w0.heap.size rfl (.tmp 20) (.tmp 22) 54 3 (.int .i64 0) 8 rfl Try.underlying54 hinfoInt rfl (by decide) (by omega) (.slice Av xs.length cv) xs i [.int .i64 i] (fun _ => True) (fun _ => False) rfl rfl rfl (fun _ hk => hk.elim) (fun _ _ => trivial) HVR.out HV2.out.below HV2.out.below.size (by have := HLEN.out; omega) ?_; intro v5 w5 ho5 hb5 hg5 hat5; obtain ⟨A5, c5, e5⟩ := Kd.R_slice ho5; subst e5; have HV5 := Aside0.mk (HV2.out.app H5C.out HVR.out hg5 hb5 ho5); have hk5b : w5.cell? ⟨g5, 0, none⟩ = some (.slice Av xs.length cv) := (blk_cell (blk_grown H5C.out hg5 (Kd.R_ne HVR.out H5C.out (by decide))) 0).trans rfl; have hf5b := blk_frozen (blk_grown H5C.out hg5 (Kd.R_ne HVR.out H5C.out (by decide))) 0; clear ho5 hb5 hg5 hat5 hk5 hf5 HV2 HV1)
      | ((with_reducible refine gate_store (t := 54) (p := 3) rfl ?_); refine store_event (t := 54) (p := 3) (v := ?vo8) (w1 := (w5.setCell ⟨g5, 0, none⟩ (.slice A5 (xs ++ [i]).length c5))) ?hg ?ho ?hn ?hr ?_; (case ho => rfl); (case hg => rfl); (case hn => rfl); (case hr => first | (go_simp; done) | (go_simp; rfl)); intro w6 hw; rw [← hw] at HV5; clear hw; have hx1 := (HV5.out.below.cell (World.block_lt_of_cell? w0 _ HZ1.out)).trans HZ1.out; have hx2 := (HV5.out.below.cell (World.block_lt_of_cell? w0 _ HZ2.out)).trans HZ2.out; have hk1 : w6.cell? ⟨g2, 1, none⟩ = some (.slice (some ad) ps.length c) := (blk_cell HV5.out.box 1).trans rfl))
    go_end0
    obtain rfl := walkL_leaf H'.out
    exact ⟨_, rfl, HV5.out⟩
  | false =>
    go_enter Try.func88, Try.ntmps88
    go_wp2_with (first
      | (go_at_call 67; refine (impl_used.calls root _ c ps i _ _ (Kd.C_below HR.out HV.out.below) HC.out HU.out).mono ?_; rintro e w1 ⟨rfl, hb1⟩; have HV1 := Aside0.mk (HV.out.next hb1); clear hb1 hk0 hk1 HV; have hk6 : w1.cell? ⟨g6, 0, none⟩ = some (.map (some bm)) := (blk_cell HV1.out.met 0).trans rfl; obtain ⟨nm, Dm, hnm, him, hom, hcm⟩ := HV1.out.map; have HNM := Aside0.mk hnm; have HIM := Aside0.mk him; have HOM := Aside0.mk hom; have HCM := Aside0.mk hcm; clear hnm him hom hcm) | ((try (refine gate_guard (by rfl) ?_; dsimp only)); at_lookup; refine wpList_lookup_own_int _ rfl _ _ 105 rfl 3 3 .i64 (Go.Maps.int_keyed Try.underlying3) Try.underlying105 Try.underlying3 (zero_int _) bm nm Dm rfl HOM.out _ _ rfl (Go.Maps.keyOf_int_mk Try.underlying3 HWF.out) ?_; intro cm hat hwc; obtain rfl : cm = 0 := (look_eq (HCM.out i HWF.out) hat).trans (if_neg HIN.out); clear hat hwc)
      | (at_mapUpdate; refine wpList_mapUpdate_own _ rfl _ _ _ 105 rfl 3 3 (Go.Maps.int_keyed Try.underlying3) Try.underlying105 _ bm nm Dm rfl HOM.out (by have := HNM.out; have := HLEN.out; unfold maxLen; omega) _ _ (.int .i64 i) rfl rfl (Go.Maps.keyOf_int_mk Try.underlying3 HWF.out) (.lit (.int .i64 1)) [] (plainElem_int Try.underlying3 (by decide)) ?_; intro w2 hown2 hg2; have HV2 := Aside0.mk (HV1.out.put hg2 (MetOk.put HNM.out HIM.out hown2 HCM.out)); clear hown2 hg2 hk6; obtain ⟨Av, vv, cv, evv, h5c, hvr⟩ := HV2.out.row; subst evv; have HVR := Aside0.mk hvr; have H5C := Aside0.mk h5c; have hk5 : w2.cell? ⟨g5, 0, none⟩ = some (.slice Av xs.length cv) := (blk_cell h5c 0).trans rfl; have hf5 := blk_frozen h5c 0; clear hvr h5c)
      | ((with_reducible refine gate_builtin (b := .append) (xs := #[.tmp 20, .tmp 22]) rfl ?_); at_builtin; refine Kd.R_append (Kd.int .i64) (w0 := w0) w0.heap.size rfl (.tmp 20) (.tmp 22) 54 3 (.int .i64 0) 8 rfl Try.underlying54 hinfoInt rfl (by decide) (by omega) (.slice Av xs.length cv) xs i [.int .i64 i] (fun _ => True) (fun _ => False) rfl rfl rfl (fun _ hk => hk.elim) (fun _ _ => trivial) HVR.out HV2.out.below HV2.out.below.size (by have := HLEN.out; omega) ?_; intro v5 w5 ho5 hb5 hg5 hat5; obtain ⟨A5, c5, e5⟩ := Kd.R_slice ho5; subst e5; have HV5 := Aside0.mk (HV2.out.app H5C.out HVR.out hg5 hb5 ho5); have hk5b : w5.cell? ⟨g5, 0, none⟩ = some (.slice Av xs.length cv) := (blk_cell (blk_grown H5C.out hg5 (Kd.R_ne HVR.out H5C.out (by decide))) 0).trans rfl; have hf5b := blk_frozen (blk_grown H5C.out hg5 (Kd.R_ne HVR.out H5C.out (by decide))) 0; clear ho5 hb5 hg5 hat5 hk5 hf5 HV2 HV1)
      | ((with_reducible refine gate_store (t := 54) (p := 3) rfl ?_); refine store_event (t := 54) (p := 3) (v := ?vo8) (w1 := (w5.setCell ⟨g5, 0, none⟩ (.slice A5 (xs ++ [i]).length c5))) ?hg ?ho ?hn ?hr ?_; (case ho => rfl); (case hg => rfl); (case hn => rfl); (case hr => first | (go_simp; done) | (go_simp; rfl)); intro w6 hw; rw [← hw] at HV5; clear hw; have hx1 := (HV5.out.below.cell (World.block_lt_of_cell? w0 _ HZ1.out)).trans HZ1.out; have hx2 := (HV5.out.below.cell (World.block_lt_of_cell? w0 _ HZ2.out)).trans HZ2.out; have hk1 : w6.cell? ⟨g2, 1, none⟩ = some (.slice (some ad) ps.length c) := (blk_cell HV5.out.box 1).trans rfl))
    go_loopg [40] k (fun kq v40 w' => ∃ (o : List Int) (x : Int), v40 = .int .i64 x ∧ Aside0 (walkL kq ps false es o x = some r) ∧ Aside0 (kq ≤ k) ∧ Aside0 (VState w0 g2 g5 g6 g7 bm root (some ad) c ps.length w' o o))
    case atStart => exact ⟨xs ++ [i], 0, rfl, H', ⟨Nat.le_refl _⟩, HV5⟩
    case round =>
      clear H' HV5 hx1 hx2 hk1
      obtain ⟨o, x, rfl, HA, HK1, HV⟩ := hrel
      cases gk with
      | zero => exact absurd HA.out (by simp [walkL])
      | succ k1 =>
        have H := HA.out
        clear HA
        rw [walkL] at H
        by_cases c1 : x < (es.length : Int)
        · rw [if_pos c1, if_neg (by decide)] at H
          have c1b : decide (x < (es.length : Int)) = true := decide_eq_true c1
          by_cases c2b : 0 ≤ x
          · rw [if_pos c2b] at H
            obtain ⟨o2, h2, H⟩ := Option.bind_eq_some_iff.mp H
            have H2 := Aside0.mk h2
            have H' := Aside0.mk H
            clear H h2
            obtain ⟨ad2, e2, hy0, hy1, hy2, hy3, hy4⟩ := at_T82 HC2.out x c2b c1
            subst e2
            replace hy0 := (HV.out.below.cell (World.block_lt_of_cell? w0 _ hy0)).trans hy0
            replace hy1 := (HV.out.below.cell (World.block_lt_of_cell? w0 _ hy1)).trans hy1
            replace hy2 := (HV.out.below.cell (World.block_lt_of_cell? w0 _ hy2)).trans hy2
            replace hy3 := (HV.out.below.cell (World.block_lt_of_cell? w0 _ hy3)).trans hy3
            replace hy4 := (HV.out.below.cell (World.block_lt_of_cell? w0 _ hy4)).trans hy4
            go_wp2_with (first
              | ((with_reducible refine gate_dst (N := 7) rfl ?_); refine box_event ?hg (N := 7) ?hd (cs := #[.int .i64 0, .int .i64 0, .int .i64 0, .int .i64 0, .int .i64 0]) (t := 82) ?hr ?_; (case hd => rfl); (case hg => rfl); (case hr => first | (go_simp; done) | (go_simp; rfl)); intro gv hg w7 hbox hb7; have hs0 : w7.cell? ⟨gv, 0, none⟩ = some (.int .i64 0) := (blk_cell hbox 0).trans rfl; have hs1 : w7.cell? ⟨gv, 1, none⟩ = some (.int .i64 0) := (blk_cell hbox 1).trans rfl; have hs2 : w7.cell? ⟨gv, 2, none⟩ = some (.int .i64 0) := (blk_cell hbox 2).trans rfl; have hs3 : w7.cell? ⟨gv, 3, none⟩ = some (.int .i64 0) := (blk_cell hbox 3).trans rfl; have hs4 : w7.cell? ⟨gv, 4, none⟩ = some (.int .i64 0) := (blk_cell hbox 4).trans rfl; have hf0 := blk_frozen hbox 0; have hf1 := blk_frozen hbox 1; have hf2 := blk_frozen hbox 2; have hf3 := blk_frozen hbox 3; have hf4 := blk_frozen hbox 4; have HW7 := Aside0.mk hb7; have BK7 := Aside0.mk hbox; have GW7 := Aside0.mk hg; clear hb7 hg hbox)
              | ((with_reducible refine gate_store (t := 82) (p := 7) rfl ?_); refine store_event (t := 82) (p := 7) (v := ?vo9) (w1 := (((((w7.setCell ⟨gv, 0, none⟩ (.int .i64 (rd_T82 es x).f0)).setCell ⟨gv, 1, none⟩ (.int .i64 (rd_T82 es x).f1.f0)).setCell ⟨gv, 2, none⟩ (.int .i64 (rd_T82 es x).f1.f1)).setCell ⟨gv, 3, none⟩ (.int .i64 (rd_T82 es x).f1.f2)).setCell ⟨gv, 4, none⟩ (.int .i64 (rd_T82 es x).f1.f3))) ?hg ?ho ?hn ?hr ?_; (case ho => rfl); (case hg => rfl); (case hn => rfl); (case hr => exact store5_run _ _ 7 43 rfl gv w7 _ _ _ _ _ rfl rfl BK7.out); intro w8 hw; have hb8 := set5_below HW7.out GW7.out (.int .i64 (rd_T82 es x).f0) (.int .i64 (rd_T82 es x).f1.f0) (.int .i64 (rd_T82 es x).f1.f1) (.int .i64 (rd_T82 es x).f1.f2) (.int .i64 (rd_T82 es x).f1.f3); rw [← hw] at hb8; have HV8 := Aside0.mk (HV.out.next hb8); have hk7 : w8.cell? ⟨gv, 0, none⟩ = some (.int .i64 (rd_T82 es x).f0) := (by rw [hw]; exact set5_cell BK7.out _ _ _ _ _); have hk4 := HV8.out.fncell; clear hw hb8 hs0 hs1 hs2 hs3 hs4 hf0 hf1 hf2 hf3 hf4 HW7 BK7 GW7)
              | (go_at_call 88; refine (IH.out k1 (by have := HK1.out; omega) _ o o2 _ HV8.out H2.out).mono ?_; rintro e w9 ⟨v9, rfl, hv9⟩; clear hk7 hk4))
            go_roundg k1
            case measure => have := HK1.out; omega
            case rel => exact ⟨o2, wrap64 (x + 1), rfl, H', ⟨by have := HK1.out; omega⟩, ⟨hv9⟩⟩
          · rw [if_neg c2b] at H
            exact absurd H (by simp)
        · rw [if_neg c1] at H
          have c1b : decide (x < (es.length : Int)) = false := decide_eq_false c1
          obtain rfl := Option.some.inj H
          go_wp2
          go_end0
          exact ⟨⟨_, rfl⟩, HV.out⟩

theorem visit_all (w0 : World) (g2 g5 g6 g7 bm : Nat) (root : Int) (A : Option Addr) (c : Nat) (ps : List S77) (hr0 : Kd.C k77 w0 A ps.length ps) (hc0 : ps.length ≤ c) : ∀ k k', k' ≤ k → VisitSaid w0 g2 g5 g6 g7 bm root A c ps k'
  | 0, k', hk => by
    obtain rfl : k' = 0 := by omega
    intro i xs r w _ h
    simp [walkM] at h
  | k + 1, k', hk => by
    rcases Nat.lt_or_ge k' (k + 1) with hlt | hge
    · exact visit_all w0 g2 g5 g6 g7 bm root A c ps hr0 hc0 k k' (by omega)
    obtain rfl : k' = k + 1 := by omega
    intro i xs r w hv h
    rw [walkM] at h
    have hmax : ps.length ≤ 9223372036854775807 := hr0.2.1
    by_cases h1 : pgOk ps i
    · rw [if_pos h1] at h
      have hwf : (Lit.int .i64 i).wf = true := by
        have h2 := h1.1
        have h3 := h1.2.1
        unfold Lit.wf
        rw [Bool.and_eq_true, decide_eq_true_eq, decide_eq_true_eq]
        have e1 : IntKind.i64.min = -9223372036854775808 := by decide
        have e2 : IntKind.i64.max = 9223372036854775807 := by decide
        rw [e1, e2]
        omega
      by_cases h3 : xs.length < 17592186044415
      · rw [if_pos h3] at h
        by_cases h2 : i ∈ xs
        · rw [if_pos h2] at h
          obtain rfl := Option.some.inj h
          exact visit_met w0 g2 g5 g6 g7 bm A c ps hr0 hc0 root i xs w hv h1 hwf h2
        · rw [if_neg h2] at h
          exact visit_new w0 g2 g5 g6 g7 bm A c ps hr0 hc0 root i xs w hv h1 hwf h2 h3 k (fun k' hk' => visit_all w0 g2 g5 g6 g7 bm root A c ps hr0 hc0 k k' hk') r h
      · rw [if_neg h3] at h
        exact absurd h (by simp)
    · rw [if_neg h1] at h
      obtain rfl := Option.some.inj h
      exact visit_out w0 g2 g5 g6 g7 bm A c ps hr0 hc0 root i xs w hv h1

theorem MetOk.below {w w' : World} {b : Nat} {out : List Int} (h : MetOk w b out) (hb : Below w.heap.size w w') : MetOk w' b out := by
  obtain ⟨es, clock, hm⟩ := h.isMap
  exact h.step ((blk_below hm hb).trans hm.symm)
theorem blkFarH {w : World} {g g' : Nat} {o : Obj} (h : w.heap[g]? = some o) (hne : g ≠ g') (v : Value) : (w.setCell ⟨g', 0, none⟩ v).heap[g]? = some o := (Below.heap_setCell w _ v _ hne).trans h
theorem MetOk.far {w : World} {b g : Nat} {out : List Int} {cs : Array Value} {t : TypeId} {fr : Nat × Nat} (h : MetOk w b out) (hc : w.heap[g]? = some (.cells cs t fr)) (v : Value) : MetOk (w.setCell ⟨g, 0, none⟩ v) b out := by
  obtain ⟨es, clock, hm⟩ := h.isMap
  exact h.step (Below.heap_setCell w _ v _ (fun e => cells_ne_map hc hm (by rw [e])))
theorem func_store (o : Oper) (a : Act) (p v : Tmp) (hop : o.op = .store 106 (.tmp p) (.tmp v)) (g : Nat) (w : World) (f : FuncId) (fs : Array Value) (hp : a.eval (.tmp p) = .pointer (some ⟨g, 0, none⟩)) (hv : a.eval (.tmp v) = .func (.func f) #[] fs)
    (hbox : w.heap[g]? = some (.cells #[.nilFunc] 106 (0, 0))) : (execOp a.eval o).run Try.prog w = .ok .skip (w.setCell ⟨g, 0, none⟩ (.func (.func f) #[] fs)) := by
  have hs : w.cell? ⟨g, 0, none⟩ = some .nilFunc := (blk_cell hbox 0).trans rfl
  have hf := blk_frozen hbox 0
  have hu := Try.underlying106
  unfold execOp
  rw [hop]
  simp only [hp, hv]
  have hone : (Value.func (.func f) #[] fs).oneCell' = true := rfl
  clear hop hp hv hbox
  first | (go_simp; done) | (go_simp; rfl) | (go_simp; rw [run_store _ _ _ _ _ hone]; simp [hs, hf]; done)
theorem map_event {ops : Array Oper} {rest : List Oper} {o : Oper} {a : Act} {Q : Exit → Act → World → Prop} {W : World} (hgd : o.guard = none) {N : Tmp} (hd : o.dst = some N) (hop : o.op = .makeMap 105 none)
    (h : ∀ g, g = W.heap.size → ∀ w1, MetOk w1 g [] → Below W.heap.size W w1 → wpList Try.prog ops Q rest (a.put o.dst (.map (some g))) w1) : wpList Try.prog ops Q (o :: rest) a W := by
  refine Kd.event_run (v := .map (some W.heap.size)) (w1 := W.alloc (.map #[] 0)) hgd ?_ (h _ rfl _ (MetOk.made W) (below_alloc (Below.refl _ _) _))
  unfold execOp
  rw [hop]
  simp [run_makeMap, Result.andThen]
theorem start_state {w w9 w10 : World} {g2 g5 g6 g7 bm : Nat} {root : Int} {A : Option Addr} {c n : Nat} (hb : Below w.heap.size w w9) (h2 : w9.heap[g2]? = some (.cells #[.int .i64 root, .slice A n c] 36 (0, 0))) (h6 : w9.heap[g6]? = some (.cells #[.map (some bm)] 105 (0, 0))) (h5 : w9.heap[g5]? = some (.cells #[.slice none 0 0] 54 (0, 0))) (h7 : w9.heap[g7]? = some (.cells #[.nilFunc] 106 (0, 0))) (hm : MetOk w9 bm []) (ge5 : w.heap.size ≤ g5) (gem : w.heap.size ≤ bm) (ge7 : w.heap.size ≤ g7) (hw : w10 = w9.setCell ⟨g7, 0, none⟩ (.func (.func 88) #[] #[.pointer (some ⟨g2, 0, none⟩), .pointer (some ⟨g6, 0, none⟩), .pointer (some ⟨g5, 0, none⟩), .pointer (some ⟨g7, 0, none⟩)])) : VState w g2 g5 g6 g7 bm root A c n w10 [] [] := by
  subst hw
  exact ⟨below_set hb ge7, blkFarH h2 (blkNe h2 h7 (by decide)) _, blkFarH h6 (blkNe h6 h7 (by decide)) _, ⟨none, _, 0, rfl, blkFarH h5 (blkNe h5 h7 (by decide)) _, Kd.R_nil _ _ _ _ _⟩, blk_put h7 0 _ rfl, hm.far h7 _, ge5, gem⟩

/-- The program's walk. -/
def impl_reachFrom.f (k : Nat) (a0_0 : Int) (l0_1 : List S77) (a1 : Int) : Option (List Int) := walkM k l0_1 a1 []
theorem impl_reachFrom.mono : ∀ a0 a1 a2 k, LeO (impl_reachFrom.f k a0 a1 a2) (impl_reachFrom.f (k + 1) a0 a1 a2) := fun a0 a1 a2 k => (walk_mono k).1 _ _ _
set_option maxHeartbeats 8000000 in
set_option maxRecDepth 100000 in
theorem impl_reachFrom.calls (k : Nat) (a0_0 : Int) (A0_1 : Option Addr) (c0_1 : Nat) (l0_1 : List S77) (a1 : Int) (r : List Int) (w : World) (hr0_1 : Kd.C k77 w A0_1 l0_1.length l0_1) (hc0_1 : l0_1.length ≤ c0_1) (h : impl_reachFrom.f k a0_0 l0_1 a1 = some r) :
    Calls Try.prog 75 #[.agg #[.int .i64 a0_0, .slice A0_1 l0_1.length c0_1], .int .i64 a1] w fun e w' => ∃ v0_ : Value, e = .returned (v0_) ∧ Kd.R (Kd.int .i64) 3 w' w.heap.size (fun _ => True) v0_ r ∧ Below w.heap.size w w' := by
  have HS := Aside0.mk (fun g2 g5 g6 g7 bm => visit_all w g2 g5 g6 g7 bm a0_0 A0_1 c0_1 l0_1 hr0_1 hc0_1 k k (Nat.le_refl _))
  have H' := Aside0.mk h
  clear hr0_1 hc0_1 h
  have hu2 := Try.underlying36
  go_enter Try.func75, Try.ntmps75
  go_wp2_with (first
    | ((with_reducible refine gate_dst (N := 2) rfl ?_); refine box_event ?hg (N := 2) ?hd (cs := #[.int .i64 a0_0, .slice A0_1 l0_1.length c0_1]) (t := 36) ?hr ?_; (case hd => rfl); (case hg => rfl); (case hr => first | (go_simp; done) | (go_simp; rfl)); intro g2 hg w2 hbox hb; have B2 := Aside0.mk hb; have BK2 := Aside0.mk hbox; clear hb hg hbox)
    | ((with_reducible refine gate_dst (N := 5) rfl ?_); refine box_event ?hg (N := 5) ?hd (cs := #[.slice none 0 0]) (t := 54) ?hr ?_; (case hd => rfl); (case hg => rfl); (case hr => first | (go_simp; done) | (go_simp; rfl)); intro g5 hg w5 hbox hb; have B5 := Aside0.mk (below_step B2.out hb); have BK2 := Aside0.mk (blk_below BK2.out hb); have BK5 := Aside0.mk hbox; have GE5 := Aside0.mk (by rw [hg]; exact B2.out.size : w.heap.size ≤ g5); clear hb hg hbox)
    | ((with_reducible refine gate_dst (N := 8) rfl ?_); refine map_event rfl (N := 8) rfl rfl ?_; intro bm hg w8 hmet hb; have B8 := Aside0.mk (below_step B5.out hb); have BK2 := Aside0.mk (blk_below BK2.out hb); have BK5 := Aside0.mk (blk_below BK5.out hb); have GE8 := Aside0.mk (by rw [hg]; exact B5.out.size : w.heap.size ≤ bm); have MET := Aside0.mk hmet; clear hb hg hmet)
    | ((with_reducible refine gate_dst (N := 6) rfl ?_); refine box_event ?hg (N := 6) ?hd (cs := #[.map none]) (t := 105) ?hr ?_; (case hd => rfl); (case hg => rfl); (case hr => first | (go_simp; done) | (go_simp; rfl)); intro g6 hg w6 hbox hb; have B6 := Aside0.mk (below_step B8.out hb); have BK2 := Aside0.mk (blk_below BK2.out hb); have BK5 := Aside0.mk (blk_below BK5.out hb); have MET := Aside0.mk (MET.out.below hb); have BK6 := Aside0.mk hbox; have GE6 := Aside0.mk (by rw [hg]; exact B8.out.size : w.heap.size ≤ g6); have hs6 : w6.cell? ⟨g6, 0, none⟩ = some (.map none) := (blk_cell hbox 0).trans rfl; have hf6 := blk_frozen hbox 0; clear hb hg hbox)
    | ((with_reducible refine gate_store (t := 105) (p := 6) rfl ?_); refine store_event (t := 105) (p := 6) (v := ?vo1) (w1 := (w6.setCell ⟨g6, 0, none⟩ (.map (some bm)))) ?hg ?ho ?hn ?hr ?_; (case ho => rfl); (case hg => rfl); (case hn => rfl); (case hr => first | (go_simp; done) | (go_simp; rfl)); intro w7 hw; have BK2 := Aside0.mk (hw ▸ blkFarH BK2.out (blkNe BK2.out BK6.out (by decide)) (.map (some bm))); have BK5 := Aside0.mk (hw ▸ blkFarH BK5.out (blkNe BK5.out BK6.out (by decide)) (.map (some bm))); have MET := Aside0.mk (hw ▸ MET.out.far BK6.out (.map (some bm))); have B7 := Aside0.mk (hw ▸ below_set B6.out GE6.out : Below w.heap.size w w7); have BK6 := Aside0.mk (hw ▸ blk_put (cs' := #[.map (some bm)]) BK6.out 0 (.map (some bm)) rfl : w7.heap[g6]? = some (.cells #[.map (some bm)] 105 (0, 0))); clear hw hs6 hf6)
    | ((with_reducible refine gate_dst (N := 7) rfl ?_); refine box_event ?hg (N := 7) ?hd (cs := #[.nilFunc]) (t := 106) ?hr ?_; (case hd => rfl); (case hg => rfl); (case hr => first | (go_simp; done) | (go_simp; rfl)); intro g7 hg w9 hbox hb; have B9 := Aside0.mk (below_step B7.out hb); have BK2 := Aside0.mk (blk_below BK2.out hb); have BK5 := Aside0.mk (blk_below BK5.out hb); have BK6 := Aside0.mk (blk_below BK6.out hb); have MET := Aside0.mk (MET.out.below hb); have BK7 := Aside0.mk hbox; have GE7 := Aside0.mk (by rw [hg]; exact B7.out.size : w.heap.size ≤ g7); have hs7 : w9.cell? ⟨g7, 0, none⟩ = some .nilFunc := (blk_cell hbox 0).trans rfl; have hf7 := blk_frozen hbox 0; clear hb hg hbox)
    | ((with_reducible refine gate_store (t := 106) (p := 7) rfl ?_); refine store_event (t := 106) (p := 7) (v := ?vo2) (w1 := (w9.setCell ⟨g7, 0, none⟩ (.func (.func 88) #[] #[.pointer (some ⟨g2, 0, none⟩), .pointer (some ⟨g6, 0, none⟩), .pointer (some ⟨g5, 0, none⟩), .pointer (some ⟨g7, 0, none⟩)]))) ?hg ?ho ?hn ?hr ?_; (case ho => rfl); (case hg => rfl); (case hn => rfl); (case hr => exact func_store _ _ 7 9 rfl g7 w9 _ _ rfl rfl BK7.out); intro w10 hw; have HV := Aside0.mk (start_state B9.out BK2.out BK6.out BK5.out BK7.out MET.out GE5.out GE8.out GE7.out hw); have hk7 : w10.cell? ⟨g7, 0, none⟩ = some (.func (.func 88) #[] #[.pointer (some ⟨g2, 0, none⟩), .pointer (some ⟨g6, 0, none⟩), .pointer (some ⟨g5, 0, none⟩), .pointer (some ⟨g7, 0, none⟩)]) := HV.out.fncell; clear hw hs7 hf7)
    | (go_at_call 88; refine (HS.out g2 g5 g6 g7 bm a1 [] r _ HV.out H'.out).mono ?_; rintro e w11 ⟨v11, rfl, hv⟩; obtain ⟨Av, vv, cv, evv, h5c, hvr⟩ := hv.row; subst evv; have HVR := Aside0.mk hvr; have HBB := Aside0.mk hv.below; have hk5 : w11.cell? ⟨g5, 0, none⟩ = some (.slice Av r.length cv) := (blk_cell h5c 0).trans rfl; clear hv hvr h5c))
  go_ret
  exact ⟨_, rfl, HVR.out, HBB.out⟩

end Go.Proofs.Ythenmlaleobapaa.All
