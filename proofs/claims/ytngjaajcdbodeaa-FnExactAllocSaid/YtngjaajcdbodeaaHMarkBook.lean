/- markPageS and markBook write count, count + 1, .. into the numbers of the pages of a book of one's own, and return the next number. No condition. -/
import Derived.Test.YtngjaajcdbodeaaHMarkEntryS
namespace Go.Proofs.Ytngjaajcdbodeaa.All
open Go.RowKit Go.Proofs.YtngjaajcdbodeaaW.PrintWords Go.Proofs.YtngjaajcdbodeaaW.PrintLast Go.Proofs.YtngjaajcdbodeaaW.PrintMore
set_option linter.unusedVariables false
set_option linter.unusedSimpArgs false

/-! ### laws_markPageS: by hand -/
/-- What the marks make of a bool. -/
def m3 (n : Int) : Bool := Int.tmod n 3 == 0
def laws_markPageS.l0 : Nat → List S90 → Int → Int → Option (Int × List S90)
  | 0, _, _, _ => none
  | k + 1, x0, x1, x5 => if x5 < (x0.length : Int) then (if 0 ≤ x5 then ((laws_markEntryS.f k (rd_T90 x0 x5).f1.f1 (w1 (w1 x1))).bind fun t => laws_markPageS.l0 k (x0.set x5.toNat ⟨m3 x1, ⟨m3 (w1 x1), t.2⟩⟩) t.1 (wrap64 (x5 + 1))) else none) else (some (x1, x0))
def laws_markPageS.f (k : Nat) (l0 : List S90) (a1 : Int) : Option (Int × List S90) := laws_markPageS.l0 k l0 a1 0
theorem laws_markPageS.mono_l : ∀ k, (∀ y0 y1 y2, LeO (laws_markPageS.l0 k y0 y1 y2) (laws_markPageS.l0 (k + 1) y0 y1 y2))
  | 0 => fun _ _ _ r h => by simp [laws_markPageS.l0] at h
  | k + 1 => by
    have ih0 := laws_markPageS.mono_l k
    intro y0 y1 y2
    unfold laws_markPageS.l0
    exact LeO.ite (LeO.ite (LeO.bind (laws_markEntryS.mono _ _ _) (fun _ => ih0 _ _ _)) (LeO.refl _)) (LeO.refl _)
theorem laws_markPageS.mono : ∀ a0 a1 k, LeO (laws_markPageS.f k a0 a1) (laws_markPageS.f (k + 1) a0 a1) := fun a0 a1 k => laws_markPageS.mono_l k _ _ _
theorem size_set2 (w : World) (a b : Addr) (u v : Value) : ((w.setCell a u).setCell b v).heap.size = w.heap.size := by simp [World.setCell]
theorem mark_back {w0 w wr wc w' : World} {P0_ oki : Nat → Prop} {g n cap c2 m : Nat} {A2 : Option Addr} {x5 : Int} {b0 b1 : Bool} {xs : List S90} {q2 : List S103}
    (h : Kd.H k90 90 wc w0.heap.size (fun k_ => (P0_ k_ ∨ w.heap.size ≤ k_)) (.slice (some ⟨g, 0, none⟩) n cap) xs x5 (fun k => oki k ∨ (P0_ k ∨ w.heap.size ≤ k) ∧ wr.heap.size ≤ k) [.bool b0, .bool b1, .slice A2 m c2])
    (hk : Kept wc w' (fun k_ => oki k_)) (ho : Kd.R k103 103 w' w0.heap.size (fun k_ => (oki k_ ∨ wc.heap.size ≤ k_)) (.slice A2 m c2) q2) (hle : w.heap.size ≤ wr.heap.size) (hsz : wc.heap.size = wr.heap.size) :
    Kd.S k90 90 w' w0.heap.size (fun k_ => (P0_ k_ ∨ w.heap.size ≤ k_)) (.slice (some ⟨g, 0, none⟩) n cap) (xs.set x5.toNat ⟨b0, ⟨b1, q2⟩⟩) := by
  refine Kd.H_back (Kd.H_kept h hk (fun k _ hn hs => hn (.inl hs))) (k90_mkM w' w0.heap.size _ (⟨b0, ⟨b1, q2⟩⟩ : S90) ho) (fun k hk => ?_)
  rcases hk with hk | hk
  · exact .inl hk
  · rw [hsz] at hk
    exact .inr ⟨.inr (by omega), hk⟩
set_option maxHeartbeats 2000000 in
set_option maxRecDepth 100000 in
theorem laws_markPageS.calls (k : Nat) (P0_ : Nat → Prop) (u9000_ : Value) (l0 : List S90) (a1 : Int) (r1 : Int) (r2 : List S90) (w0 w : World) (hB : Below w0.heap.size w0 w) (ho0 : Kd.S k90 90 w w0.heap.size P0_ u9000_ l0) (h : laws_markPageS.f k l0 a1 = some (r1, r2)) :
    Calls Try.prog 81 #[u9000_, .int .i64 a1] w fun e w' => e = .returned (.int .i64 r1) ∧ Kd.S k90 90 w' w0.heap.size (fun k_ => (P0_ k_ ∨ w.heap.size ≤ k_)) u9000_ r2 ∧ Below w0.heap.size w0 w' ∧ Kept w w' (fun k_ => P0_ k_) := by
  have HO0 := Aside0.mk (show Kd.S k90 90 w w0.heap.size (fun k_ => (P0_ k_ ∨ w.heap.size ≤ k_)) u9000_ l0 from Kd.S_mono ho0 (fun k_ hk => (.inl hk)))
  have HK := Aside0.mk (Kept.refl w (fun k_ => P0_ k_))
  have HB := Aside0.mk hB
  clear hB ho0
  have H' := Aside0.mk h
  clear h
  have hu1 := Try.underlying90
  have hu2 := Try.underlying54
  go_enter Try.func81, Try.ntmps81
  go_wp2
  go_loopg [1, 5] k (fun kq v1 v5 w' => ∃ (x0_1 : List S90) (x1_1 : Int) (x5_1 : Int), v1 = .int .i64 x1_1 ∧ v5 = .int .i64 x5_1 ∧ Aside0 (laws_markPageS.l0 kq x0_1 x1_1 x5_1 = some (r1, r2)) ∧ Aside0 (kq ≤ k) ∧ Aside0 (Kd.S k90 90 w' w0.heap.size (fun k_ => (P0_ k_ ∨ w.heap.size ≤ k_)) u9000_ x0_1) ∧ Aside0 (Kept w w' (fun k_ => P0_ k_)) ∧ Aside0 (Below w0.heap.size w0 w'))
  case atStart => exact ⟨l0, a1, 0, rfl, rfl, H', ⟨Nat.le_refl _⟩, HO0, HK, HB⟩
  case round =>
    clear H' HO0 HK HB
    obtain ⟨x0_1, x1_1, x5_1, rfl, rfl, HA, HK1, HO, HK, HB⟩ := hrel
    cases gk with
    | zero => exact absurd HA.out (by simp [laws_markPageS.l0])
    | succ k1 =>
      have H := HA.out
      clear HA
      simp only [laws_markPageS.l0] at H
      by_cases c3 : x5_1 < (x0_1.length : Int)
      · rw [if_pos c3] at H
        by_cases c4 : 0 ≤ x5_1
        · rw [if_pos c4] at H
          obtain ⟨⟨q1, q2⟩, hq, H⟩ := Option.bind_eq_some_iff.mp H
          have H' := Aside0.mk H
          clear H
          replace hq : laws_markEntryS.f k1 (x0_1.getD x5_1.toNat z90).f1.f1 (w1 (w1 x1_1)) = some (q1, q2) := hq
          obtain ⟨Ao6, co6, eo6⟩ := Kd.S_slice HO.out
          subst eo6
          obtain ⟨go5, co5, eo5, gb5, gl5, cl5, HG5⟩ := Kd.S_form HO.out (by omega)
          injection eo5 with ea_ en_ ec_
          subst ea_
          subst ec_
          clear en_
          have hPg := Aside0.mk (show (P0_ go5 ∨ w.heap.size ≤ go5) from ((Kd.S_R HO.out).1 _ rfl))
          obtain ⟨oki, c, hcl, hM, hcc, hfr, hoki, hH⟩ := Kd.S_elem HO.out z90 x5_1 c4 c3
          generalize x0_1.getD x5_1.toNat z90 = pg at hM hq
          have HQ := Aside0.mk hq
          clear hq
          obtain ⟨v2, rfl, g2⟩ := k90_openM hM
          obtain ⟨A2, c2, ev2⟩ := Kd.R_slice g2
          subst ev2
          have hseg := Kd.H_seg (Kd.H_widen hH) c4 c3 (seg := [.bool (m3 x1_1), .bool (m3 (w1 x1_1))]) (j := 0) (show 2 ≤ 3 by decide) (by intro q hq; simp at hq; rcases hq with rfl | rfl <;> rfl)
          have HSEG := Aside0.mk hseg
          have G2 := Aside0.mk g2
          have OKI := Aside0.mk hoki
          have hx0 : wr.cell? ⟨go5, x5_1.toNat * 3, none⟩ = some _ := hcc 0 _ rfl
          have hx1 : wr.cell? ⟨go5, x5_1.toNat * 3 + 1, none⟩ = some _ := hcc 1 _ rfl
          have hx2 : wr.cell? ⟨go5, x5_1.toNat * 3 + 2, none⟩ = some _ := hcc 2 _ rfl
          have hf0 : wr.frozen? ⟨go5, x5_1.toNat * 3, none⟩ = false := hfr 0
          have hf1 : wr.frozen? ⟨go5, x5_1.toNat * 3 + 1, none⟩ = false := hfr 1
          clear hcc hfr hM hcl hseg g2 hoki hH
          have GB := Aside0.mk gb5
          clear gb5 gl5 HG5
          have c3b0 : decide (x5_1 < (x0_1.length : Int)) = true := decide_eq_true c3
          go_wp2_with (go_at_call 82; refine (laws_markEntryS.calls k1 oki _ pg.f1.f1 (w1 (w1 x1_1)) q1 q2 w0 _ (below_set (below_set HB.out GB.out) GB.out) (Kd.R_far (p := ⟨go5, x5_1.toNat * 3 + 1, none⟩) (Kd.R_far (p := ⟨go5, x5_1.toNat * 3, none⟩) G2.out (fun k hk => (OKI.out k hk).2) _) (fun k hk => (OKI.out k hk).2) _) HQ.out).mono ?_; rintro e w' ⟨rfl, ho, hb, hk⟩; have HO2 := Aside0.mk ho; have HB2 := Aside0.mk hb; have HK2 := Aside0.mk hk; clear ho hb hk)
          have hS := mark_back HSEG.out.1 HK2.out HO2.out HK.out.1 (size_set2 _ _ _ _ _)
          go_roundg k1
          case measure => have := HK1.out; omega
          case rel => exact ⟨_, _, _, rfl, rfl, H', ⟨by have := HK1.out; omega⟩, ⟨hS⟩, ⟨((HK.out.setCell hPg.out _).setCell hPg.out _).then_ HK2.out (fun k hk => (OKI.out k hk).1)⟩, HB2⟩
        · rw [if_neg c4] at H
          exact absurd H (by simp)
      · rw [if_neg c3] at H
        have c3b0 : decide (x5_1 < (x0_1.length : Int)) = false := decide_eq_false c3
        clear c3
        simp only [Option.some.injEq, Prod.mk.injEq] at H
        obtain ⟨rfl, rfl⟩ := H
        obtain ⟨Ao9, co9, eo9⟩ := Kd.S_slice HO.out
        subst eo9
        go_wp2
        go_ret
        exact ⟨rfl, HO.out, HB.out, HK.out⟩

/-! ### laws_markBook: by hand -/
def laws_markBook.f (k : Nat) (a0_0 : Int) (l0_1 : List S90) (a1 : Int) : Option (Int × List S90) := laws_markPageS.f k l0_1 a1
theorem laws_markBook.mono : ∀ a0 a1 a2 k, LeO (laws_markBook.f k a0 a1 a2) (laws_markBook.f (k + 1) a0 a1 a2) := fun a0 a1 a2 k => laws_markPageS.mono a1 a2 k
set_option maxHeartbeats 2000000 in
set_option maxRecDepth 100000 in
theorem laws_markBook.calls (k : Nat) (P0_1_ : Nat → Prop) (a0_0 : Int) (u9000_ : Value) (l0_1 : List S90) (a1 : Int) (r1 : Int) (r2 : List S90) (w0 w : World) (hB : Below w0.heap.size w0 w) (ho0 : Kd.S k90 90 w w0.heap.size P0_1_ u9000_ l0_1) (h : laws_markBook.f k a0_0 l0_1 a1 = some (r1, r2)) :
    Calls Try.prog 31 #[.agg #[.int .i64 a0_0, u9000_], .int .i64 a1] w fun e w' => e = .returned (.int .i64 r1) ∧ Kd.S k90 90 w' w0.heap.size (fun k_ => (P0_1_ k_ ∨ w.heap.size ≤ k_)) u9000_ r2 ∧ Below w0.heap.size w0 w' ∧ Kept w w' (fun k_ => P0_1_ k_) := by
  obtain ⟨Av, cv, ev⟩ := Kd.S_slice ho0
  subst ev
  have HO := Aside0.mk ho0
  have HB := Aside0.mk hB
  have H' := Aside0.mk h
  clear hB ho0 h
  have hu2 := Try.underlying49
  go_enter Try.func31, Try.ntmps31
  go_wp2_with (first
    | ((with_reducible refine gate_dst (N := 2) rfl ?_); refine box_event ?hg (N := 2) ?hd (cs := #[.int .i64 a0_0, .slice Av l0_1.length cv]) (t := 49) ?hr ?_; (case hd => rfl); (case hg => rfl); (case hr => first | (go_simp; done) | (go_simp; rfl)); intro g2 hg w2 hbox hb; have B2 := Aside0.mk hb; have hk1 : w2.cell? ⟨g2, 1, none⟩ = some (.slice Av l0_1.length cv) := (blk_cell hbox 1).trans rfl; clear hb hg hbox)
    | (go_at_call 81; refine (laws_markPageS.calls k P0_1_ _ l0_1 a1 r1 r2 w0 _ (below_step HB.out B2.out) (Kd.S_below HO.out B2.out) H'.out).mono ?_; rintro e w' ⟨rfl, ho, hb, hk⟩))
  go_ret
  exact ⟨rfl, Kd.S_mono ho (fun k hk => hk.elim .inl (fun h => .inr (Nat.le_trans B2.out.size h))), hb, (Kept.of_below B2.out _).then_ hk (fun k hk => .inl hk)⟩

end Go.Proofs.Ytngjaajcdbodeaa.All
