/- markEntrySS writes count, count + 1, .. into the numbers of rows of entries of one's own, and returns the next number. No condition. -/
import Derived.Test.YthenmlaleobapaaHMarkEntryS
namespace Go.Proofs.Ythenmlaleobapaa.All
open Go.RowKit Go.Proofs.YthenmlaleobapaaW.PrintWords Go.Proofs.YthenmlaleobapaaW.PrintLast Go.Proofs.YthenmlaleobapaaW.PrintMore
set_option linter.unusedVariables false
set_option linter.unusedSimpArgs false

/-! ### laws_markEntrySS: by hand -/
def laws_markEntrySS.l0 : Nat → List (List S82) → Int → Int → Option (Int × List (List S82))
  | 0, _, _, _ => none
  | k + 1, x0, x1, x5 => if x5 < (x0.length : Int) then (if 0 ≤ x5 then ((laws_markEntryS.f k (x0.getD x5.toNat []) x1).bind fun t => laws_markEntrySS.l0 k (x0.set x5.toNat t.2) t.1 (wrap64 (x5 + 1))) else none) else (some (x1, x0))
def laws_markEntrySS.f (k : Nat) (l0 : List (List S82)) (a1 : Int) : Option (Int × List (List S82)) := laws_markEntrySS.l0 k l0 a1 0
theorem laws_markEntrySS.mono_l : ∀ k, (∀ y0 y1 y2, LeO (laws_markEntrySS.l0 k y0 y1 y2) (laws_markEntrySS.l0 (k + 1) y0 y1 y2))
  | 0 => fun _ _ _ r h => by simp [laws_markEntrySS.l0] at h
  | k + 1 => by
    have ih0 := laws_markEntrySS.mono_l k
    intro y0 y1 y2
    unfold laws_markEntrySS.l0
    exact LeO.ite (LeO.ite (LeO.bind (laws_markEntryS.mono _ _ _) (fun _ => ih0 _ _ _)) (LeO.refl _)) (LeO.refl _)
theorem laws_markEntrySS.mono : ∀ a0 a1 k, LeO (laws_markEntrySS.f k a0 a1) (laws_markEntrySS.f (k + 1) a0 a1) := fun a0 a1 k => laws_markEntrySS.mono_l k _ _ _
theorem markrow_back {w0 w wr w' : World} {P0_ oki : Nat → Prop} {g n cap c2 m : Nat} {A2 : Option Addr} {x5 : Int} {xs : List (List S82)} {q2 : List S82}
    (h : Kd.H (Kd.slice 82 k82) 44 wr w0.heap.size (fun k_ => (P0_ k_ ∨ w.heap.size ≤ k_)) (.slice (some ⟨g, 0, none⟩) n cap) xs x5 (fun k => oki k ∨ (P0_ k ∨ w.heap.size ≤ k) ∧ wr.heap.size ≤ k) [.slice A2 m c2])
    (hk : Kept wr w' (fun k_ => oki k_)) (ho : Kd.R k82 82 w' w0.heap.size (fun k_ => (oki k_ ∨ wr.heap.size ≤ k_)) (.slice A2 m c2) q2) (hle : w.heap.size ≤ wr.heap.size) :
    Kd.S (Kd.slice 82 k82) 44 w' w0.heap.size (fun k_ => (P0_ k_ ∨ w.heap.size ≤ k_)) (.slice (some ⟨g, 0, none⟩) n cap) (xs.set x5.toNat q2) := by
  refine Kd.H_back (Kd.H_kept h hk (fun k _ hn hs => hn (.inl hs))) (x' := q2) ⟨_, rfl, ho⟩ (fun k hk => ?_)
  rcases hk with hk | hk
  · exact .inl hk
  · exact .inr ⟨.inr (by omega), hk⟩
set_option maxHeartbeats 2000000 in
set_option maxRecDepth 100000 in
theorem laws_markEntrySS.calls (k : Nat) (P0_ : Nat → Prop) (u9000_ : Value) (l0 : List (List S82)) (a1 : Int) (r1 : Int) (r2 : List (List S82)) (w0 w : World) (hB : Below w0.heap.size w0 w) (ho0 : Kd.S (Kd.slice 82 k82) 44 w w0.heap.size P0_ u9000_ l0) (h : laws_markEntrySS.f k l0 a1 = some (r1, r2)) :
    Calls Try.prog 38 #[u9000_, .int .i64 a1] w fun e w' => e = .returned (.int .i64 r1) ∧ Kd.S (Kd.slice 82 k82) 44 w' w0.heap.size (fun k_ => (P0_ k_ ∨ w.heap.size ≤ k_)) u9000_ r2 ∧ Below w0.heap.size w0 w' ∧ Kept w w' (fun k_ => P0_ k_) := by
  have HO0 := Aside0.mk (show Kd.S (Kd.slice 82 k82) 44 w w0.heap.size (fun k_ => (P0_ k_ ∨ w.heap.size ≤ k_)) u9000_ l0 from Kd.S_mono ho0 (fun k_ hk => (.inl hk)))
  have HK := Aside0.mk (Kept.refl w (fun k_ => P0_ k_))
  have HB := Aside0.mk hB
  clear hB ho0
  have H' := Aside0.mk h
  clear h
  have hu1 := Try.underlying44
  go_enter Try.func38, Try.ntmps38
  go_wp2
  go_loopg [1, 5] k (fun kq v1 v5 w' => ∃ (x0_1 : List (List S82)) (x1_1 : Int) (x5_1 : Int), v1 = .int .i64 x1_1 ∧ v5 = .int .i64 x5_1 ∧ Aside0 (laws_markEntrySS.l0 kq x0_1 x1_1 x5_1 = some (r1, r2)) ∧ Aside0 (kq ≤ k) ∧ Aside0 (Kd.S (Kd.slice 82 k82) 44 w' w0.heap.size (fun k_ => (P0_ k_ ∨ w.heap.size ≤ k_)) u9000_ x0_1) ∧ Aside0 (Kept w w' (fun k_ => P0_ k_)) ∧ Aside0 (Below w0.heap.size w0 w'))
  case atStart => exact ⟨l0, a1, 0, rfl, rfl, H', ⟨Nat.le_refl _⟩, HO0, HK, HB⟩
  case round =>
    clear H' HO0 HK HB
    obtain ⟨x0_1, x1_1, x5_1, rfl, rfl, HA, HK1, HO, HK, HB⟩ := hrel
    cases gk with
    | zero => exact absurd HA.out (by simp [laws_markEntrySS.l0])
    | succ k1 =>
      have H := HA.out
      clear HA
      simp only [laws_markEntrySS.l0] at H
      by_cases c3 : x5_1 < (x0_1.length : Int)
      · rw [if_pos c3] at H
        by_cases c4 : 0 ≤ x5_1
        · rw [if_pos c4] at H
          obtain ⟨⟨q1, q2⟩, hq, H⟩ := Option.bind_eq_some_iff.mp H
          have H' := Aside0.mk H
          clear H
          obtain ⟨Ao6, co6, eo6⟩ := Kd.S_slice HO.out
          subst eo6
          obtain ⟨go5, co5, eo5, gb5, gl5, cl5, HG5⟩ := Kd.S_form HO.out (by omega)
          injection eo5 with ea_ en_ ec_
          subst ea_
          subst ec_
          clear en_
          obtain ⟨oki, c, hcl, hM, hcc, hfr, hoki, hH⟩ := Kd.S_elem HO.out [] x5_1 c4 c3
          generalize x0_1.getD x5_1.toNat [] = pg at hM hq
          have HQ := Aside0.mk hq
          clear hq
          obtain ⟨v2, rfl, g2⟩ := hM
          obtain ⟨A2, c2, ev2⟩ := Kd.R_slice g2
          subst ev2
          have HSEG := Aside0.mk (Kd.H_widen hH)
          have G2 := Aside0.mk g2
          have OKI := Aside0.mk hoki
          have hx0 : wr.cell? ⟨go5, x5_1.toNat * 1 + 0, none⟩ = some _ := hcc 0 _ rfl
          rw [Nat.mul_one, Nat.add_zero] at hx0
          clear hcc hfr hcl g2 hoki hH
          clear gb5 gl5 HG5
          have c3b0 : decide (x5_1 < (x0_1.length : Int)) = true := decide_eq_true c3
          go_wp2_with (go_at_call 37; refine (laws_markEntryS.calls k1 oki _ pg x1_1 q1 q2 w0 _ HB.out G2.out HQ.out).mono ?_; rintro e w' ⟨rfl, ho, hb, hk⟩; have HO2 := Aside0.mk ho; have HB2 := Aside0.mk hb; have HK2 := Aside0.mk hk; clear ho hb hk)
          have hS := markrow_back HSEG.out HK2.out HO2.out HK.out.1
          go_roundg k1
          case measure => have := HK1.out; omega
          case rel => exact ⟨_, _, _, rfl, rfl, H', ⟨by have := HK1.out; omega⟩, ⟨hS⟩, ⟨HK.out.then_ HK2.out (fun k hk => (OKI.out k hk).1)⟩, HB2⟩
        · rw [if_neg c4] at H
          exact absurd H (by simp)
      · rw [if_neg c3] at H
        have c3b0 : decide (x5_1 < (x0_1.length : Int)) = false := decide_eq_false c3
        clear c3
        simp only [Option.some.injEq, Prod.mk.injEq] at H
        obtain ⟨rfl, rfl⟩ := H
        obtain ⟨Ao9, co9, eo9⟩ := Kd.S_slice HO.out
        subst eo9
        go_wp2
        go_ret
        exact ⟨rfl, HO.out, HB.out, HK.out⟩

end Go.Proofs.Ythenmlaleobapaa.All
