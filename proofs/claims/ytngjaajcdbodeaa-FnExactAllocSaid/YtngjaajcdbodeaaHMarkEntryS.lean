/- markEntryS writes count, count + 1, .. into the numbers of a row of entries of one's own, and returns the next number. No condition. -/
import Derived.Test.YtngjaajcdbodeaaAllx0
namespace Go.Proofs.Ytngjaajcdbodeaa.All
open Go.RowKit Go.Proofs.YtngjaajcdbodeaaW.PrintWords Go.Proofs.YtngjaajcdbodeaaW.PrintLast Go.Proofs.YtngjaajcdbodeaaW.PrintMore
set_option linter.unusedVariables false
set_option linter.unusedSimpArgs false

/-! ### laws_markEntryS: by hand -/
def w1 (n : Int) : Int := wrap64 (n + 1)
def laws_markEntryS.l0 : Nat → List S103 → Int → Int → Option (Int × List S103)
  | 0, _, _, _ => none
  | k + 1, x0, x1, x5 => if x5 < (x0.length : Int) then (if 0 ≤ x5 then (laws_markEntryS.l0 k (x0.set x5.toNat ⟨x1, ⟨w1 x1, w1 (w1 x1), w1 (w1 (w1 x1)), w1 (w1 (w1 (w1 x1)))⟩⟩) (w1 (w1 (w1 (w1 (w1 x1))))) (wrap64 (x5 + 1))) else none) else (some (x1, x0))
def laws_markEntryS.f (k : Nat) (l0 : List S103) (a1 : Int) : Option (Int × List S103) := laws_markEntryS.l0 k l0 a1 0
theorem laws_markEntryS.mono_l : ∀ k, (∀ y0 y1 y2, LeO (laws_markEntryS.l0 k y0 y1 y2) (laws_markEntryS.l0 (k + 1) y0 y1 y2))
  | 0 => fun _ _ _ r h => by simp [laws_markEntryS.l0] at h
  | k + 1 => by
    have ih0 := laws_markEntryS.mono_l k
    intro y0 y1 y2
    unfold laws_markEntryS.l0
    exact LeO.ite (LeO.ite (ih0 _ _ _) (LeO.refl _)) (LeO.refl _)
theorem laws_markEntryS.mono : ∀ a0 a1 k, LeO (laws_markEntryS.f k a0 a1) (laws_markEntryS.f (k + 1) a0 a1) := fun a0 a1 k => laws_markEntryS.mono_l k _ _ _
set_option maxHeartbeats 8000000 in
set_option maxRecDepth 100000 in
theorem laws_markEntryS.calls (k : Nat) (P0_ : Nat → Prop) (u9000_ : Value) (l0 : List S103) (a1 : Int) (r1 : Int) (r2 : List S103) (w0 w : World) (hB : Below w0.heap.size w0 w) (ho0 : Kd.R k103 103 w w0.heap.size P0_ u9000_ l0) (h : laws_markEntryS.f k l0 a1 = some (r1, r2)) :
    Calls Try.prog 82 #[u9000_, .int .i64 a1] w fun e w' => e = .returned (.int .i64 r1) ∧ Kd.R k103 103 w' w0.heap.size (fun k_ => (P0_ k_ ∨ w.heap.size ≤ k_)) u9000_ r2 ∧ Below w0.heap.size w0 w' ∧ Kept w w' (fun k_ => P0_ k_) := by
  have HO0 := Aside0.mk (show Kd.R k103 103 w w0.heap.size (fun k_ => (P0_ k_ ∨ w.heap.size ≤ k_)) u9000_ l0 from Kd.R_mono ho0 (fun k_ hk => (.inl hk)))
  have HK := Aside0.mk (Kept.refl w (fun k_ => P0_ k_))
  have HB := Aside0.mk hB
  clear hB ho0
  have H' := Aside0.mk h
  clear h
  have hu1 := Try.underlying103
  go_enter Try.func82, Try.ntmps82
  go_wp2
  go_loopg [1, 5] k (fun kq v1 v5 w' => ∃ (x0_1 : List S103) (x1_1 : Int) (x5_1 : Int), v1 = .int .i64 x1_1 ∧ v5 = .int .i64 x5_1 ∧ Aside0 (laws_markEntryS.l0 kq x0_1 x1_1 x5_1 = some (r1, r2)) ∧ Aside0 (kq ≤ k) ∧ Aside0 (Kd.R k103 103 w' w0.heap.size (fun k_ => (P0_ k_ ∨ w.heap.size ≤ k_)) u9000_ x0_1) ∧ Aside0 (Kept w w' (fun k_ => P0_ k_)) ∧ Aside0 (Below w0.heap.size w0 w'))
  case atStart => exact ⟨l0, a1, 0, rfl, rfl, H', ⟨Nat.le_refl _⟩, HO0, HK, HB⟩
  case round =>
    clear H' HO0 HK HB
    obtain ⟨x0_1, x1_1, x5_1, rfl, rfl, HA, HK1, HO, HK, HB⟩ := hrel
    cases gk with
    | zero => exact absurd HA.out (by simp [laws_markEntryS.l0])
    | succ k1 =>
      have H := HA.out
      clear HA
      simp only [laws_markEntryS.l0] at H
      by_cases c3 : x5_1 < (x0_1.length : Int)
      · rw [if_pos c3] at H
        by_cases c4 : 0 ≤ x5_1
        · rw [if_pos c4] at H
          have H' := Aside0.mk H
          clear H
          obtain ⟨Ao6, co6, eo6⟩ := Kd.R_slice HO.out
          subst eo6
          obtain ⟨go5, co5, eo5, gb5, gl5, cl5, HG5⟩ := Kd.R_form HO.out (by omega)
          injection eo5 with ea_ en_ ec_
          subst ea_
          subst ec_
          clear en_
          have hPg := Aside0.mk (show (P0_ go5 ∨ w.heap.size ≤ go5) from (HO.out.1 _ rfl))
          obtain ⟨c, hcl, hM, hcc, hfr⟩ := Kd.R_elem HO.out z103 x5_1 c4 c3
          obtain rfl := k103_openM hM
          have HP := Aside0.mk (Kd.R_seg HO.out x5_1 c4 c3 (seg := [.int .i64 x1_1, .int .i64 (w1 x1_1), .int .i64 (w1 (w1 x1_1)), .int .i64 (w1 (w1 (w1 x1_1))), .int .i64 (w1 (w1 (w1 (w1 x1_1))))]) (j := 0) hcl hcc (show 5 ≤ 5 from Nat.le_refl _) (x' := (⟨x1_1, ⟨w1 x1_1, w1 (w1 x1_1), w1 (w1 (w1 x1_1)), w1 (w1 (w1 (w1 x1_1)))⟩⟩ : S103)) (k103_mkM wr w0.heap.size (fun _ => False) _) (fun _ hk => hk.elim))
          have hx0 : wr.cell? ⟨go5, x5_1.toNat * 5, none⟩ = some _ := hcc 0 _ rfl
          have hx1 : wr.cell? ⟨go5, x5_1.toNat * 5 + 1, none⟩ = some _ := hcc 1 _ rfl
          have hx2 : wr.cell? ⟨go5, x5_1.toNat * 5 + 2, none⟩ = some _ := hcc 2 _ rfl
          have hx3 : wr.cell? ⟨go5, x5_1.toNat * 5 + 3, none⟩ = some _ := hcc 3 _ rfl
          have hx4 : wr.cell? ⟨go5, x5_1.toNat * 5 + 4, none⟩ = some _ := hcc 4 _ rfl
          have hf0 : wr.frozen? ⟨go5, x5_1.toNat * 5, none⟩ = false := hfr 0
          have hf1 : wr.frozen? ⟨go5, x5_1.toNat * 5 + 1, none⟩ = false := hfr 1
          have hf2 : wr.frozen? ⟨go5, x5_1.toNat * 5 + 2, none⟩ = false := hfr 2
          have hf3 : wr.frozen? ⟨go5, x5_1.toNat * 5 + 3, none⟩ = false := hfr 3
          have hf4 : wr.frozen? ⟨go5, x5_1.toNat * 5 + 4, none⟩ = false := hfr 4
          clear hcc hfr hM hcl
          have GB := Aside0.mk gb5
          clear gb5 gl5 HG5
          have c3b0 : decide (x5_1 < (x0_1.length : Int)) = true := decide_eq_true c3
          go_wp2_with fail
          go_roundg k1
          case measure => have := HK1.out; omega
          case rel => exact ⟨_, _, _, rfl, rfl, H', ⟨by have := HK1.out; omega⟩, ⟨HP.out.1⟩, ⟨((((HK.out.setCell hPg.out _).setCell hPg.out _).setCell hPg.out _).setCell hPg.out _).setCell hPg.out _⟩, ⟨below_set (below_set (below_set (below_set (below_set HB.out GB.out) GB.out) GB.out) GB.out) GB.out⟩⟩
        · rw [if_neg c4] at H
          exact absurd H (by simp)
      · rw [if_neg c3] at H
        have c3b0 : decide (x5_1 < (x0_1.length : Int)) = false := decide_eq_false c3
        clear c3
        simp only [Option.some.injEq, Prod.mk.injEq] at H
        obtain ⟨rfl, rfl⟩ := H
        obtain ⟨Ao9, co9, eo9⟩ := Kd.R_slice HO.out
        subst eo9
        go_wp2
        go_ret
        exact ⟨rfl, HO.out, HB.out, HK.out⟩

end Go.Proofs.Ytngjaajcdbodeaa.All
