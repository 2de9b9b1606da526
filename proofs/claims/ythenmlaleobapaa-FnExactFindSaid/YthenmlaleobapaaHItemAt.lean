/- ItemAt returns the place of the first item of a number, or -1, for every list and number. No condition. -/
import Derived.Test.YthenmlaleobapaaAllx0
namespace Go.Proofs.Ythenmlaleobapaa.All
open Go.RowKit Go.Proofs.YthenmlaleobapaaW.PrintWords Go.Proofs.YthenmlaleobapaaW.PrintLast Go.Proofs.YthenmlaleobapaaW.PrintMore
set_option linter.unusedVariables false
set_option linter.unusedSimpArgs false

/-! ### impl_ItemAt: by hand -/
def impl_ItemAt.l0 : Nat → List S68 → Int → Int → Option Int
  | 0, _, _, _ => none
  | k + 1, x0, x1, x5 => if x5 < (x0.length : Int) then (if 0 ≤ x5 then (if (rd_T68 x0 x5).f0 = x1 then some x5 else impl_ItemAt.l0 k x0 x1 (wrap64 (x5 + 1))) else none) else some (-1)
def impl_ItemAt.f (k : Nat) (l0 : List S68) (a1 : Int) : Option Int := impl_ItemAt.l0 k l0 a1 0
theorem impl_ItemAt.mono_l : ∀ k, (∀ y0 y1 y2, LeO (impl_ItemAt.l0 k y0 y1 y2) (impl_ItemAt.l0 (k + 1) y0 y1 y2))
  | 0 => fun _ _ _ r h => by simp [impl_ItemAt.l0] at h
  | k + 1 => by
    have ih0 := impl_ItemAt.mono_l k
    intro y0 y1 y2
    unfold impl_ItemAt.l0
    exact LeO.ite (LeO.ite (LeO.ite (LeO.refl _) (ih0 _ _ _)) (LeO.refl _)) (LeO.refl _)
theorem impl_ItemAt.mono : ∀ a0 a1 k, LeO (impl_ItemAt.f k a0 a1) (impl_ItemAt.f (k + 1) a0 a1) := fun a0 a1 k => impl_ItemAt.mono_l k _ _ _
set_option maxHeartbeats 8000000 in
set_option maxRecDepth 100000 in
theorem slices_IndexFunc_Item.calls (k : Nat) (A0 : Option Addr) (c0 : Nat) (l0 : List S68) (a1 r : Int) (g : Nat) (w : World) (hr0 : Kd.C k68 w A0 l0.length l0) (hc0 : l0.length ≤ c0) (hcell : w.cell? ⟨g, 0, none⟩ = some (.int .i64 a1)) (h : impl_ItemAt.l0 k l0 a1 0 = some r) :
    Calls Try.prog 89 #[.slice A0 l0.length c0, .func (.func 90) #[] #[.pointer (some ⟨g, 0, none⟩)]] w fun e w' => e = .returned (.int .i64 r) ∧ Below w.heap.size w w' := by
  have HR := Aside0.mk hr0
  have HC := Aside0.mk hc0
  have HG := Aside0.mk hcell
  have HB := Aside0.mk (Below.refl w.heap.size w)
  clear hr0 hc0 hcell
  have H' := Aside0.mk h
  clear h
  have hu1 := Try.underlying68
  go_enter Try.func89, Try.ntmps89
  go_wp2
  go_loopg [8] k (fun kq v8 w' => ∃ (x5_1 : Int), v8 = .int .i64 x5_1 ∧ Aside0 (impl_ItemAt.l0 kq l0 a1 x5_1 = some r) ∧ Aside0 (kq ≤ k) ∧ Aside0 (Below w.heap.size w w'))
  case atStart => exact ⟨0, rfl, H', ⟨Nat.le_refl _⟩, HB⟩
  case round =>
    clear H' HB
    obtain ⟨x5_1, rfl, HA, HK1, HB⟩ := hrel
    cases gk with
    | zero => exact absurd HA.out (by simp [impl_ItemAt.l0])
    | succ k1 =>
      have H := HA.out
      clear HA
      simp only [impl_ItemAt.l0] at H
      by_cases c3 : x5_1 < (l0.length : Int)
      · rw [if_pos c3] at H
        by_cases c4 : 0 ≤ x5_1
        · rw [if_pos c4] at H
          obtain ⟨ad, e, hx0, hx1, hx2, hx3, hx4⟩ := at_T68 HR.out x5_1 c4 c3
          cases e
          replace hx0 := (HB.out.cell (World.block_lt_of_cell? w _ hx0)).trans hx0
          replace hx1 := (HB.out.cell (World.block_lt_of_cell? w _ hx1)).trans hx1
          replace hx2 := (HB.out.cell (World.block_lt_of_cell? w _ hx2)).trans hx2
          replace hx3 := (HB.out.cell (World.block_lt_of_cell? w _ hx3)).trans hx3
          replace hx4 := (HB.out.cell (World.block_lt_of_cell? w _ hx4)).trans hx4
          have hxg := (HB.out.cell (World.block_lt_of_cell? w _ HG.out)).trans HG.out
          have hlg : g < wr.heap.size := World.block_lt_of_cell? wr _ hxg
          have c3b0 : decide (x5_1 < (l0.length : Int)) = true := decide_eq_true c3
          by_cases c5 : (rd_T68 l0 x5_1).f0 = a1
          · rw [if_pos c5] at H
            obtain rfl := Option.some.inj H
            have c5b : ((rd_T68 l0 x5_1).f0 == a1) = true := beq_iff_eq.mpr c5
            clear c5 H
            go_wp2
            go_ret
            exact ⟨rfl, below_alloc HB.out _⟩
          · rw [if_neg c5] at H
            have H' := Aside0.mk H
            clear H
            have c5b : ((rd_T68 l0 x5_1).f0 == a1) = false := beq_eq_false_iff_ne.mpr c5
            clear c5
            go_wp2
            go_roundg k1
            case measure => have := HK1.out; omega
            case rel => exact ⟨_, rfl, H', ⟨by have := HK1.out; omega⟩, ⟨below_alloc HB.out _⟩⟩
        · rw [if_neg c4] at H
          exact absurd H (by simp)
      · rw [if_neg c3] at H
        have c3b0 : decide (x5_1 < (l0.length : Int)) = false := decide_eq_false c3
        clear c3
        obtain rfl := Option.some.inj H
        go_wp2
        go_ret
        exact ⟨rfl, HB.out⟩

set_option maxHeartbeats 4000000 in
set_option maxRecDepth 100000 in
theorem impl_ItemAt.calls (k : Nat) (A0 : Option Addr) (c0 : Nat) (l0 : List S68) (a1 r : Int) (w : World) (hr0 : Kd.C k68 w A0 l0.length l0) (hc0 : l0.length ≤ c0) (h : impl_ItemAt.f k l0 a1 = some r) :
    Calls Try.prog 78 #[.slice A0 l0.length c0, .int .i64 a1] w fun e w' => e = .returned (.int .i64 r) ∧ Below w.heap.size w w' := by
  have HR := Aside0.mk hr0
  have HC := Aside0.mk hc0
  have H' := Aside0.mk h
  clear hr0 hc0 h
  go_enter Try.func78, Try.ntmps78
  go_wp2_with (go_at_call 89; refine (slices_IndexFunc_Item.calls k _ _ l0 a1 r _ _ (Kd.C_alloc HR.out _) HC.out ((blk_cell (heap_alloc_new w (.cells #[.int .i64 a1] 3)) 0).trans rfl) H'.out).mono ?_; rintro e w' ⟨rfl, hb⟩)
  go_ret
  exact ⟨rfl, below_step (below_alloc (Below.refl _ _) _) hb⟩

end Go.Proofs.Ythenmlaleobapaa.All
