/- The texts on which the row FnExactDense rests, part 4: contracts of the functions that it reaches and plain laws of what they compute. No condition. -/
import Derived.Test.YtngjaajcdbodeaaMgFnExactDense1
import Derived.Test.YtngjaajcdbodeaaMgFnExactDense2
import Derived.Test.YtngjaajcdbodeaaMgFnExactDense3
/- EntryAt returns the place of the first entry of a number, or -1, for every list and number. No condition. -/
namespace Go.Proofs.Ytngjaajcdbodeaa.All
open Go.RowKit Go.Proofs.YtngjaajcdbodeaaW.PrintWords Go.Proofs.YtngjaajcdbodeaaW.PrintLast Go.Proofs.YtngjaajcdbodeaaW.PrintMore Go.Proofs.Ytngjaajcdbodeaa.Sq
set_option linter.unusedVariables false
set_option linter.unusedSimpArgs false

/-! ### impl_EntryAt: by hand -/
def impl_EntryAt.l0 : Nat → List S103 → Int → Int → Option Int
  | 0, _, _, _ => none
  | k + 1, x0, x1, x5 => if x5 < (x0.length : Int) then (if 0 ≤ x5 then (if (rd_T103 x0 x5).f0 = x1 then some x5 else impl_EntryAt.l0 k x0 x1 (wrap64 (x5 + 1))) else none) else some (-1)
def impl_EntryAt.f (k : Nat) (l0 : List S103) (a1 : Int) : Option Int := impl_EntryAt.l0 k l0 a1 0
theorem impl_EntryAt.mono_l : ∀ k, (∀ y0 y1 y2, LeO (impl_EntryAt.l0 k y0 y1 y2) (impl_EntryAt.l0 (k + 1) y0 y1 y2))
  | 0 => fun _ _ _ r h => by simp [impl_EntryAt.l0] at h
  | k + 1 => by
    have ih0 := impl_EntryAt.mono_l k
    intro y0 y1 y2
    unfold impl_EntryAt.l0; exact LeO.ite (LeO.ite (LeO.ite (LeO.refl _) (ih0 _ _ _)) (LeO.refl _)) (LeO.refl _)
theorem impl_EntryAt.mono : ∀ a0 a1 k, LeO (impl_EntryAt.f k a0 a1) (impl_EntryAt.f (k + 1) a0 a1) := fun a0 a1 k => impl_EntryAt.mono_l k _ _ _
set_option maxHeartbeats 8000000 in
set_option maxRecDepth 100000 in
theorem slices_IndexFunc_Entry.calls (k : Nat) (A0 : Option Addr) (c0 : Nat) (l0 : List S103) (a1 r : Int) (g : Nat) (w : World) (hr0 : Kd.C k103 w A0 l0.length l0) (hc0 : l0.length ≤ c0) (hcell : w.cell? ⟨g, 0, none⟩ = some (.int .i64 a1)) (h : impl_EntryAt.l0 k l0 a1 0 = some r) :
    Calls Try.prog 133 #[.slice A0 l0.length c0, .func (.func 134) #[] #[.pointer (some ⟨g, 0, none⟩)]] w fun e w' => e = .returned (.int .i64 r) ∧ Below w.heap.size w w' := by
  have HR := Aside0.mk hr0; have HC := Aside0.mk hc0; have HG := Aside0.mk hcell; have HB := Aside0.mk (Below.refl w.heap.size w); clear hr0 hc0 hcell; have H' := Aside0.mk h; clear h; have hu1 := Try.underlying103
  go_enter Try.func133, Try.ntmps133
  go_wp2
  go_loopg [8] k (fun kq v8 w' => ∃ (x5_1 : Int), v8 = .int .i64 x5_1 ∧ Aside0 (impl_EntryAt.l0 kq l0 a1 x5_1 = some r) ∧ Aside0 (kq ≤ k) ∧ Aside0 (Below w.heap.size w w'))
  case atStart => exact ⟨0, rfl, H', ⟨Nat.le_refl _⟩, HB⟩
  case round =>
    clear H' HB; obtain ⟨x5_1, rfl, HA, HK1, HB⟩ := hrel
    cases gk with
    | zero => exact absurd HA.out (by simp [impl_EntryAt.l0])
    | succ k1 =>
      have H := HA.out; clear HA
      simp only [impl_EntryAt.l0] at H
      by_cases c3 : x5_1 < (l0.length : Int)
      · rw [if_pos c3] at H
        by_cases c4 : 0 ≤ x5_1
        · rw [if_pos c4] at H
          obtain ⟨ad, e, hx0, hx1, hx2, hx3, hx4⟩ := at_T103 HR.out x5_1 c4 c3
          cases e
          replace hx0 := cz HB.out hx0; replace hx1 := cz HB.out hx1; replace hx2 := cz HB.out hx2; replace hx3 := cz HB.out hx3; replace hx4 := cz HB.out hx4; have hxg := (HB.out.cell (World.block_lt_of_cell? w _ HG.out)).trans HG.out; have hlg : g < wr.heap.size := World.block_lt_of_cell? wr _ hxg; have c3b0 : decide (x5_1 < (l0.length : Int)) = true := decide_eq_true c3
          by_cases c5 : (rd_T103 l0 x5_1).f0 = a1
          · rw [if_pos c5] at H
            obtain rfl := Option.some.inj H; have c5b : ((rd_T103 l0 x5_1).f0 == a1) = true := beq_iff_eq.mpr c5; clear c5 H; go_wp2; go_ret; exact ⟨rfl, below_alloc HB.out _⟩
          · rw [if_neg c5] at H
            have H' := Aside0.mk H; clear H; have c5b : ((rd_T103 l0 x5_1).f0 == a1) = false := beq_eq_false_iff_ne.mpr c5; clear c5; go_wp2; go_roundg k1
            case measure => have := HK1.out; omega
            case rel => exact ⟨_, rfl, H', ⟨by have := HK1.out; omega⟩, ⟨below_alloc HB.out _⟩⟩
        · rw [if_neg c4] at H
          exact absurd H (by simp)
      · rw [if_neg c3] at H
        have c3b0 : decide (x5_1 < (l0.length : Int)) = false := decide_eq_false c3; clear c3; obtain rfl := Option.some.inj H; go_wp2; go_ret; exact ⟨rfl, HB.out⟩

set_option maxHeartbeats 4000000 in
set_option maxRecDepth 100000 in
theorem impl_EntryAt.calls (k : Nat) (A0 : Option Addr) (c0 : Nat) (l0 : List S103) (a1 r : Int) (w : World) (hr0 : Kd.C k103 w A0 l0.length l0) (hc0 : l0.length ≤ c0) (h : impl_EntryAt.f k l0 a1 = some r) :
    Calls Try.prog 103 #[.slice A0 l0.length c0, .int .i64 a1] w fun e w' => e = .returned (.int .i64 r) ∧ Below w.heap.size w w' := by
  have HR := Aside0.mk hr0; have HC := Aside0.mk hc0; have H' := Aside0.mk h; clear hr0 hc0 h
  go_enter Try.func103, Try.ntmps103
  go_wp2_with (go_at_call 133; refine (slices_IndexFunc_Entry.calls k _ _ l0 a1 r _ _ (Kd.C_alloc HR.out _) HC.out ((blk_cell (heap_alloc_new w (.cells #[.int .i64 a1] 3)) 0).trans rfl) H'.out).mono ?_; rintro e w' ⟨rfl, hb⟩)
  go_ret; exact ⟨rfl, below_step (below_alloc (Below.refl _ _) _) hb⟩

end Go.Proofs.Ytngjaajcdbodeaa.All

namespace Go.Proofs.Ytngjaajcdbodeaa.All
open Go.RowKit Go.Proofs.YtngjaajcdbodeaaW.PrintWords Go.Proofs.YtngjaajcdbodeaaW.PrintLast Go.Proofs.YtngjaajcdbodeaaW.PrintMore Go.Proofs.Ytngjaajcdbodeaa.Sq
attribute [local go_sem] max2_int min2_int max_two min_two max_three min_three max_four min_four 
set_option linter.unusedVariables false
set_option linter.unusedSimpArgs false

/-! ### impl_BoxOk: function 112 -/
def impl_BoxOk.f (a0_0 : Int) (a0_1 : Int) (a0_2 : Int) (a0_3 : Int) : Option (Bool) := (impl_in.f a0_0 0 a0_2).bind fun t171 => (if t171 = true then ((impl_in.f a0_2 0 255).bind fun t172 => (if t172 = true then ((impl_in.f a0_1 0 a0_3).bind fun t173 => (if t173 = true then ((impl_in.f a0_3 0 255).bind fun t174 => (some t174)) else (some false))) else (some false))) else (some false))
set_option maxHeartbeats 8000000 in
set_option maxRecDepth 100000 in
theorem impl_BoxOk.calls (a0_0 : Int) (a0_1 : Int) (a0_2 : Int) (a0_3 : Int) (r : Bool) (w : World) (h : impl_BoxOk.f a0_0 a0_1 a0_2 a0_3 = some r) :
    Calls Try.prog 112 #[.agg #[.int .i64 a0_0, .int .i64 a0_1, .int .i64 a0_2, .int .i64 a0_3]] w fun e w' => e = .returned (.bool r) ∧ Below w.heap.size w w' := by
  have hu32 := Try.underlying32; have HB := Aside0.mk (Below.refl w.heap.size w); have H : ((impl_in.f a0_0 0 a0_2).bind fun t171 => (if t171 = true then ((impl_in.f a0_2 0 255).bind fun t172 => (if t172 = true then ((impl_in.f a0_1 0 a0_3).bind fun t173 => (if t173 = true then ((impl_in.f a0_3 0 255).bind fun t174 => (some t174)) else (some false))) else (some false))) else (some false))) = some r := h; clear h; replace H := Option.bind_eq_some_iff.mp H; obtain ⟨t171, A20, H⟩ := H; replace H : (if t171 = true then ((impl_in.f a0_2 0 255).bind fun t172 => (if t172 = true then ((impl_in.f a0_1 0 a0_3).bind fun t173 => (if t173 = true then ((impl_in.f a0_3 0 255).bind fun t174 => (some t174)) else (some false))) else (some false))) else (some false)) = some r := H; have A2 := Aside0.mk A20; clear A20
  by_cases c3 : t171 = true
  · subst c3
    replace H : ((impl_in.f a0_2 0 255).bind fun t172 => (if t172 = true then ((impl_in.f a0_1 0 a0_3).bind fun t173 => (if t173 = true then ((impl_in.f a0_3 0 255).bind fun t174 => (some t174)) else (some false))) else (some false))) = some r := (by rw [if_pos rfl] at H; exact H); replace H := Option.bind_eq_some_iff.mp H; obtain ⟨t172, A40, H⟩ := H; replace H : (if t172 = true then ((impl_in.f a0_1 0 a0_3).bind fun t173 => (if t173 = true then ((impl_in.f a0_3 0 255).bind fun t174 => (some t174)) else (some false))) else (some false)) = some r := H; have A4 := Aside0.mk A40; clear A40
    by_cases c5 : t172 = true
    · subst c5
      replace H : ((impl_in.f a0_1 0 a0_3).bind fun t173 => (if t173 = true then ((impl_in.f a0_3 0 255).bind fun t174 => (some t174)) else (some false))) = some r := (by rw [if_pos rfl] at H; exact H); replace H := Option.bind_eq_some_iff.mp H; obtain ⟨t173, A60, H⟩ := H; replace H : (if t173 = true then ((impl_in.f a0_3 0 255).bind fun t174 => (some t174)) else (some false)) = some r := H; have A6 := Aside0.mk A60; clear A60
      by_cases c7 : t173 = true
      · subst c7
        replace H : ((impl_in.f a0_3 0 255).bind fun t174 => (some t174)) = some r := (by rw [if_pos rfl] at H; exact H); replace H := Option.bind_eq_some_iff.mp H; obtain ⟨t174, A80, H⟩ := H; replace H : (some t174) = some r := H; have A8 := Aside0.mk A80; clear A80; obtain rfl := Option.some.inj H
        go_enter Try.func112, Try.ntmps112
        go_wp2_with (first | ((with_reducible refine gate_dst (N := 1) rfl ?_); refine box_event ?hg (N := 1) ?hd (cs := #[.int .i64 a0_0, .int .i64 a0_1, .int .i64 a0_2, .int .i64 a0_3]) (t := 32) ?hr ?_; (case hd => rfl); (case hg => rfl); (case hr => first | (go_simp; done) | (go_simp; rfl)); intro gb170 hg w9 hbox hb; have n0_ := Aside0.mk (below_step (bz HB.out) hb); have n1_ := Aside0.mk (hbox); have n2_ := Aside0.mk ((by rw [hg]; exact (below_size (bz HB.out)) : w.heap.size ≤ gb170)); have n3_ := Aside0.mk ((by rw [hg]; exact (below_size (bz HB.out)) : w.heap.size ≤ gb170)); clear HB; have HB := n0_; have BK170 := n1_; have GW170 := n2_; have GE170 := n3_; clear n0_ n1_ n2_ n3_; clear hb hbox hg; have hcz10_0 := fz BK170.out 0 (.int .i64 a0_0); have hcz10_1 := fz BK170.out 1 (.int .i64 a0_1); have hcz10_2 := fz BK170.out 2 (.int .i64 a0_2); have hcz10_3 := fz BK170.out 3 (.int .i64 a0_3); have hfz10_0 := blk_frozen BK170.out 0; have hfz10_1 := blk_frozen BK170.out 1; have hfz10_2 := blk_frozen BK170.out 2; have hfz10_3 := blk_frozen BK170.out 3) | ((with_reducible refine gate_callee (f := 88) rfl ?_); refine goesL_ (some 7) rfl rfl Try.func88 (by kernel_rfl) rfl #[.int .i64 a0_0, .int .i64 0, .int .i64 a0_2] rfl dz ?_; (with_reducible refine (impl_in.calls a0_0 0 a0_2 true _ A2.out).mono ?_); rintro e w' ⟨rfl, ⟨nd, rfl⟩⟩; refine ⟨_, rfl, ?_⟩) | (go_at_call 88; (with_reducible refine (impl_in.calls a0_2 0 255 true _ A4.out).mono ?_); rintro e w' ⟨rfl, ⟨nd, rfl⟩⟩) | (go_at_call 88; (with_reducible refine (impl_in.calls a0_1 0 a0_3 true _ A6.out).mono ?_); rintro e w' ⟨rfl, ⟨nd, rfl⟩⟩) | (go_at_call 88; (with_reducible refine (impl_in.calls a0_3 0 255 t174 _ A8.out).mono ?_); rintro e w' ⟨rfl, ⟨nd, rfl⟩⟩))
        go_ret; exact ⟨ez, b1 GE170.out HB.out⟩
      · replace c7 := Bool.eq_false_iff.mpr c7
        subst c7; replace H : (some false) = some r := (by rw [if_neg (show ¬ (false = true) by decide)] at H; exact H); obtain rfl := Option.some.inj H
        go_enter Try.func112, Try.ntmps112
        go_wp2_with (first | ((with_reducible refine gate_dst (N := 1) rfl ?_); refine box_event ?hg (N := 1) ?hd (cs := #[.int .i64 a0_0, .int .i64 a0_1, .int .i64 a0_2, .int .i64 a0_3]) (t := 32) ?hr ?_; (case hd => rfl); (case hg => rfl); (case hr => first | (go_simp; done) | (go_simp; rfl)); intro gb170 hg w11 hbox hb; have n0_ := Aside0.mk (below_step (bz HB.out) hb); have n1_ := Aside0.mk (hbox); have n2_ := Aside0.mk ((by rw [hg]; exact (below_size (bz HB.out)) : w.heap.size ≤ gb170)); have n3_ := Aside0.mk ((by rw [hg]; exact (below_size (bz HB.out)) : w.heap.size ≤ gb170)); clear HB; have HB := n0_; have BK170 := n1_; have GW170 := n2_; have GE170 := n3_; clear n0_ n1_ n2_ n3_; clear hb hbox hg; have hcz12_0 := fz BK170.out 0 (.int .i64 a0_0); have hcz12_1 := fz BK170.out 1 (.int .i64 a0_1); have hcz12_2 := fz BK170.out 2 (.int .i64 a0_2); have hcz12_3 := fz BK170.out 3 (.int .i64 a0_3); have hfz12_0 := blk_frozen BK170.out 0; have hfz12_1 := blk_frozen BK170.out 1; have hfz12_2 := blk_frozen BK170.out 2; have hfz12_3 := blk_frozen BK170.out 3) | ((with_reducible refine gate_callee (f := 88) rfl ?_); refine goesL_ (some 7) rfl rfl Try.func88 (by kernel_rfl) rfl #[.int .i64 a0_0, .int .i64 0, .int .i64 a0_2] rfl dz ?_; (with_reducible refine (impl_in.calls a0_0 0 a0_2 true _ A2.out).mono ?_); rintro e w' ⟨rfl, ⟨nd, rfl⟩⟩; refine ⟨_, rfl, ?_⟩) | (go_at_call 88; (with_reducible refine (impl_in.calls a0_2 0 255 true _ A4.out).mono ?_); rintro e w' ⟨rfl, ⟨nd, rfl⟩⟩) | (go_at_call 88; (with_reducible refine (impl_in.calls a0_1 0 a0_3 false _ A6.out).mono ?_); rintro e w' ⟨rfl, ⟨nd, rfl⟩⟩))
        go_ret; exact ⟨ez, b1 GE170.out HB.out⟩
    · replace c5 := Bool.eq_false_iff.mpr c5
      subst c5; replace H : (some false) = some r := (by rw [if_neg (show ¬ (false = true) by decide)] at H; exact H); obtain rfl := Option.some.inj H
      go_enter Try.func112, Try.ntmps112
      go_wp2_with (first | ((with_reducible refine gate_dst (N := 1) rfl ?_); refine box_event ?hg (N := 1) ?hd (cs := #[.int .i64 a0_0, .int .i64 a0_1, .int .i64 a0_2, .int .i64 a0_3]) (t := 32) ?hr ?_; (case hd => rfl); (case hg => rfl); (case hr => first | (go_simp; done) | (go_simp; rfl)); intro gb170 hg w13 hbox hb; have n0_ := Aside0.mk (below_step (bz HB.out) hb); have n1_ := Aside0.mk (hbox); have n2_ := Aside0.mk ((by rw [hg]; exact (below_size (bz HB.out)) : w.heap.size ≤ gb170)); have n3_ := Aside0.mk ((by rw [hg]; exact (below_size (bz HB.out)) : w.heap.size ≤ gb170)); clear HB; have HB := n0_; have BK170 := n1_; have GW170 := n2_; have GE170 := n3_; clear n0_ n1_ n2_ n3_; clear hb hbox hg; have hcz14_0 := fz BK170.out 0 (.int .i64 a0_0); have hcz14_1 := fz BK170.out 1 (.int .i64 a0_1); have hcz14_2 := fz BK170.out 2 (.int .i64 a0_2); have hcz14_3 := fz BK170.out 3 (.int .i64 a0_3); have hfz14_0 := blk_frozen BK170.out 0; have hfz14_1 := blk_frozen BK170.out 1; have hfz14_2 := blk_frozen BK170.out 2; have hfz14_3 := blk_frozen BK170.out 3) | ((with_reducible refine gate_callee (f := 88) rfl ?_); refine goesL_ (some 7) rfl rfl Try.func88 (by kernel_rfl) rfl #[.int .i64 a0_0, .int .i64 0, .int .i64 a0_2] rfl dz ?_; (with_reducible refine (impl_in.calls a0_0 0 a0_2 true _ A2.out).mono ?_); rintro e w' ⟨rfl, ⟨nd, rfl⟩⟩; refine ⟨_, rfl, ?_⟩) | (go_at_call 88; (with_reducible refine (impl_in.calls a0_2 0 255 false _ A4.out).mono ?_); rintro e w' ⟨rfl, ⟨nd, rfl⟩⟩))
      go_ret; exact ⟨ez, b1 GE170.out HB.out⟩
  · replace c3 := Bool.eq_false_iff.mpr c3
    subst c3; replace H : (some false) = some r := (by rw [if_neg (show ¬ (false = true) by decide)] at H; exact H); obtain rfl := Option.some.inj H
    go_enter Try.func112, Try.ntmps112
    go_wp2_with (first | ((with_reducible refine gate_dst (N := 1) rfl ?_); refine box_event ?hg (N := 1) ?hd (cs := #[.int .i64 a0_0, .int .i64 a0_1, .int .i64 a0_2, .int .i64 a0_3]) (t := 32) ?hr ?_; (case hd => rfl); (case hg => rfl); (case hr => first | (go_simp; done) | (go_simp; rfl)); intro gb170 hg w15 hbox hb; have n0_ := Aside0.mk (below_step (bz HB.out) hb); have n1_ := Aside0.mk (hbox); have n2_ := Aside0.mk ((by rw [hg]; exact (below_size (bz HB.out)) : w.heap.size ≤ gb170)); have n3_ := Aside0.mk ((by rw [hg]; exact (below_size (bz HB.out)) : w.heap.size ≤ gb170)); clear HB; have HB := n0_; have BK170 := n1_; have GW170 := n2_; have GE170 := n3_; clear n0_ n1_ n2_ n3_; clear hb hbox hg; have hcz16_0 := fz BK170.out 0 (.int .i64 a0_0); have hcz16_1 := fz BK170.out 1 (.int .i64 a0_1); have hcz16_2 := fz BK170.out 2 (.int .i64 a0_2); have hcz16_3 := fz BK170.out 3 (.int .i64 a0_3); have hfz16_0 := blk_frozen BK170.out 0; have hfz16_1 := blk_frozen BK170.out 1; have hfz16_2 := blk_frozen BK170.out 2; have hfz16_3 := blk_frozen BK170.out 3) | ((with_reducible refine gate_callee (f := 88) rfl ?_); refine goesL_ (some 7) rfl rfl Try.func88 (by kernel_rfl) rfl #[.int .i64 a0_0, .int .i64 0, .int .i64 a0_2] rfl dz ?_; (with_reducible refine (impl_in.calls a0_0 0 a0_2 false _ A2.out).mono ?_); rintro e w' ⟨rfl, ⟨nd, rfl⟩⟩; refine ⟨_, rfl, ?_⟩))
    go_ret; exact ⟨ez, b1 GE170.out HB.out⟩

attribute [local go_sem] max2_int min2_int max_two min_two max_three min_three max_four min_four 
set_option linter.unusedVariables false
set_option linter.unusedSimpArgs false

/-! ### impl_NodeOk: function 90 -/
mutual
def impl_NodeOk.j0 : Nat → Bool → Bool → List (S103) → Option (Bool)
  | 0, _, _, _ => none
  | k + 1, x19, x613000, x613001 => if x19 = true then (some false) else (impl_NodeOk.l0 k x613001 (x613001.length : Int) 0 x613000 x613001)
def impl_NodeOk.l0 : Nat → List (S103) → Int → Int → Bool → List (S103) → Option (Bool)
  | 0, _, _, _, _, _ => none
  | k + 1, x21, x22, x23, x613000, x613001 => if x23 < x22 then (if 0 ≤ x23 then (if x23 < (x21.length : Int) then (if x613000 = true then ((impl_in.f ((rd_T103 x21 x23).f0) 1 999).bind fun t615 => (if t615 = true then ((impl_BoxOk.f ((rd_T103 x21 x23).f1.f0) ((rd_T103 x21 x23).f1.f1) ((rd_T103 x21 x23).f1.f2) ((rd_T103 x21 x23).f1.f3)).bind fun t616 => (if t616 = true then ((impl_EntryAt.f k x613001 ((rd_T103 x21 x23).f0)).bind fun t617 => (if t617 = x23 then (impl_NodeOk.l0 k x21 x22 (wrap64 (x23 + 1)) x613000 x613001) else (some false))) else (some false))) else (some false))) else ((impl_in.f ((rd_T103 x21 x23).f0) 0 47).bind fun t618 => (if t618 = true then ((impl_BoxOk.f ((rd_T103 x21 x23).f1.f0) ((rd_T103 x21 x23).f1.f1) ((rd_T103 x21 x23).f1.f2) ((rd_T103 x21 x23).f1.f3)).bind fun t619 => (if t619 = true then ((impl_EntryAt.f k x613001 ((rd_T103 x21 x23).f0)).bind fun t620 => (if t620 = x23 then (impl_NodeOk.l0 k x21 x22 (wrap64 (x23 + 1)) x613000 x613001) else (some false))) else (some false))) else (some false)))) else (none)) else (none)) else (some true)
end
def impl_NodeOk.f (k : Nat) (a0_0 : Bool) (l0_1 : List (S103)) : Option (Bool) := if (l0_1.length : Int) > 4 then (impl_NodeOk.j0 k true a0_0 l0_1) else (if a0_0 = true then (impl_NodeOk.j0 k false a0_0 l0_1) else (impl_NodeOk.j0 k ((l0_1.length : Int) == 0) a0_0 l0_1))
theorem impl_NodeOk.mono_l : ∀ k, (∀ y0 y1 y2, LeO (impl_NodeOk.j0 k y0 y1 y2) (impl_NodeOk.j0 (k + 1) y0 y1 y2)) ∧ (∀ y0 y1 y2 y3 y4, LeO (impl_NodeOk.l0 k y0 y1 y2 y3 y4) (impl_NodeOk.l0 (k + 1) y0 y1 y2 y3 y4))
  | 0 => ⟨fun _ _ _ r h => by simp [impl_NodeOk.j0] at h, fun _ _ _ _ _ r h => by simp [impl_NodeOk.l0] at h⟩
  | k + 1 => by
    obtain ⟨ih0, ih1⟩ := impl_NodeOk.mono_l k; refine ⟨?_, ?_⟩
    · intro y0 y1 y2
      unfold impl_NodeOk.j0
      repeat' first | (with_reducible first | exact ih0 _ _ _ | exact ih1 _ _ _ _ _ | exact impl_EntryAt.mono _ _ _ | exact LeO.refl _ | exact LeO.none _ | refine LeO.ite ?_ ?_ | refine LeO.bind ?_ (fun _ => ?_)) | exact ih0 _ _ _ | exact ih1 _ _ _ _ _ | exact impl_EntryAt.mono _ _ _ | exact LeO.none _ | refine LeO.ite ?_ ?_ | refine LeO.bind ?_ (fun _ => ?_)
    · intro y0 y1 y2 y3 y4
      unfold impl_NodeOk.l0
      repeat' first | (with_reducible first | exact ih0 _ _ _ | exact ih1 _ _ _ _ _ | exact impl_EntryAt.mono _ _ _ | exact LeO.refl _ | exact LeO.none _ | refine LeO.ite ?_ ?_ | refine LeO.bind ?_ (fun _ => ?_)) | exact ih0 _ _ _ | exact ih1 _ _ _ _ _ | exact impl_EntryAt.mono _ _ _ | exact LeO.none _ | refine LeO.ite ?_ ?_ | refine LeO.bind ?_ (fun _ => ?_)
theorem impl_NodeOk.mono : ∀ a0 a1 k, LeO (impl_NodeOk.f k a0 a1) (impl_NodeOk.f (k + 1) a0 a1) := by
  intro a0 a1 k
  obtain ⟨ih0, ih1⟩ := impl_NodeOk.mono_l k; unfold impl_NodeOk.f
  repeat' first | (with_reducible first | exact ih0 _ _ _ | exact ih1 _ _ _ _ _ | exact impl_EntryAt.mono _ _ _ | exact LeO.refl _ | exact LeO.none _ | refine LeO.ite ?_ ?_ | refine LeO.bind ?_ (fun _ => ?_)) | exact ih0 _ _ _ | exact ih1 _ _ _ _ _ | exact impl_EntryAt.mono _ _ _ | exact LeO.none _ | refine LeO.ite ?_ ?_ | refine LeO.bind ?_ (fun _ => ?_)
set_option maxHeartbeats 8000000 in
set_option maxRecDepth 100000 in
theorem impl_NodeOk.calls (k : Nat) (a0_0 : Bool) (A0_1 : Option Addr) (c0_1 : Nat) (l0_1 : List (S103)) (r : Bool) (w : World) (hr0_1 : Kd.C k103 w A0_1 l0_1.length l0_1) (hc0_1 : l0_1.length ≤ c0_1) (h : impl_NodeOk.f k a0_0 l0_1 = some r) :
    Calls Try.prog 90 #[.agg #[.bool a0_0, .slice A0_1 l0_1.length c0_1]] w fun e w' => e = .returned (.bool r) ∧ Below w.heap.size w w' := by
  have hu54 := Try.underlying54; have hu103 := Try.underlying103; have hu32 := Try.underlying32; have HR0_1 := Aside0.mk hr0_1; have HC0_1 := Aside0.mk hc0_1; clear hr0_1 hc0_1; have HB := Aside0.mk (Below.refl w.heap.size w); have H : (if (l0_1.length : Int) > 4 then (impl_NodeOk.j0 k true a0_0 l0_1) else (if a0_0 = true then (impl_NodeOk.j0 k false a0_0 l0_1) else (impl_NodeOk.j0 k ((l0_1.length : Int) == 0) a0_0 l0_1))) = some r := h; clear h; have HC2 := Aside0.mk H; clear H
  go_enter Try.func90, Try.ntmps90
  go_upto_region 1 with (first | ((with_reducible refine gate_dst (N := 1) rfl ?_); (try (refine gate_guard (by rfl) ?_; dsimp only)); refine box_event ?hg (N := 1) ?hd (cs := #[.bool a0_0, .slice A0_1 l0_1.length c0_1]) (t := 54) ?hr ?_; (case hd => rfl); (case hg => rfl); (case hr => first | (go_simp; done) | (go_simp; rfl)); intro gb612 hg w3 hbox hb; have n0_ := Aside0.mk (below_step (bz HB.out) hb); have n1_ := Aside0.mk (hbox); have n2_ := Aside0.mk ((by rw [hg]; exact (below_size (bz HB.out)) : w.heap.size ≤ gb612)); have n3_ := Aside0.mk ((by rw [hg]; exact (below_size (bz HB.out)) : w.heap.size ≤ gb612)); clear HB; have HB := n0_; have BK612 := n1_; have GW612 := n2_; have GE612 := n3_; clear n0_ n1_ n2_ n3_; clear hb hbox hg))
  (try simp only [Act.put, List.setIfInBounds_toArray, List.set_cons_zero, List.set_cons_succ])
  go_cut [19] (fun v19 wc => ∃ (kq : Nat) (x19_1 : Bool), v19 = .bool x19_1 ∧ Aside0 (impl_NodeOk.j0 kq x19_1 a0_0 l0_1 = some r) ∧ Aside0 (kq ≤ k) ∧ Aside0 (wc.heap[gb612]? = some (.cells #[.bool a0_0, (.slice A0_1 l0_1.length c0_1)] 54 (0, 0))) ∧ Aside0 (Below w.heap.size w wc))
  case first =>
    have H := HC2.out; clear HC2
    by_cases c4 : (l0_1.length : Int) > 4
    · rw [if_pos c4] at H
      have c4b0 : decide (4 < (l0_1.length : Int)) = true := decide_eq_true c4; have c4b1 : decide (4 < l0_1.length) = true := decide_eq_true (by omega); clear c4
      (first | rw [c4b0] | (simp only [i64_w, i32_w]; rw [c4b0]) | skip)
      have H' := Aside0.mk H; clear H; have hcz5_0 := fz BK612.out 0 (.bool a0_0); have hcz5_1 := fz BK612.out 1 (.slice A0_1 l0_1.length c0_1); have hfz5_0 := blk_frozen BK612.out 0; have hfz5_1 := blk_frozen BK612.out 1; go_wp2; go_meet
      case rel => exact ⟨_, (true), az, H', ⟨lz⟩, ⟨kz BK612.out⟩, ⟨b1 GE612.out HB.out⟩⟩
    · rw [if_neg c4] at H
      have c4b0 : decide (4 < (l0_1.length : Int)) = false := decide_eq_false c4; have c4b1 : decide (4 < l0_1.length) = false := decide_eq_false (by omega); clear c4
      (first | rw [c4b0] | (simp only [i64_w, i32_w]; rw [c4b0]) | skip)
      by_cases c6 : a0_0 = true
      · subst c6
        replace H : (impl_NodeOk.j0 k false true l0_1) = some r := (by rw [if_pos rfl] at H; exact H); have H' := Aside0.mk H; clear H; have hcz7_0 := fz BK612.out 0 (.bool true); have hcz7_1 := fz BK612.out 1 (.slice A0_1 l0_1.length c0_1); have hfz7_0 := blk_frozen BK612.out 0; have hfz7_1 := blk_frozen BK612.out 1; go_wp2; go_meet
        case rel => exact ⟨_, (false), az, H', ⟨lz⟩, ⟨kz BK612.out⟩, ⟨b1 GE612.out HB.out⟩⟩
      · replace c6 := Bool.eq_false_iff.mpr c6
        subst c6; replace H : (impl_NodeOk.j0 k ((l0_1.length : Int) == 0) false l0_1) = some r := (by rw [if_neg (show ¬ (false = true) by decide)] at H; exact H); have H' := Aside0.mk H; clear H; have hcz8_0 := fz BK612.out 0 (.bool false); have hcz8_1 := fz BK612.out 1 (.slice A0_1 l0_1.length c0_1); have hfz8_0 := blk_frozen BK612.out 0; have hfz8_1 := blk_frozen BK612.out 1; go_wp2; go_meet
        case rel => exact ⟨_, (((l0_1.length : Int) == 0)), az, H', ⟨lz⟩, ⟨kz BK612.out⟩, ⟨b1 GE612.out HB.out⟩⟩
  case rest =>
    clear HC2; (try clear p2); (try clear c4); (try clear c4b0); (try clear c4b1); (try clear c6); (try clear hcz5_0); (try clear hcz5_1); (try clear hcz7_0); (try clear hcz7_1); (try clear hcz8_0); (try clear hcz8_1); (try clear hfz5_0); (try clear hfz5_1); (try clear hfz7_0); (try clear hfz7_1); (try clear hfz8_0); (try clear hfz8_1); obtain ⟨kq, x19_1, rfl, HA, HJ1, BK612, HB⟩ := hcut
    cases kq with
    | zero => exact absurd HA.out (by simp [impl_NodeOk.j0])
    | succ kj1 =>
      have H := HA.out; clear HA
      simp only [impl_NodeOk.j0] at H
      by_cases c9 : x19_1 = true
      · subst c9
        replace H : (some false) = some r := (by rw [if_pos rfl] at H; exact H); obtain rfl := Option.some.inj H; go_wp2; go_ret; exact ⟨ez, b1 GE612.out HB.out⟩
      · replace c9 := Bool.eq_false_iff.mpr c9
        subst c9; replace H : (impl_NodeOk.l0 kj1 l0_1 (l0_1.length : Int) 0 a0_0 l0_1) = some r := (by rw [if_neg (show ¬ (false = true) by decide)] at H; exact H); have H' := Aside0.mk H; clear H; have hcz10_0 := fz BK612.out 0 (.bool a0_0); have hcz10_1 := fz BK612.out 1 (.slice A0_1 l0_1.length c0_1); have hfz10_0 := blk_frozen BK612.out 0; have hfz10_1 := blk_frozen BK612.out 1; go_wp2
        go_loopg [23] kj1 (fun kq v23 w' => ∃ (x23_2 : Int), v23 = .int .i64 x23_2 ∧ Aside0 (impl_NodeOk.l0 kq l0_1 (l0_1.length : Int) x23_2 a0_0 l0_1 = some r) ∧ Aside0 (kq ≤ kj1) ∧ Aside0 (w'.heap[gb612]? = some (.cells #[.bool a0_0, (.slice A0_1 l0_1.length c0_1)] 54 (0, 0))) ∧ Aside0 (Below w.heap.size w w'))
        case atStart => exact ⟨(0), az, H', ⟨Nat.le_refl _⟩, ⟨kz BK612.out⟩, ⟨b1 GE612.out HB.out⟩⟩
        case round =>
          clear H'; (try clear p2); (try clear c4); (try clear c4b0); (try clear c4b1); (try clear c6); (try clear c9); (try clear hcz10_0); (try clear hcz10_1); (try clear hcz5_0); (try clear hcz5_1); (try clear hcz7_0); (try clear hcz7_1); (try clear hcz8_0); (try clear hcz8_1); (try clear hfz10_0); (try clear hfz10_1); (try clear hfz5_0); (try clear hfz5_1); (try clear hfz7_0); (try clear hfz7_1); (try clear hfz8_0); (try clear hfz8_1); (try clear p2); obtain ⟨x23_2, rfl, HA, HK2, BK612, HB⟩ := hrel
          cases gk with
          | zero => exact absurd HA.out (by simp [impl_NodeOk.l0])
          | succ k2 =>
            have H := HA.out; clear HA
            simp only [impl_NodeOk.l0] at H
            by_cases c11 : x23_2 < (l0_1.length : Int)
            · rw [if_pos c11] at H
              have c11b0 : decide (x23_2 < (l0_1.length : Int)) = true := decide_eq_true c11; clear c11
              by_cases c12 : 0 ≤ x23_2
              · rw [if_pos c12] at H
                have c12b0 : decide (0 ≤ x23_2) = true := decide_eq_true c12; clear c12
                by_cases c13 : x23_2 < (l0_1.length : Int)
                · rw [if_pos c13] at H
                  have c13b0 : decide (x23_2 < (l0_1.length : Int)) = true := decide_eq_true c13; clear c13
                  by_cases c14 : a0_0 = true
                  · subst c14
                    replace H : ((impl_in.f ((rd_T103 l0_1 x23_2).f0) 1 999).bind fun t615 => (if t615 = true then ((impl_BoxOk.f ((rd_T103 l0_1 x23_2).f1.f0) ((rd_T103 l0_1 x23_2).f1.f1) ((rd_T103 l0_1 x23_2).f1.f2) ((rd_T103 l0_1 x23_2).f1.f3)).bind fun t616 => (if t616 = true then ((impl_EntryAt.f k2 l0_1 ((rd_T103 l0_1 x23_2).f0)).bind fun t617 => (if t617 = x23_2 then (impl_NodeOk.l0 k2 l0_1 (l0_1.length : Int) (wrap64 (x23_2 + 1)) true l0_1) else (some false))) else (some false))) else (some false))) = some r := (by rw [if_pos rfl] at H; exact H); replace H := Option.bind_eq_some_iff.mp H; obtain ⟨t615, A150, H⟩ := H; replace H : (if t615 = true then ((impl_BoxOk.f ((rd_T103 l0_1 x23_2).f1.f0) ((rd_T103 l0_1 x23_2).f1.f1) ((rd_T103 l0_1 x23_2).f1.f2) ((rd_T103 l0_1 x23_2).f1.f3)).bind fun t616 => (if t616 = true then ((impl_EntryAt.f k2 l0_1 ((rd_T103 l0_1 x23_2).f0)).bind fun t617 => (if t617 = x23_2 then (impl_NodeOk.l0 k2 l0_1 (l0_1.length : Int) (wrap64 (x23_2 + 1)) true l0_1) else (some false))) else (some false))) else (some false)) = some r := H; have A15 := Aside0.mk A150; clear A150
                    by_cases c16 : t615 = true
                    · subst c16
                      replace H : ((impl_BoxOk.f ((rd_T103 l0_1 x23_2).f1.f0) ((rd_T103 l0_1 x23_2).f1.f1) ((rd_T103 l0_1 x23_2).f1.f2) ((rd_T103 l0_1 x23_2).f1.f3)).bind fun t616 => (if t616 = true then ((impl_EntryAt.f k2 l0_1 ((rd_T103 l0_1 x23_2).f0)).bind fun t617 => (if t617 = x23_2 then (impl_NodeOk.l0 k2 l0_1 (l0_1.length : Int) (wrap64 (x23_2 + 1)) true l0_1) else (some false))) else (some false))) = some r := (by rw [if_pos rfl] at H; exact H); replace H := Option.bind_eq_some_iff.mp H; obtain ⟨t616, A170, H⟩ := H; replace H : (if t616 = true then ((impl_EntryAt.f k2 l0_1 ((rd_T103 l0_1 x23_2).f0)).bind fun t617 => (if t617 = x23_2 then (impl_NodeOk.l0 k2 l0_1 (l0_1.length : Int) (wrap64 (x23_2 + 1)) true l0_1) else (some false))) else (some false)) = some r := H; have A17 := Aside0.mk A170; clear A170
                      by_cases c18 : t616 = true
                      · subst c18
                        replace H : ((impl_EntryAt.f k2 l0_1 ((rd_T103 l0_1 x23_2).f0)).bind fun t617 => (if t617 = x23_2 then (impl_NodeOk.l0 k2 l0_1 (l0_1.length : Int) (wrap64 (x23_2 + 1)) true l0_1) else (some false))) = some r := (by rw [if_pos rfl] at H; exact H); replace H := Option.bind_eq_some_iff.mp H; obtain ⟨t617, A190, H⟩ := H; replace H : (if t617 = x23_2 then (impl_NodeOk.l0 k2 l0_1 (l0_1.length : Int) (wrap64 (x23_2 + 1)) true l0_1) else (some false)) = some r := H; have A19 := Aside0.mk A190; clear A190
                        by_cases c20 : t617 = x23_2
                        · rw [if_pos c20] at H
                          have c20b0 : (t617 == x23_2) = true := beq_iff_eq.mpr c20; have c20b1 : (t617 != x23_2) = false := bne_eq_false_iff_eq.mpr c20; clear c20; have H' := Aside0.mk H; clear H; have p613 : 0 ≤ (x23_2 : Int) := of_decide_eq_true uz; have q613 : x23_2 < (l0_1.length : Int) := of_decide_eq_true uz; obtain ⟨ad613, e613, hx613_0, hx613_1, hx613_2, hx613_3, hx613_4⟩ := at_T103 HR0_1.out x23_2 p613 q613
                          cases e613
                          replace hx613_0 := cz HB.out hx613_0; replace hx613_1 := cz HB.out hx613_1; replace hx613_2 := cz HB.out hx613_2; replace hx613_3 := cz HB.out hx613_3; replace hx613_4 := cz HB.out hx613_4; replace p613 := eq_true p613; replace q613 := eq_true q613
                          go_wp2_with (first | ((with_reducible refine gate_dst (N := 4) rfl ?_); (try (refine gate_guard (by rfl) ?_; dsimp only)); refine box_event ?hg (N := 4) ?hd (cs := #[.int .i64 0, .int .i64 0, .int .i64 0, .int .i64 0, .int .i64 0]) (t := 103) ?hr ?_; (case hd => rfl); (case hg => rfl); (case hr => first | (go_simp; done) | (go_simp; rfl)); intro gb614 hg w21 hbox hb; have n0_ := Aside0.mk (blk_below (g := gb612) (o := .cells #[.bool true, .slice (some ad613) l0_1.length c0_1] 54 (0, 0)) (kz BK612.out) hb); have n1_ := Aside0.mk (below_step (b1 GE612.out HB.out) hb); have n2_ := Aside0.mk (hbox); have n3_ := Aside0.mk ((by rw [hg]; exact (below_size (b1 GE612.out HB.out)) : w.heap.size ≤ gb614)); have n4_ := Aside0.mk ((by rw [hg]; exact (below_size (b1 GE612.out HB.out)) : w.heap.size ≤ gb614)); have n5_ := Aside0.mk ((by rw [hg]; exact Nat.ne_of_lt (blk_lt (g := gb612) (o := .cells #[.bool true, .slice (some ad613) l0_1.length c0_1] 54 (0, 0)) (kz BK612.out)) : gb612 ≠ gb614)); have n6_ := Aside0.mk ((by rw [hg]; exact Nat.ne_of_gt (blk_lt (g := gb612) (o := .cells #[.bool true, .slice (some ad613) l0_1.length c0_1] 54 (0, 0)) (kz BK612.out)) : gb614 ≠ gb612)); clear BK612; clear HB; have BK612 := n0_; have HB := n1_; have BK614 := n2_; have GW614 := n3_; have GE614 := n4_; have NB612_614 := n5_; have NB614_612 := n6_; clear n0_ n1_ n2_ n3_ n4_ n5_ n6_; clear hb hbox hg; have hnb22 := NB614_612.out; have hnc22 := NB612_614.out; have hcz23_0 := fz BK614.out 0 (.int .i64 0); have hcz23_1 := fz BK614.out 1 (.int .i64 0); have hcz23_2 := fz BK614.out 2 (.int .i64 0); have hcz23_3 := fz BK614.out 3 (.int .i64 0); have hcz23_4 := fz BK614.out 4 (.int .i64 0); have hfz23_0 := blk_frozen BK614.out 0; have hfz23_1 := blk_frozen BK614.out 1; have hfz23_2 := blk_frozen BK614.out 2; have hfz23_3 := blk_frozen BK614.out 3; have hfz23_4 := blk_frozen BK614.out 4; have hcz24_0 := fz BK612.out 0 (.bool true); have hcz24_1 := fz BK612.out 1 (.slice (some ad613) l0_1.length c0_1); have hfz24_0 := blk_frozen BK612.out 0; have hfz24_1 := blk_frozen BK612.out 1) | (go_at_call 88; (with_reducible refine (impl_in.calls ((rd_T103 l0_1 x23_2).f0) 1 999 true _ A15.out).mono ?_); rintro e w' ⟨rfl, ⟨nd, rfl⟩⟩) | (go_at_call 112; (with_reducible refine (impl_BoxOk.calls ((rd_T103 l0_1 x23_2).f1.f0) ((rd_T103 l0_1 x23_2).f1.f1) ((rd_T103 l0_1 x23_2).f1.f2) ((rd_T103 l0_1 x23_2).f1.f3) true _ A17.out).mono ?_); rintro e w25 ⟨rfl, hb⟩; have n0_ := Aside0.mk (blk_below (g := gb612) (o := .cells #[.bool true, .slice (some ad613) l0_1.length c0_1] 54 (0, 0)) (by (with_reducible repeat (first | refine blk_drewN ?_ _ | refine blk_drew ?_ | refine blk_alloc ?_ _)); refine blk_far ?_ NB612_614.out _; (with_reducible repeat (first | refine blk_drewN ?_ _ | refine blk_drew ?_ | refine blk_alloc ?_ _)); refine blk_far ?_ NB612_614.out _; (with_reducible repeat (first | refine blk_drewN ?_ _ | refine blk_drew ?_ | refine blk_alloc ?_ _)); refine blk_far ?_ NB612_614.out _; (with_reducible repeat (first | refine blk_drewN ?_ _ | refine blk_drew ?_ | refine blk_alloc ?_ _)); refine blk_far ?_ NB612_614.out _; (with_reducible repeat (first | refine blk_drewN ?_ _ | refine blk_drew ?_ | refine blk_alloc ?_ _)); refine blk_far ?_ NB612_614.out _; (with_reducible repeat (first | refine blk_drewN ?_ _ | refine blk_drew ?_ | refine blk_alloc ?_ _)); exact BK612.out) hb); have n1_ := Aside0.mk (blk_below (g := gb614) (o := .cells #[.int .i64 ((rd_T103 l0_1 x23_2).f0), .int .i64 ((rd_T103 l0_1 x23_2).f1.f0), .int .i64 ((rd_T103 l0_1 x23_2).f1.f1), .int .i64 ((rd_T103 l0_1 x23_2).f1.f2), .int .i64 ((rd_T103 l0_1 x23_2).f1.f3)] 103 (0, 0)) (by (with_reducible repeat (first | refine blk_drewN ?_ _ | refine blk_drew ?_ | refine blk_alloc ?_ _)); refine blk_put (cs := #[.int .i64 ((rd_T103 l0_1 x23_2).f0), .int .i64 ((rd_T103 l0_1 x23_2).f1.f0), .int .i64 ((rd_T103 l0_1 x23_2).f1.f1), .int .i64 ((rd_T103 l0_1 x23_2).f1.f2), .int .i64 0]) ?_ 4 _ rfl; (with_reducible repeat (first | refine blk_drewN ?_ _ | refine blk_drew ?_ | refine blk_alloc ?_ _)); refine blk_put (cs := #[.int .i64 ((rd_T103 l0_1 x23_2).f0), .int .i64 ((rd_T103 l0_1 x23_2).f1.f0), .int .i64 ((rd_T103 l0_1 x23_2).f1.f1), .int .i64 0, .int .i64 0]) ?_ 3 _ rfl; (with_reducible repeat (first | refine blk_drewN ?_ _ | refine blk_drew ?_ | refine blk_alloc ?_ _)); refine blk_put (cs := #[.int .i64 ((rd_T103 l0_1 x23_2).f0), .int .i64 ((rd_T103 l0_1 x23_2).f1.f0), .int .i64 0, .int .i64 0, .int .i64 0]) ?_ 2 _ rfl; (with_reducible repeat (first | refine blk_drewN ?_ _ | refine blk_drew ?_ | refine blk_alloc ?_ _)); refine blk_put (cs := #[.int .i64 ((rd_T103 l0_1 x23_2).f0), .int .i64 0, .int .i64 0, .int .i64 0, .int .i64 0]) ?_ 1 _ rfl; (with_reducible repeat (first | refine blk_drewN ?_ _ | refine blk_drew ?_ | refine blk_alloc ?_ _)); refine blk_put (cs := #[.int .i64 0, .int .i64 0, .int .i64 0, .int .i64 0, .int .i64 0]) ?_ 0 _ rfl; (with_reducible repeat (first | refine blk_drewN ?_ _ | refine blk_drew ?_ | refine blk_alloc ?_ _)); exact BK614.out) hb); have n2_ := Aside0.mk (below_step (b2 GE612.out GE614.out HB.out) hb); clear BK612; clear BK614; clear HB; have BK612 := n0_; have BK614 := n1_; have HB := n2_; clear n0_ n1_ n2_; (try clear hb); (try clear hb2); (try clear hk); (try clear hi); have hcz26_0 := fz BK612.out 0 (.bool true); have hcz26_1 := fz BK612.out 1 (.slice (some ad613) l0_1.length c0_1); have hfz26_0 := blk_frozen BK612.out 0; have hfz26_1 := blk_frozen BK612.out 1; have hcz27_0 : w25.cell? ⟨gb614, 0, none⟩ = some (.int .i64 ((rd_T103 l0_1 x23_2).f0)) := (blk_cell BK614.out 0).trans rfl; have hcz27_1 : w25.cell? ⟨gb614, 1, none⟩ = some (.int .i64 ((rd_T103 l0_1 x23_2).f1.f0)) := (blk_cell BK614.out 1).trans rfl; have hcz27_2 : w25.cell? ⟨gb614, 2, none⟩ = some (.int .i64 ((rd_T103 l0_1 x23_2).f1.f1)) := (blk_cell BK614.out 2).trans rfl; have hcz27_3 : w25.cell? ⟨gb614, 3, none⟩ = some (.int .i64 ((rd_T103 l0_1 x23_2).f1.f2)) := (blk_cell BK614.out 3).trans rfl; have hcz27_4 : w25.cell? ⟨gb614, 4, none⟩ = some (.int .i64 ((rd_T103 l0_1 x23_2).f1.f3)) := (blk_cell BK614.out 4).trans rfl; have hfz27_0 := blk_frozen BK614.out 0; have hfz27_1 := blk_frozen BK614.out 1; have hfz27_2 := blk_frozen BK614.out 2; have hfz27_3 := blk_frozen BK614.out 3; have hfz27_4 := blk_frozen BK614.out 4) | (go_at_call 103; (with_reducible refine (impl_EntryAt.calls k2 _ _ l0_1 ((rd_T103 l0_1 x23_2).f0) t617 _ ?side1 ?side2 A19.out).mono ?_); (case side1 => exact sz HR0_1.out HB.out); (case side2 => exact HC0_1.out); rintro e w28 ⟨rfl, hb⟩; have n0_ := Aside0.mk (blk_below (g := gb612) (o := .cells #[.bool true, .slice (some ad613) l0_1.length c0_1] 54 (0, 0)) (kz BK612.out) hb); have n1_ := Aside0.mk (blk_below (g := gb614) (o := .cells #[.int .i64 ((rd_T103 l0_1 x23_2).f0), .int .i64 ((rd_T103 l0_1 x23_2).f1.f0), .int .i64 ((rd_T103 l0_1 x23_2).f1.f1), .int .i64 ((rd_T103 l0_1 x23_2).f1.f2), .int .i64 ((rd_T103 l0_1 x23_2).f1.f3)] 103 (0, 0)) (kz BK614.out) hb); have n2_ := Aside0.mk (below_step (b2 GE612.out GE614.out HB.out) hb); clear BK612; clear BK614; clear HB; have BK612 := n0_; have BK614 := n1_; have HB := n2_; clear n0_ n1_ n2_; (try clear hb); (try clear hb2); (try clear hk); (try clear hi)))
                          go_roundg k2
                          case measure => have := HJ1.out; have := HK2.out; omega
                          case rel => exact ⟨(wrap64 (x23_2 + 1)), az, H', ⟨by have := HJ1.out; have := HK2.out; omega⟩, ⟨kz BK612.out⟩, ⟨b2 GE612.out GE614.out HB.out⟩⟩
                        · rw [if_neg c20] at H
                          have c20b0 : (t617 == x23_2) = false := beq_eq_false_iff_ne.mpr c20; have c20b1 : (t617 != x23_2) = true := bne_iff_ne.mpr c20; obtain rfl := Option.some.inj H; have p613 : 0 ≤ (x23_2 : Int) := of_decide_eq_true uz; have q613 : x23_2 < (l0_1.length : Int) := of_decide_eq_true uz; obtain ⟨ad613, e613, hx613_0, hx613_1, hx613_2, hx613_3, hx613_4⟩ := at_T103 HR0_1.out x23_2 p613 q613
                          cases e613
                          replace hx613_0 := cz HB.out hx613_0; replace hx613_1 := cz HB.out hx613_1; replace hx613_2 := cz HB.out hx613_2; replace hx613_3 := cz HB.out hx613_3; replace hx613_4 := cz HB.out hx613_4; replace p613 := eq_true p613; replace q613 := eq_true q613
                          go_wp2_with (first | ((with_reducible refine gate_dst (N := 4) rfl ?_); (try (refine gate_guard (by rfl) ?_; dsimp only)); refine box_event ?hg (N := 4) ?hd (cs := #[.int .i64 0, .int .i64 0, .int .i64 0, .int .i64 0, .int .i64 0]) (t := 103) ?hr ?_; (case hd => rfl); (case hg => rfl); (case hr => first | (go_simp; done) | (go_simp; rfl)); intro gb614 hg w29 hbox hb; have n0_ := Aside0.mk (blk_below (g := gb612) (o := .cells #[.bool true, .slice (some ad613) l0_1.length c0_1] 54 (0, 0)) (kz BK612.out) hb); have n1_ := Aside0.mk (below_step (b1 GE612.out HB.out) hb); have n2_ := Aside0.mk (hbox); have n3_ := Aside0.mk ((by rw [hg]; exact (below_size (b1 GE612.out HB.out)) : w.heap.size ≤ gb614)); have n4_ := Aside0.mk ((by rw [hg]; exact (below_size (b1 GE612.out HB.out)) : w.heap.size ≤ gb614)); have n5_ := Aside0.mk ((by rw [hg]; exact Nat.ne_of_lt (blk_lt (g := gb612) (o := .cells #[.bool true, .slice (some ad613) l0_1.length c0_1] 54 (0, 0)) (kz BK612.out)) : gb612 ≠ gb614)); have n6_ := Aside0.mk ((by rw [hg]; exact Nat.ne_of_gt (blk_lt (g := gb612) (o := .cells #[.bool true, .slice (some ad613) l0_1.length c0_1] 54 (0, 0)) (kz BK612.out)) : gb614 ≠ gb612)); clear BK612; clear HB; have BK612 := n0_; have HB := n1_; have BK614 := n2_; have GW614 := n3_; have GE614 := n4_; have NB612_614 := n5_; have NB614_612 := n6_; clear n0_ n1_ n2_ n3_ n4_ n5_ n6_; clear hb hbox hg; have hnb30 := NB614_612.out; have hnc30 := NB612_614.out; have hcz31_0 := fz BK614.out 0 (.int .i64 0); have hcz31_1 := fz BK614.out 1 (.int .i64 0); have hcz31_2 := fz BK614.out 2 (.int .i64 0); have hcz31_3 := fz BK614.out 3 (.int .i64 0); have hcz31_4 := fz BK614.out 4 (.int .i64 0); have hfz31_0 := blk_frozen BK614.out 0; have hfz31_1 := blk_frozen BK614.out 1; have hfz31_2 := blk_frozen BK614.out 2; have hfz31_3 := blk_frozen BK614.out 3; have hfz31_4 := blk_frozen BK614.out 4; have hcz32_0 := fz BK612.out 0 (.bool true); have hcz32_1 := fz BK612.out 1 (.slice (some ad613) l0_1.length c0_1); have hfz32_0 := blk_frozen BK612.out 0; have hfz32_1 := blk_frozen BK612.out 1) | (go_at_call 88; (with_reducible refine (impl_in.calls ((rd_T103 l0_1 x23_2).f0) 1 999 true _ A15.out).mono ?_); rintro e w' ⟨rfl, ⟨nd, rfl⟩⟩) | (go_at_call 112; (with_reducible refine (impl_BoxOk.calls ((rd_T103 l0_1 x23_2).f1.f0) ((rd_T103 l0_1 x23_2).f1.f1) ((rd_T103 l0_1 x23_2).f1.f2) ((rd_T103 l0_1 x23_2).f1.f3) true _ A17.out).mono ?_); rintro e w33 ⟨rfl, hb⟩; have n0_ := Aside0.mk (blk_below (g := gb612) (o := .cells #[.bool true, .slice (some ad613) l0_1.length c0_1] 54 (0, 0)) (by (with_reducible repeat (first | refine blk_drewN ?_ _ | refine blk_drew ?_ | refine blk_alloc ?_ _)); refine blk_far ?_ NB612_614.out _; (with_reducible repeat (first | refine blk_drewN ?_ _ | refine blk_drew ?_ | refine blk_alloc ?_ _)); refine blk_far ?_ NB612_614.out _; (with_reducible repeat (first | refine blk_drewN ?_ _ | refine blk_drew ?_ | refine blk_alloc ?_ _)); refine blk_far ?_ NB612_614.out _; (with_reducible repeat (first | refine blk_drewN ?_ _ | refine blk_drew ?_ | refine blk_alloc ?_ _)); refine blk_far ?_ NB612_614.out _; (with_reducible repeat (first | refine blk_drewN ?_ _ | refine blk_drew ?_ | refine blk_alloc ?_ _)); refine blk_far ?_ NB612_614.out _; (with_reducible repeat (first | refine blk_drewN ?_ _ | refine blk_drew ?_ | refine blk_alloc ?_ _)); exact BK612.out) hb); have n1_ := Aside0.mk (blk_below (g := gb614) (o := .cells #[.int .i64 ((rd_T103 l0_1 x23_2).f0), .int .i64 ((rd_T103 l0_1 x23_2).f1.f0), .int .i64 ((rd_T103 l0_1 x23_2).f1.f1), .int .i64 ((rd_T103 l0_1 x23_2).f1.f2), .int .i64 ((rd_T103 l0_1 x23_2).f1.f3)] 103 (0, 0)) (by (with_reducible repeat (first | refine blk_drewN ?_ _ | refine blk_drew ?_ | refine blk_alloc ?_ _)); refine blk_put (cs := #[.int .i64 ((rd_T103 l0_1 x23_2).f0), .int .i64 ((rd_T103 l0_1 x23_2).f1.f0), .int .i64 ((rd_T103 l0_1 x23_2).f1.f1), .int .i64 ((rd_T103 l0_1 x23_2).f1.f2), .int .i64 0]) ?_ 4 _ rfl; (with_reducible repeat (first | refine blk_drewN ?_ _ | refine blk_drew ?_ | refine blk_alloc ?_ _)); refine blk_put (cs := #[.int .i64 ((rd_T103 l0_1 x23_2).f0), .int .i64 ((rd_T103 l0_1 x23_2).f1.f0), .int .i64 ((rd_T103 l0_1 x23_2).f1.f1), .int .i64 0, .int .i64 0]) ?_ 3 _ rfl; (with_reducible repeat (first | refine blk_drewN ?_ _ | refine blk_drew ?_ | refine blk_alloc ?_ _)); refine blk_put (cs := #[.int .i64 ((rd_T103 l0_1 x23_2).f0), .int .i64 ((rd_T103 l0_1 x23_2).f1.f0), .int .i64 0, .int .i64 0, .int .i64 0]) ?_ 2 _ rfl; (with_reducible repeat (first | refine blk_drewN ?_ _ | refine blk_drew ?_ | refine blk_alloc ?_ _)); refine blk_put (cs := #[.int .i64 ((rd_T103 l0_1 x23_2).f0), .int .i64 0, .int .i64 0, .int .i64 0, .int .i64 0]) ?_ 1 _ rfl; (with_reducible repeat (first | refine blk_drewN ?_ _ | refine blk_drew ?_ | refine blk_alloc ?_ _)); refine blk_put (cs := #[.int .i64 0, .int .i64 0, .int .i64 0, .int .i64 0, .int .i64 0]) ?_ 0 _ rfl; (with_reducible repeat (first | refine blk_drewN ?_ _ | refine blk_drew ?_ | refine blk_alloc ?_ _)); exact BK614.out) hb); have n2_ := Aside0.mk (below_step (b2 GE612.out GE614.out HB.out) hb); clear BK612; clear BK614; clear HB; have BK612 := n0_; have BK614 := n1_; have HB := n2_; clear n0_ n1_ n2_; (try clear hb); (try clear hb2); (try clear hk); (try clear hi); have hcz34_0 := fz BK612.out 0 (.bool true); have hcz34_1 := fz BK612.out 1 (.slice (some ad613) l0_1.length c0_1); have hfz34_0 := blk_frozen BK612.out 0; have hfz34_1 := blk_frozen BK612.out 1; have hcz35_0 : w33.cell? ⟨gb614, 0, none⟩ = some (.int .i64 ((rd_T103 l0_1 x23_2).f0)) := (blk_cell BK614.out 0).trans rfl; have hcz35_1 : w33.cell? ⟨gb614, 1, none⟩ = some (.int .i64 ((rd_T103 l0_1 x23_2).f1.f0)) := (blk_cell BK614.out 1).trans rfl; have hcz35_2 : w33.cell? ⟨gb614, 2, none⟩ = some (.int .i64 ((rd_T103 l0_1 x23_2).f1.f1)) := (blk_cell BK614.out 2).trans rfl; have hcz35_3 : w33.cell? ⟨gb614, 3, none⟩ = some (.int .i64 ((rd_T103 l0_1 x23_2).f1.f2)) := (blk_cell BK614.out 3).trans rfl; have hcz35_4 : w33.cell? ⟨gb614, 4, none⟩ = some (.int .i64 ((rd_T103 l0_1 x23_2).f1.f3)) := (blk_cell BK614.out 4).trans rfl; have hfz35_0 := blk_frozen BK614.out 0; have hfz35_1 := blk_frozen BK614.out 1; have hfz35_2 := blk_frozen BK614.out 2; have hfz35_3 := blk_frozen BK614.out 3; have hfz35_4 := blk_frozen BK614.out 4) | (go_at_call 103; (with_reducible refine (impl_EntryAt.calls k2 _ _ l0_1 ((rd_T103 l0_1 x23_2).f0) t617 _ ?side1 ?side2 A19.out).mono ?_); (case side1 => exact sz HR0_1.out HB.out); (case side2 => exact HC0_1.out); rintro e w36 ⟨rfl, hb⟩; have n0_ := Aside0.mk (blk_below (g := gb612) (o := .cells #[.bool true, .slice (some ad613) l0_1.length c0_1] 54 (0, 0)) (kz BK612.out) hb); have n1_ := Aside0.mk (blk_below (g := gb614) (o := .cells #[.int .i64 ((rd_T103 l0_1 x23_2).f0), .int .i64 ((rd_T103 l0_1 x23_2).f1.f0), .int .i64 ((rd_T103 l0_1 x23_2).f1.f1), .int .i64 ((rd_T103 l0_1 x23_2).f1.f2), .int .i64 ((rd_T103 l0_1 x23_2).f1.f3)] 103 (0, 0)) (kz BK614.out) hb); have n2_ := Aside0.mk (below_step (b2 GE612.out GE614.out HB.out) hb); clear BK612; clear BK614; clear HB; have BK612 := n0_; have BK614 := n1_; have HB := n2_; clear n0_ n1_ n2_; (try clear hb); (try clear hb2); (try clear hk); (try clear hi)))
                          go_ret; exact ⟨ez, b2 GE612.out GE614.out HB.out⟩
                      · replace c18 := Bool.eq_false_iff.mpr c18
                        subst c18; replace H : (some false) = some r := (by rw [if_neg (show ¬ (false = true) by decide)] at H; exact H); obtain rfl := Option.some.inj H; have p613 : 0 ≤ (x23_2 : Int) := of_decide_eq_true uz; have q613 : x23_2 < (l0_1.length : Int) := of_decide_eq_true uz; obtain ⟨ad613, e613, hx613_0, hx613_1, hx613_2, hx613_3, hx613_4⟩ := at_T103 HR0_1.out x23_2 p613 q613
                        cases e613
                        replace hx613_0 := cz HB.out hx613_0; replace hx613_1 := cz HB.out hx613_1; replace hx613_2 := cz HB.out hx613_2; replace hx613_3 := cz HB.out hx613_3; replace hx613_4 := cz HB.out hx613_4; replace p613 := eq_true p613; replace q613 := eq_true q613
                        go_wp2_with (first | ((with_reducible refine gate_dst (N := 4) rfl ?_); (try (refine gate_guard (by rfl) ?_; dsimp only)); refine box_event ?hg (N := 4) ?hd (cs := #[.int .i64 0, .int .i64 0, .int .i64 0, .int .i64 0, .int .i64 0]) (t := 103) ?hr ?_; (case hd => rfl); (case hg => rfl); (case hr => first | (go_simp; done) | (go_simp; rfl)); intro gb614 hg w37 hbox hb; have n0_ := Aside0.mk (blk_below (g := gb612) (o := .cells #[.bool true, .slice (some ad613) l0_1.length c0_1] 54 (0, 0)) (kz BK612.out) hb); have n1_ := Aside0.mk (below_step (b1 GE612.out HB.out) hb); have n2_ := Aside0.mk (hbox); have n3_ := Aside0.mk ((by rw [hg]; exact (below_size (b1 GE612.out HB.out)) : w.heap.size ≤ gb614)); have n4_ := Aside0.mk ((by rw [hg]; exact (below_size (b1 GE612.out HB.out)) : w.heap.size ≤ gb614)); have n5_ := Aside0.mk ((by rw [hg]; exact Nat.ne_of_lt (blk_lt (g := gb612) (o := .cells #[.bool true, .slice (some ad613) l0_1.length c0_1] 54 (0, 0)) (kz BK612.out)) : gb612 ≠ gb614)); have n6_ := Aside0.mk ((by rw [hg]; exact Nat.ne_of_gt (blk_lt (g := gb612) (o := .cells #[.bool true, .slice (some ad613) l0_1.length c0_1] 54 (0, 0)) (kz BK612.out)) : gb614 ≠ gb612)); clear BK612; clear HB; have BK612 := n0_; have HB := n1_; have BK614 := n2_; have GW614 := n3_; have GE614 := n4_; have NB612_614 := n5_; have NB614_612 := n6_; clear n0_ n1_ n2_ n3_ n4_ n5_ n6_; clear hb hbox hg; have hnb38 := NB614_612.out; have hnc38 := NB612_614.out; have hcz39_0 := fz BK614.out 0 (.int .i64 0); have hcz39_1 := fz BK614.out 1 (.int .i64 0); have hcz39_2 := fz BK614.out 2 (.int .i64 0); have hcz39_3 := fz BK614.out 3 (.int .i64 0); have hcz39_4 := fz BK614.out 4 (.int .i64 0); have hfz39_0 := blk_frozen BK614.out 0; have hfz39_1 := blk_frozen BK614.out 1; have hfz39_2 := blk_frozen BK614.out 2; have hfz39_3 := blk_frozen BK614.out 3; have hfz39_4 := blk_frozen BK614.out 4; have hcz40_0 := fz BK612.out 0 (.bool true); have hcz40_1 := fz BK612.out 1 (.slice (some ad613) l0_1.length c0_1); have hfz40_0 := blk_frozen BK612.out 0; have hfz40_1 := blk_frozen BK612.out 1) | (go_at_call 88; (with_reducible refine (impl_in.calls ((rd_T103 l0_1 x23_2).f0) 1 999 true _ A15.out).mono ?_); rintro e w' ⟨rfl, ⟨nd, rfl⟩⟩) | (go_at_call 112; (with_reducible refine (impl_BoxOk.calls ((rd_T103 l0_1 x23_2).f1.f0) ((rd_T103 l0_1 x23_2).f1.f1) ((rd_T103 l0_1 x23_2).f1.f2) ((rd_T103 l0_1 x23_2).f1.f3) false _ A17.out).mono ?_); rintro e w41 ⟨rfl, hb⟩; have n0_ := Aside0.mk (blk_below (g := gb612) (o := .cells #[.bool true, .slice (some ad613) l0_1.length c0_1] 54 (0, 0)) (by (with_reducible repeat (first | refine blk_drewN ?_ _ | refine blk_drew ?_ | refine blk_alloc ?_ _)); refine blk_far ?_ NB612_614.out _; (with_reducible repeat (first | refine blk_drewN ?_ _ | refine blk_drew ?_ | refine blk_alloc ?_ _)); refine blk_far ?_ NB612_614.out _; (with_reducible repeat (first | refine blk_drewN ?_ _ | refine blk_drew ?_ | refine blk_alloc ?_ _)); refine blk_far ?_ NB612_614.out _; (with_reducible repeat (first | refine blk_drewN ?_ _ | refine blk_drew ?_ | refine blk_alloc ?_ _)); refine blk_far ?_ NB612_614.out _; (with_reducible repeat (first | refine blk_drewN ?_ _ | refine blk_drew ?_ | refine blk_alloc ?_ _)); refine blk_far ?_ NB612_614.out _; (with_reducible repeat (first | refine blk_drewN ?_ _ | refine blk_drew ?_ | refine blk_alloc ?_ _)); exact BK612.out) hb); have n1_ := Aside0.mk (blk_below (g := gb614) (o := .cells #[.int .i64 ((rd_T103 l0_1 x23_2).f0), .int .i64 ((rd_T103 l0_1 x23_2).f1.f0), .int .i64 ((rd_T103 l0_1 x23_2).f1.f1), .int .i64 ((rd_T103 l0_1 x23_2).f1.f2), .int .i64 ((rd_T103 l0_1 x23_2).f1.f3)] 103 (0, 0)) (by (with_reducible repeat (first | refine blk_drewN ?_ _ | refine blk_drew ?_ | refine blk_alloc ?_ _)); refine blk_put (cs := #[.int .i64 ((rd_T103 l0_1 x23_2).f0), .int .i64 ((rd_T103 l0_1 x23_2).f1.f0), .int .i64 ((rd_T103 l0_1 x23_2).f1.f1), .int .i64 ((rd_T103 l0_1 x23_2).f1.f2), .int .i64 0]) ?_ 4 _ rfl; (with_reducible repeat (first | refine blk_drewN ?_ _ | refine blk_drew ?_ | refine blk_alloc ?_ _)); refine blk_put (cs := #[.int .i64 ((rd_T103 l0_1 x23_2).f0), .int .i64 ((rd_T103 l0_1 x23_2).f1.f0), .int .i64 ((rd_T103 l0_1 x23_2).f1.f1), .int .i64 0, .int .i64 0]) ?_ 3 _ rfl; (with_reducible repeat (first | refine blk_drewN ?_ _ | refine blk_drew ?_ | refine blk_alloc ?_ _)); refine blk_put (cs := #[.int .i64 ((rd_T103 l0_1 x23_2).f0), .int .i64 ((rd_T103 l0_1 x23_2).f1.f0), .int .i64 0, .int .i64 0, .int .i64 0]) ?_ 2 _ rfl; (with_reducible repeat (first | refine blk_drewN ?_ _ | refine blk_drew ?_ | refine blk_alloc ?_ _)); refine blk_put (cs := #[.int .i64 ((rd_T103 l0_1 x23_2).f0), .int .i64 0, .int .i64 0, .int .i64 0, .int .i64 0]) ?_ 1 _ rfl; (with_reducible repeat (first | refine blk_drewN ?_ _ | refine blk_drew ?_ | refine blk_alloc ?_ _)); refine blk_put (cs := #[.int .i64 0, .int .i64 0, .int .i64 0, .int .i64 0, .int .i64 0]) ?_ 0 _ rfl; (with_reducible repeat (first | refine blk_drewN ?_ _ | refine blk_drew ?_ | refine blk_alloc ?_ _)); exact BK614.out) hb); have n2_ := Aside0.mk (below_step (b2 GE612.out GE614.out HB.out) hb); clear BK612; clear BK614; clear HB; have BK612 := n0_; have BK614 := n1_; have HB := n2_; clear n0_ n1_ n2_; (try clear hb); (try clear hb2); (try clear hk); (try clear hi)))
                        go_ret; exact ⟨ez, b2 GE612.out GE614.out HB.out⟩
                    · replace c16 := Bool.eq_false_iff.mpr c16
                      subst c16; replace H : (some false) = some r := (by rw [if_neg (show ¬ (false = true) by decide)] at H; exact H); obtain rfl := Option.some.inj H; have p613 : 0 ≤ (x23_2 : Int) := of_decide_eq_true uz; have q613 : x23_2 < (l0_1.length : Int) := of_decide_eq_true uz; obtain ⟨ad613, e613, hx613_0, hx613_1, hx613_2, hx613_3, hx613_4⟩ := at_T103 HR0_1.out x23_2 p613 q613
                      cases e613
                      replace hx613_0 := cz HB.out hx613_0; replace hx613_1 := cz HB.out hx613_1; replace hx613_2 := cz HB.out hx613_2; replace hx613_3 := cz HB.out hx613_3; replace hx613_4 := cz HB.out hx613_4; replace p613 := eq_true p613; replace q613 := eq_true q613
                      go_wp2_with (first | ((with_reducible refine gate_dst (N := 4) rfl ?_); (try (refine gate_guard (by rfl) ?_; dsimp only)); refine box_event ?hg (N := 4) ?hd (cs := #[.int .i64 0, .int .i64 0, .int .i64 0, .int .i64 0, .int .i64 0]) (t := 103) ?hr ?_; (case hd => rfl); (case hg => rfl); (case hr => first | (go_simp; done) | (go_simp; rfl)); intro gb614 hg w42 hbox hb; have n0_ := Aside0.mk (blk_below (g := gb612) (o := .cells #[.bool true, .slice (some ad613) l0_1.length c0_1] 54 (0, 0)) (kz BK612.out) hb); have n1_ := Aside0.mk (below_step (b1 GE612.out HB.out) hb); have n2_ := Aside0.mk (hbox); have n3_ := Aside0.mk ((by rw [hg]; exact (below_size (b1 GE612.out HB.out)) : w.heap.size ≤ gb614)); have n4_ := Aside0.mk ((by rw [hg]; exact (below_size (b1 GE612.out HB.out)) : w.heap.size ≤ gb614)); have n5_ := Aside0.mk ((by rw [hg]; exact Nat.ne_of_lt (blk_lt (g := gb612) (o := .cells #[.bool true, .slice (some ad613) l0_1.length c0_1] 54 (0, 0)) (kz BK612.out)) : gb612 ≠ gb614)); have n6_ := Aside0.mk ((by rw [hg]; exact Nat.ne_of_gt (blk_lt (g := gb612) (o := .cells #[.bool true, .slice (some ad613) l0_1.length c0_1] 54 (0, 0)) (kz BK612.out)) : gb614 ≠ gb612)); clear BK612; clear HB; have BK612 := n0_; have HB := n1_; have BK614 := n2_; have GW614 := n3_; have GE614 := n4_; have NB612_614 := n5_; have NB614_612 := n6_; clear n0_ n1_ n2_ n3_ n4_ n5_ n6_; clear hb hbox hg; have hnb43 := NB614_612.out; have hnc43 := NB612_614.out; have hcz44_0 := fz BK614.out 0 (.int .i64 0); have hcz44_1 := fz BK614.out 1 (.int .i64 0); have hcz44_2 := fz BK614.out 2 (.int .i64 0); have hcz44_3 := fz BK614.out 3 (.int .i64 0); have hcz44_4 := fz BK614.out 4 (.int .i64 0); have hfz44_0 := blk_frozen BK614.out 0; have hfz44_1 := blk_frozen BK614.out 1; have hfz44_2 := blk_frozen BK614.out 2; have hfz44_3 := blk_frozen BK614.out 3; have hfz44_4 := blk_frozen BK614.out 4; have hcz45_0 := fz BK612.out 0 (.bool true); have hcz45_1 := fz BK612.out 1 (.slice (some ad613) l0_1.length c0_1); have hfz45_0 := blk_frozen BK612.out 0; have hfz45_1 := blk_frozen BK612.out 1) | (go_at_call 88; (with_reducible refine (impl_in.calls ((rd_T103 l0_1 x23_2).f0) 1 999 false _ A15.out).mono ?_); rintro e w' ⟨rfl, ⟨nd, rfl⟩⟩))
                      go_ret; exact ⟨ez, b2 GE612.out GE614.out HB.out⟩
                  · replace c14 := Bool.eq_false_iff.mpr c14
                    subst c14; replace H : ((impl_in.f ((rd_T103 l0_1 x23_2).f0) 0 47).bind fun t618 => (if t618 = true then ((impl_BoxOk.f ((rd_T103 l0_1 x23_2).f1.f0) ((rd_T103 l0_1 x23_2).f1.f1) ((rd_T103 l0_1 x23_2).f1.f2) ((rd_T103 l0_1 x23_2).f1.f3)).bind fun t619 => (if t619 = true then ((impl_EntryAt.f k2 l0_1 ((rd_T103 l0_1 x23_2).f0)).bind fun t620 => (if t620 = x23_2 then (impl_NodeOk.l0 k2 l0_1 (l0_1.length : Int) (wrap64 (x23_2 + 1)) false l0_1) else (some false))) else (some false))) else (some false))) = some r := (by rw [if_neg (show ¬ (false = true) by decide)] at H; exact H); replace H := Option.bind_eq_some_iff.mp H; obtain ⟨t618, A460, H⟩ := H; replace H : (if t618 = true then ((impl_BoxOk.f ((rd_T103 l0_1 x23_2).f1.f0) ((rd_T103 l0_1 x23_2).f1.f1) ((rd_T103 l0_1 x23_2).f1.f2) ((rd_T103 l0_1 x23_2).f1.f3)).bind fun t619 => (if t619 = true then ((impl_EntryAt.f k2 l0_1 ((rd_T103 l0_1 x23_2).f0)).bind fun t620 => (if t620 = x23_2 then (impl_NodeOk.l0 k2 l0_1 (l0_1.length : Int) (wrap64 (x23_2 + 1)) false l0_1) else (some false))) else (some false))) else (some false)) = some r := H; have A46 := Aside0.mk A460; clear A460
                    by_cases c47 : t618 = true
                    · subst c47
                      replace H : ((impl_BoxOk.f ((rd_T103 l0_1 x23_2).f1.f0) ((rd_T103 l0_1 x23_2).f1.f1) ((rd_T103 l0_1 x23_2).f1.f2) ((rd_T103 l0_1 x23_2).f1.f3)).bind fun t619 => (if t619 = true then ((impl_EntryAt.f k2 l0_1 ((rd_T103 l0_1 x23_2).f0)).bind fun t620 => (if t620 = x23_2 then (impl_NodeOk.l0 k2 l0_1 (l0_1.length : Int) (wrap64 (x23_2 + 1)) false l0_1) else (some false))) else (some false))) = some r := (by rw [if_pos rfl] at H; exact H); replace H := Option.bind_eq_some_iff.mp H; obtain ⟨t619, A480, H⟩ := H; replace H : (if t619 = true then ((impl_EntryAt.f k2 l0_1 ((rd_T103 l0_1 x23_2).f0)).bind fun t620 => (if t620 = x23_2 then (impl_NodeOk.l0 k2 l0_1 (l0_1.length : Int) (wrap64 (x23_2 + 1)) false l0_1) else (some false))) else (some false)) = some r := H; have A48 := Aside0.mk A480; clear A480
                      by_cases c49 : t619 = true
                      · subst c49
                        replace H : ((impl_EntryAt.f k2 l0_1 ((rd_T103 l0_1 x23_2).f0)).bind fun t620 => (if t620 = x23_2 then (impl_NodeOk.l0 k2 l0_1 (l0_1.length : Int) (wrap64 (x23_2 + 1)) false l0_1) else (some false))) = some r := (by rw [if_pos rfl] at H; exact H); replace H := Option.bind_eq_some_iff.mp H; obtain ⟨t620, A500, H⟩ := H; replace H : (if t620 = x23_2 then (impl_NodeOk.l0 k2 l0_1 (l0_1.length : Int) (wrap64 (x23_2 + 1)) false l0_1) else (some false)) = some r := H; have A50 := Aside0.mk A500; clear A500
                        by_cases c51 : t620 = x23_2
                        · rw [if_pos c51] at H
                          have c51b0 : (t620 == x23_2) = true := beq_iff_eq.mpr c51; have c51b1 : (t620 != x23_2) = false := bne_eq_false_iff_eq.mpr c51; clear c51; have H' := Aside0.mk H; clear H; have p613 : 0 ≤ (x23_2 : Int) := of_decide_eq_true uz; have q613 : x23_2 < (l0_1.length : Int) := of_decide_eq_true uz; obtain ⟨ad613, e613, hx613_0, hx613_1, hx613_2, hx613_3, hx613_4⟩ := at_T103 HR0_1.out x23_2 p613 q613
                          cases e613
                          replace hx613_0 := cz HB.out hx613_0; replace hx613_1 := cz HB.out hx613_1; replace hx613_2 := cz HB.out hx613_2; replace hx613_3 := cz HB.out hx613_3; replace hx613_4 := cz HB.out hx613_4; replace p613 := eq_true p613; replace q613 := eq_true q613
                          go_wp2_with (first | ((with_reducible refine gate_dst (N := 4) rfl ?_); (try (refine gate_guard (by rfl) ?_; dsimp only)); refine box_event ?hg (N := 4) ?hd (cs := #[.int .i64 0, .int .i64 0, .int .i64 0, .int .i64 0, .int .i64 0]) (t := 103) ?hr ?_; (case hd => rfl); (case hg => rfl); (case hr => first | (go_simp; done) | (go_simp; rfl)); intro gb614 hg w52 hbox hb; have n0_ := Aside0.mk (blk_below (g := gb612) (o := .cells #[.bool false, .slice (some ad613) l0_1.length c0_1] 54 (0, 0)) (kz BK612.out) hb); have n1_ := Aside0.mk (below_step (b1 GE612.out HB.out) hb); have n2_ := Aside0.mk (hbox); have n3_ := Aside0.mk ((by rw [hg]; exact (below_size (b1 GE612.out HB.out)) : w.heap.size ≤ gb614)); have n4_ := Aside0.mk ((by rw [hg]; exact (below_size (b1 GE612.out HB.out)) : w.heap.size ≤ gb614)); have n5_ := Aside0.mk ((by rw [hg]; exact Nat.ne_of_lt (blk_lt (g := gb612) (o := .cells #[.bool false, .slice (some ad613) l0_1.length c0_1] 54 (0, 0)) (kz BK612.out)) : gb612 ≠ gb614)); have n6_ := Aside0.mk ((by rw [hg]; exact Nat.ne_of_gt (blk_lt (g := gb612) (o := .cells #[.bool false, .slice (some ad613) l0_1.length c0_1] 54 (0, 0)) (kz BK612.out)) : gb614 ≠ gb612)); clear BK612; clear HB; have BK612 := n0_; have HB := n1_; have BK614 := n2_; have GW614 := n3_; have GE614 := n4_; have NB612_614 := n5_; have NB614_612 := n6_; clear n0_ n1_ n2_ n3_ n4_ n5_ n6_; clear hb hbox hg; have hnb53 := NB614_612.out; have hnc53 := NB612_614.out; have hcz54_0 := fz BK614.out 0 (.int .i64 0); have hcz54_1 := fz BK614.out 1 (.int .i64 0); have hcz54_2 := fz BK614.out 2 (.int .i64 0); have hcz54_3 := fz BK614.out 3 (.int .i64 0); have hcz54_4 := fz BK614.out 4 (.int .i64 0); have hfz54_0 := blk_frozen BK614.out 0; have hfz54_1 := blk_frozen BK614.out 1; have hfz54_2 := blk_frozen BK614.out 2; have hfz54_3 := blk_frozen BK614.out 3; have hfz54_4 := blk_frozen BK614.out 4; have hcz55_0 := fz BK612.out 0 (.bool false); have hcz55_1 := fz BK612.out 1 (.slice (some ad613) l0_1.length c0_1); have hfz55_0 := blk_frozen BK612.out 0; have hfz55_1 := blk_frozen BK612.out 1) | (go_at_call 88; (with_reducible refine (impl_in.calls ((rd_T103 l0_1 x23_2).f0) 0 47 true _ A46.out).mono ?_); rintro e w' ⟨rfl, ⟨nd, rfl⟩⟩) | (go_at_call 112; (with_reducible refine (impl_BoxOk.calls ((rd_T103 l0_1 x23_2).f1.f0) ((rd_T103 l0_1 x23_2).f1.f1) ((rd_T103 l0_1 x23_2).f1.f2) ((rd_T103 l0_1 x23_2).f1.f3) true _ A48.out).mono ?_); rintro e w56 ⟨rfl, hb⟩; have n0_ := Aside0.mk (blk_below (g := gb612) (o := .cells #[.bool false, .slice (some ad613) l0_1.length c0_1] 54 (0, 0)) (by (with_reducible repeat (first | refine blk_drewN ?_ _ | refine blk_drew ?_ | refine blk_alloc ?_ _)); refine blk_far ?_ NB612_614.out _; (with_reducible repeat (first | refine blk_drewN ?_ _ | refine blk_drew ?_ | refine blk_alloc ?_ _)); refine blk_far ?_ NB612_614.out _; (with_reducible repeat (first | refine blk_drewN ?_ _ | refine blk_drew ?_ | refine blk_alloc ?_ _)); refine blk_far ?_ NB612_614.out _; (with_reducible repeat (first | refine blk_drewN ?_ _ | refine blk_drew ?_ | refine blk_alloc ?_ _)); refine blk_far ?_ NB612_614.out _; (with_reducible repeat (first | refine blk_drewN ?_ _ | refine blk_drew ?_ | refine blk_alloc ?_ _)); refine blk_far ?_ NB612_614.out _; (with_reducible repeat (first | refine blk_drewN ?_ _ | refine blk_drew ?_ | refine blk_alloc ?_ _)); exact BK612.out) hb); have n1_ := Aside0.mk (blk_below (g := gb614) (o := .cells #[.int .i64 ((rd_T103 l0_1 x23_2).f0), .int .i64 ((rd_T103 l0_1 x23_2).f1.f0), .int .i64 ((rd_T103 l0_1 x23_2).f1.f1), .int .i64 ((rd_T103 l0_1 x23_2).f1.f2), .int .i64 ((rd_T103 l0_1 x23_2).f1.f3)] 103 (0, 0)) (by (with_reducible repeat (first | refine blk_drewN ?_ _ | refine blk_drew ?_ | refine blk_alloc ?_ _)); refine blk_put (cs := #[.int .i64 ((rd_T103 l0_1 x23_2).f0), .int .i64 ((rd_T103 l0_1 x23_2).f1.f0), .int .i64 ((rd_T103 l0_1 x23_2).f1.f1), .int .i64 ((rd_T103 l0_1 x23_2).f1.f2), .int .i64 0]) ?_ 4 _ rfl; (with_reducible repeat (first | refine blk_drewN ?_ _ | refine blk_drew ?_ | refine blk_alloc ?_ _)); refine blk_put (cs := #[.int .i64 ((rd_T103 l0_1 x23_2).f0), .int .i64 ((rd_T103 l0_1 x23_2).f1.f0), .int .i64 ((rd_T103 l0_1 x23_2).f1.f1), .int .i64 0, .int .i64 0]) ?_ 3 _ rfl; (with_reducible repeat (first | refine blk_drewN ?_ _ | refine blk_drew ?_ | refine blk_alloc ?_ _)); refine blk_put (cs := #[.int .i64 ((rd_T103 l0_1 x23_2).f0), .int .i64 ((rd_T103 l0_1 x23_2).f1.f0), .int .i64 0, .int .i64 0, .int .i64 0]) ?_ 2 _ rfl; (with_reducible repeat (first | refine blk_drewN ?_ _ | refine blk_drew ?_ | refine blk_alloc ?_ _)); refine blk_put (cs := #[.int .i64 ((rd_T103 l0_1 x23_2).f0), .int .i64 0, .int .i64 0, .int .i64 0, .int .i64 0]) ?_ 1 _ rfl; (with_reducible repeat (first | refine blk_drewN ?_ _ | refine blk_drew ?_ | refine blk_alloc ?_ _)); refine blk_put (cs := #[.int .i64 0, .int .i64 0, .int .i64 0, .int .i64 0, .int .i64 0]) ?_ 0 _ rfl; (with_reducible repeat (first | refine blk_drewN ?_ _ | refine blk_drew ?_ | refine blk_alloc ?_ _)); exact BK614.out) hb); have n2_ := Aside0.mk (below_step (b2 GE612.out GE614.out HB.out) hb); clear BK612; clear BK614; clear HB; have BK612 := n0_; have BK614 := n1_; have HB := n2_; clear n0_ n1_ n2_; (try clear hb); (try clear hb2); (try clear hk); (try clear hi); have hcz57_0 := fz BK612.out 0 (.bool false); have hcz57_1 := fz BK612.out 1 (.slice (some ad613) l0_1.length c0_1); have hfz57_0 := blk_frozen BK612.out 0; have hfz57_1 := blk_frozen BK612.out 1; have hcz58_0 : w56.cell? ⟨gb614, 0, none⟩ = some (.int .i64 ((rd_T103 l0_1 x23_2).f0)) := (blk_cell BK614.out 0).trans rfl; have hcz58_1 : w56.cell? ⟨gb614, 1, none⟩ = some (.int .i64 ((rd_T103 l0_1 x23_2).f1.f0)) := (blk_cell BK614.out 1).trans rfl; have hcz58_2 : w56.cell? ⟨gb614, 2, none⟩ = some (.int .i64 ((rd_T103 l0_1 x23_2).f1.f1)) := (blk_cell BK614.out 2).trans rfl; have hcz58_3 : w56.cell? ⟨gb614, 3, none⟩ = some (.int .i64 ((rd_T103 l0_1 x23_2).f1.f2)) := (blk_cell BK614.out 3).trans rfl; have hcz58_4 : w56.cell? ⟨gb614, 4, none⟩ = some (.int .i64 ((rd_T103 l0_1 x23_2).f1.f3)) := (blk_cell BK614.out 4).trans rfl; have hfz58_0 := blk_frozen BK614.out 0; have hfz58_1 := blk_frozen BK614.out 1; have hfz58_2 := blk_frozen BK614.out 2; have hfz58_3 := blk_frozen BK614.out 3; have hfz58_4 := blk_frozen BK614.out 4) | (go_at_call 103; (with_reducible refine (impl_EntryAt.calls k2 _ _ l0_1 ((rd_T103 l0_1 x23_2).f0) t620 _ ?side1 ?side2 A50.out).mono ?_); (case side1 => exact sz HR0_1.out HB.out); (case side2 => exact HC0_1.out); rintro e w59 ⟨rfl, hb⟩; have n0_ := Aside0.mk (blk_below (g := gb612) (o := .cells #[.bool false, .slice (some ad613) l0_1.length c0_1] 54 (0, 0)) (kz BK612.out) hb); have n1_ := Aside0.mk (blk_below (g := gb614) (o := .cells #[.int .i64 ((rd_T103 l0_1 x23_2).f0), .int .i64 ((rd_T103 l0_1 x23_2).f1.f0), .int .i64 ((rd_T103 l0_1 x23_2).f1.f1), .int .i64 ((rd_T103 l0_1 x23_2).f1.f2), .int .i64 ((rd_T103 l0_1 x23_2).f1.f3)] 103 (0, 0)) (kz BK614.out) hb); have n2_ := Aside0.mk (below_step (b2 GE612.out GE614.out HB.out) hb); clear BK612; clear BK614; clear HB; have BK612 := n0_; have BK614 := n1_; have HB := n2_; clear n0_ n1_ n2_; (try clear hb); (try clear hb2); (try clear hk); (try clear hi)))
                          go_roundg k2
                          case measure => have := HJ1.out; have := HK2.out; omega
                          case rel => exact ⟨(wrap64 (x23_2 + 1)), az, H', ⟨by have := HJ1.out; have := HK2.out; omega⟩, ⟨kz BK612.out⟩, ⟨b2 GE612.out GE614.out HB.out⟩⟩
                        · rw [if_neg c51] at H
                          have c51b0 : (t620 == x23_2) = false := beq_eq_false_iff_ne.mpr c51; have c51b1 : (t620 != x23_2) = true := bne_iff_ne.mpr c51; obtain rfl := Option.some.inj H; have p613 : 0 ≤ (x23_2 : Int) := of_decide_eq_true uz; have q613 : x23_2 < (l0_1.length : Int) := of_decide_eq_true uz; obtain ⟨ad613, e613, hx613_0, hx613_1, hx613_2, hx613_3, hx613_4⟩ := at_T103 HR0_1.out x23_2 p613 q613
                          cases e613
                          replace hx613_0 := cz HB.out hx613_0; replace hx613_1 := cz HB.out hx613_1; replace hx613_2 := cz HB.out hx613_2; replace hx613_3 := cz HB.out hx613_3; replace hx613_4 := cz HB.out hx613_4; replace p613 := eq_true p613; replace q613 := eq_true q613
                          go_wp2_with (first | ((with_reducible refine gate_dst (N := 4) rfl ?_); (try (refine gate_guard (by rfl) ?_; dsimp only)); refine box_event ?hg (N := 4) ?hd (cs := #[.int .i64 0, .int .i64 0, .int .i64 0, .int .i64 0, .int .i64 0]) (t := 103) ?hr ?_; (case hd => rfl); (case hg => rfl); (case hr => first | (go_simp; done) | (go_simp; rfl)); intro gb614 hg w60 hbox hb; have n0_ := Aside0.mk (blk_below (g := gb612) (o := .cells #[.bool false, .slice (some ad613) l0_1.length c0_1] 54 (0, 0)) (kz BK612.out) hb); have n1_ := Aside0.mk (below_step (b1 GE612.out HB.out) hb); have n2_ := Aside0.mk (hbox); have n3_ := Aside0.mk ((by rw [hg]; exact (below_size (b1 GE612.out HB.out)) : w.heap.size ≤ gb614)); have n4_ := Aside0.mk ((by rw [hg]; exact (below_size (b1 GE612.out HB.out)) : w.heap.size ≤ gb614)); have n5_ := Aside0.mk ((by rw [hg]; exact Nat.ne_of_lt (blk_lt (g := gb612) (o := .cells #[.bool false, .slice (some ad613) l0_1.length c0_1] 54 (0, 0)) (kz BK612.out)) : gb612 ≠ gb614)); have n6_ := Aside0.mk ((by rw [hg]; exact Nat.ne_of_gt (blk_lt (g := gb612) (o := .cells #[.bool false, .slice (some ad613) l0_1.length c0_1] 54 (0, 0)) (kz BK612.out)) : gb614 ≠ gb612)); clear BK612; clear HB; have BK612 := n0_; have HB := n1_; have BK614 := n2_; have GW614 := n3_; have GE614 := n4_; have NB612_614 := n5_; have NB614_612 := n6_; clear n0_ n1_ n2_ n3_ n4_ n5_ n6_; clear hb hbox hg; have hnb61 := NB614_612.out; have hnc61 := NB612_614.out; have hcz62_0 := fz BK614.out 0 (.int .i64 0); have hcz62_1 := fz BK614.out 1 (.int .i64 0); have hcz62_2 := fz BK614.out 2 (.int .i64 0); have hcz62_3 := fz BK614.out 3 (.int .i64 0); have hcz62_4 := fz BK614.out 4 (.int .i64 0); have hfz62_0 := blk_frozen BK614.out 0; have hfz62_1 := blk_frozen BK614.out 1; have hfz62_2 := blk_frozen BK614.out 2; have hfz62_3 := blk_frozen BK614.out 3; have hfz62_4 := blk_frozen BK614.out 4; have hcz63_0 := fz BK612.out 0 (.bool false); have hcz63_1 := fz BK612.out 1 (.slice (some ad613) l0_1.length c0_1); have hfz63_0 := blk_frozen BK612.out 0; have hfz63_1 := blk_frozen BK612.out 1) | (go_at_call 88; (with_reducible refine (impl_in.calls ((rd_T103 l0_1 x23_2).f0) 0 47 true _ A46.out).mono ?_); rintro e w' ⟨rfl, ⟨nd, rfl⟩⟩) | (go_at_call 112; (with_reducible refine (impl_BoxOk.calls ((rd_T103 l0_1 x23_2).f1.f0) ((rd_T103 l0_1 x23_2).f1.f1) ((rd_T103 l0_1 x23_2).f1.f2) ((rd_T103 l0_1 x23_2).f1.f3) true _ A48.out).mono ?_); rintro e w64 ⟨rfl, hb⟩; have n0_ := Aside0.mk (blk_below (g := gb612) (o := .cells #[.bool false, .slice (some ad613) l0_1.length c0_1] 54 (0, 0)) (by (with_reducible repeat (first | refine blk_drewN ?_ _ | refine blk_drew ?_ | refine blk_alloc ?_ _)); refine blk_far ?_ NB612_614.out _; (with_reducible repeat (first | refine blk_drewN ?_ _ | refine blk_drew ?_ | refine blk_alloc ?_ _)); refine blk_far ?_ NB612_614.out _; (with_reducible repeat (first | refine blk_drewN ?_ _ | refine blk_drew ?_ | refine blk_alloc ?_ _)); refine blk_far ?_ NB612_614.out _; (with_reducible repeat (first | refine blk_drewN ?_ _ | refine blk_drew ?_ | refine blk_alloc ?_ _)); refine blk_far ?_ NB612_614.out _; (with_reducible repeat (first | refine blk_drewN ?_ _ | refine blk_drew ?_ | refine blk_alloc ?_ _)); refine blk_far ?_ NB612_614.out _; (with_reducible repeat (first | refine blk_drewN ?_ _ | refine blk_drew ?_ | refine blk_alloc ?_ _)); exact BK612.out) hb); have n1_ := Aside0.mk (blk_below (g := gb614) (o := .cells #[.int .i64 ((rd_T103 l0_1 x23_2).f0), .int .i64 ((rd_T103 l0_1 x23_2).f1.f0), .int .i64 ((rd_T103 l0_1 x23_2).f1.f1), .int .i64 ((rd_T103 l0_1 x23_2).f1.f2), .int .i64 ((rd_T103 l0_1 x23_2).f1.f3)] 103 (0, 0)) (by (with_reducible repeat (first | refine blk_drewN ?_ _ | refine blk_drew ?_ | refine blk_alloc ?_ _)); refine blk_put (cs := #[.int .i64 ((rd_T103 l0_1 x23_2).f0), .int .i64 ((rd_T103 l0_1 x23_2).f1.f0), .int .i64 ((rd_T103 l0_1 x23_2).f1.f1), .int .i64 ((rd_T103 l0_1 x23_2).f1.f2), .int .i64 0]) ?_ 4 _ rfl; (with_reducible repeat (first | refine blk_drewN ?_ _ | refine blk_drew ?_ | refine blk_alloc ?_ _)); refine blk_put (cs := #[.int .i64 ((rd_T103 l0_1 x23_2).f0), .int .i64 ((rd_T103 l0_1 x23_2).f1.f0), .int .i64 ((rd_T103 l0_1 x23_2).f1.f1), .int .i64 0, .int .i64 0]) ?_ 3 _ rfl; (with_reducible repeat (first | refine blk_drewN ?_ _ | refine blk_drew ?_ | refine blk_alloc ?_ _)); refine blk_put (cs := #[.int .i64 ((rd_T103 l0_1 x23_2).f0), .int .i64 ((rd_T103 l0_1 x23_2).f1.f0), .int .i64 0, .int .i64 0, .int .i64 0]) ?_ 2 _ rfl; (with_reducible repeat (first | refine blk_drewN ?_ _ | refine blk_drew ?_ | refine blk_alloc ?_ _)); refine blk_put (cs := #[.int .i64 ((rd_T103 l0_1 x23_2).f0), .int .i64 0, .int .i64 0, .int .i64 0, .int .i64 0]) ?_ 1 _ rfl; (with_reducible repeat (first | refine blk_drewN ?_ _ | refine blk_drew ?_ | refine blk_alloc ?_ _)); refine blk_put (cs := #[.int .i64 0, .int .i64 0, .int .i64 0, .int .i64 0, .int .i64 0]) ?_ 0 _ rfl; (with_reducible repeat (first | refine blk_drewN ?_ _ | refine blk_drew ?_ | refine blk_alloc ?_ _)); exact BK614.out) hb); have n2_ := Aside0.mk (below_step (b2 GE612.out GE614.out HB.out) hb); clear BK612; clear BK614; clear HB; have BK612 := n0_; have BK614 := n1_; have HB := n2_; clear n0_ n1_ n2_; (try clear hb); (try clear hb2); (try clear hk); (try clear hi); have hcz65_0 := fz BK612.out 0 (.bool false); have hcz65_1 := fz BK612.out 1 (.slice (some ad613) l0_1.length c0_1); have hfz65_0 := blk_frozen BK612.out 0; have hfz65_1 := blk_frozen BK612.out 1; have hcz66_0 : w64.cell? ⟨gb614, 0, none⟩ = some (.int .i64 ((rd_T103 l0_1 x23_2).f0)) := (blk_cell BK614.out 0).trans rfl; have hcz66_1 : w64.cell? ⟨gb614, 1, none⟩ = some (.int .i64 ((rd_T103 l0_1 x23_2).f1.f0)) := (blk_cell BK614.out 1).trans rfl; have hcz66_2 : w64.cell? ⟨gb614, 2, none⟩ = some (.int .i64 ((rd_T103 l0_1 x23_2).f1.f1)) := (blk_cell BK614.out 2).trans rfl; have hcz66_3 : w64.cell? ⟨gb614, 3, none⟩ = some (.int .i64 ((rd_T103 l0_1 x23_2).f1.f2)) := (blk_cell BK614.out 3).trans rfl; have hcz66_4 : w64.cell? ⟨gb614, 4, none⟩ = some (.int .i64 ((rd_T103 l0_1 x23_2).f1.f3)) := (blk_cell BK614.out 4).trans rfl; have hfz66_0 := blk_frozen BK614.out 0; have hfz66_1 := blk_frozen BK614.out 1; have hfz66_2 := blk_frozen BK614.out 2; have hfz66_3 := blk_frozen BK614.out 3; have hfz66_4 := blk_frozen BK614.out 4) | (go_at_call 103; (with_reducible refine (impl_EntryAt.calls k2 _ _ l0_1 ((rd_T103 l0_1 x23_2).f0) t620 _ ?side1 ?side2 A50.out).mono ?_); (case side1 => exact sz HR0_1.out HB.out); (case side2 => exact HC0_1.out); rintro e w67 ⟨rfl, hb⟩; have n0_ := Aside0.mk (blk_below (g := gb612) (o := .cells #[.bool false, .slice (some ad613) l0_1.length c0_1] 54 (0, 0)) (kz BK612.out) hb); have n1_ := Aside0.mk (blk_below (g := gb614) (o := .cells #[.int .i64 ((rd_T103 l0_1 x23_2).f0), .int .i64 ((rd_T103 l0_1 x23_2).f1.f0), .int .i64 ((rd_T103 l0_1 x23_2).f1.f1), .int .i64 ((rd_T103 l0_1 x23_2).f1.f2), .int .i64 ((rd_T103 l0_1 x23_2).f1.f3)] 103 (0, 0)) (kz BK614.out) hb); have n2_ := Aside0.mk (below_step (b2 GE612.out GE614.out HB.out) hb); clear BK612; clear BK614; clear HB; have BK612 := n0_; have BK614 := n1_; have HB := n2_; clear n0_ n1_ n2_; (try clear hb); (try clear hb2); (try clear hk); (try clear hi)))
                          go_ret; exact ⟨ez, b2 GE612.out GE614.out HB.out⟩
                      · replace c49 := Bool.eq_false_iff.mpr c49
                        subst c49; replace H : (some false) = some r := (by rw [if_neg (show ¬ (false = true) by decide)] at H; exact H); obtain rfl := Option.some.inj H; have p613 : 0 ≤ (x23_2 : Int) := of_decide_eq_true uz; have q613 : x23_2 < (l0_1.length : Int) := of_decide_eq_true uz; obtain ⟨ad613, e613, hx613_0, hx613_1, hx613_2, hx613_3, hx613_4⟩ := at_T103 HR0_1.out x23_2 p613 q613
                        cases e613
                        replace hx613_0 := cz HB.out hx613_0; replace hx613_1 := cz HB.out hx613_1; replace hx613_2 := cz HB.out hx613_2; replace hx613_3 := cz HB.out hx613_3; replace hx613_4 := cz HB.out hx613_4; replace p613 := eq_true p613; replace q613 := eq_true q613
                        go_wp2_with (first | ((with_reducible refine gate_dst (N := 4) rfl ?_); (try (refine gate_guard (by rfl) ?_; dsimp only)); refine box_event ?hg (N := 4) ?hd (cs := #[.int .i64 0, .int .i64 0, .int .i64 0, .int .i64 0, .int .i64 0]) (t := 103) ?hr ?_; (case hd => rfl); (case hg => rfl); (case hr => first | (go_simp; done) | (go_simp; rfl)); intro gb614 hg w68 hbox hb; have n0_ := Aside0.mk (blk_below (g := gb612) (o := .cells #[.bool false, .slice (some ad613) l0_1.length c0_1] 54 (0, 0)) (kz BK612.out) hb); have n1_ := Aside0.mk (below_step (b1 GE612.out HB.out) hb); have n2_ := Aside0.mk (hbox); have n3_ := Aside0.mk ((by rw [hg]; exact (below_size (b1 GE612.out HB.out)) : w.heap.size ≤ gb614)); have n4_ := Aside0.mk ((by rw [hg]; exact (below_size (b1 GE612.out HB.out)) : w.heap.size ≤ gb614)); have n5_ := Aside0.mk ((by rw [hg]; exact Nat.ne_of_lt (blk_lt (g := gb612) (o := .cells #[.bool false, .slice (some ad613) l0_1.length c0_1] 54 (0, 0)) (kz BK612.out)) : gb612 ≠ gb614)); have n6_ := Aside0.mk ((by rw [hg]; exact Nat.ne_of_gt (blk_lt (g := gb612) (o := .cells #[.bool false, .slice (some ad613) l0_1.length c0_1] 54 (0, 0)) (kz BK612.out)) : gb614 ≠ gb612)); clear BK612; clear HB; have BK612 := n0_; have HB := n1_; have BK614 := n2_; have GW614 := n3_; have GE614 := n4_; have NB612_614 := n5_; have NB614_612 := n6_; clear n0_ n1_ n2_ n3_ n4_ n5_ n6_; clear hb hbox hg; have hnb69 := NB614_612.out; have hnc69 := NB612_614.out; have hcz70_0 := fz BK614.out 0 (.int .i64 0); have hcz70_1 := fz BK614.out 1 (.int .i64 0); have hcz70_2 := fz BK614.out 2 (.int .i64 0); have hcz70_3 := fz BK614.out 3 (.int .i64 0); have hcz70_4 := fz BK614.out 4 (.int .i64 0); have hfz70_0 := blk_frozen BK614.out 0; have hfz70_1 := blk_frozen BK614.out 1; have hfz70_2 := blk_frozen BK614.out 2; have hfz70_3 := blk_frozen BK614.out 3; have hfz70_4 := blk_frozen BK614.out 4; have hcz71_0 := fz BK612.out 0 (.bool false); have hcz71_1 := fz BK612.out 1 (.slice (some ad613) l0_1.length c0_1); have hfz71_0 := blk_frozen BK612.out 0; have hfz71_1 := blk_frozen BK612.out 1) | (go_at_call 88; (with_reducible refine (impl_in.calls ((rd_T103 l0_1 x23_2).f0) 0 47 true _ A46.out).mono ?_); rintro e w' ⟨rfl, ⟨nd, rfl⟩⟩) | (go_at_call 112; (with_reducible refine (impl_BoxOk.calls ((rd_T103 l0_1 x23_2).f1.f0) ((rd_T103 l0_1 x23_2).f1.f1) ((rd_T103 l0_1 x23_2).f1.f2) ((rd_T103 l0_1 x23_2).f1.f3) false _ A48.out).mono ?_); rintro e w72 ⟨rfl, hb⟩; have n0_ := Aside0.mk (blk_below (g := gb612) (o := .cells #[.bool false, .slice (some ad613) l0_1.length c0_1] 54 (0, 0)) (by (with_reducible repeat (first | refine blk_drewN ?_ _ | refine blk_drew ?_ | refine blk_alloc ?_ _)); refine blk_far ?_ NB612_614.out _; (with_reducible repeat (first | refine blk_drewN ?_ _ | refine blk_drew ?_ | refine blk_alloc ?_ _)); refine blk_far ?_ NB612_614.out _; (with_reducible repeat (first | refine blk_drewN ?_ _ | refine blk_drew ?_ | refine blk_alloc ?_ _)); refine blk_far ?_ NB612_614.out _; (with_reducible repeat (first | refine blk_drewN ?_ _ | refine blk_drew ?_ | refine blk_alloc ?_ _)); refine blk_far ?_ NB612_614.out _; (with_reducible repeat (first | refine blk_drewN ?_ _ | refine blk_drew ?_ | refine blk_alloc ?_ _)); refine blk_far ?_ NB612_614.out _; (with_reducible repeat (first | refine blk_drewN ?_ _ | refine blk_drew ?_ | refine blk_alloc ?_ _)); exact BK612.out) hb); have n1_ := Aside0.mk (blk_below (g := gb614) (o := .cells #[.int .i64 ((rd_T103 l0_1 x23_2).f0), .int .i64 ((rd_T103 l0_1 x23_2).f1.f0), .int .i64 ((rd_T103 l0_1 x23_2).f1.f1), .int .i64 ((rd_T103 l0_1 x23_2).f1.f2), .int .i64 ((rd_T103 l0_1 x23_2).f1.f3)] 103 (0, 0)) (by (with_reducible repeat (first | refine blk_drewN ?_ _ | refine blk_drew ?_ | refine blk_alloc ?_ _)); refine blk_put (cs := #[.int .i64 ((rd_T103 l0_1 x23_2).f0), .int .i64 ((rd_T103 l0_1 x23_2).f1.f0), .int .i64 ((rd_T103 l0_1 x23_2).f1.f1), .int .i64 ((rd_T103 l0_1 x23_2).f1.f2), .int .i64 0]) ?_ 4 _ rfl; (with_reducible repeat (first | refine blk_drewN ?_ _ | refine blk_drew ?_ | refine blk_alloc ?_ _)); refine blk_put (cs := #[.int .i64 ((rd_T103 l0_1 x23_2).f0), .int .i64 ((rd_T103 l0_1 x23_2).f1.f0), .int .i64 ((rd_T103 l0_1 x23_2).f1.f1), .int .i64 0, .int .i64 0]) ?_ 3 _ rfl; (with_reducible repeat (first | refine blk_drewN ?_ _ | refine blk_drew ?_ | refine blk_alloc ?_ _)); refine blk_put (cs := #[.int .i64 ((rd_T103 l0_1 x23_2).f0), .int .i64 ((rd_T103 l0_1 x23_2).f1.f0), .int .i64 0, .int .i64 0, .int .i64 0]) ?_ 2 _ rfl; (with_reducible repeat (first | refine blk_drewN ?_ _ | refine blk_drew ?_ | refine blk_alloc ?_ _)); refine blk_put (cs := #[.int .i64 ((rd_T103 l0_1 x23_2).f0), .int .i64 0, .int .i64 0, .int .i64 0, .int .i64 0]) ?_ 1 _ rfl; (with_reducible repeat (first | refine blk_drewN ?_ _ | refine blk_drew ?_ | refine blk_alloc ?_ _)); refine blk_put (cs := #[.int .i64 0, .int .i64 0, .int .i64 0, .int .i64 0, .int .i64 0]) ?_ 0 _ rfl; (with_reducible repeat (first | refine blk_drewN ?_ _ | refine blk_drew ?_ | refine blk_alloc ?_ _)); exact BK614.out) hb); have n2_ := Aside0.mk (below_step (b2 GE612.out GE614.out HB.out) hb); clear BK612; clear BK614; clear HB; have BK612 := n0_; have BK614 := n1_; have HB := n2_; clear n0_ n1_ n2_; (try clear hb); (try clear hb2); (try clear hk); (try clear hi)))
                        go_ret; exact ⟨ez, b2 GE612.out GE614.out HB.out⟩
                    · replace c47 := Bool.eq_false_iff.mpr c47
                      subst c47; replace H : (some false) = some r := (by rw [if_neg (show ¬ (false = true) by decide)] at H; exact H); obtain rfl := Option.some.inj H; have p613 : 0 ≤ (x23_2 : Int) := of_decide_eq_true uz; have q613 : x23_2 < (l0_1.length : Int) := of_decide_eq_true uz; obtain ⟨ad613, e613, hx613_0, hx613_1, hx613_2, hx613_3, hx613_4⟩ := at_T103 HR0_1.out x23_2 p613 q613
                      cases e613
                      replace hx613_0 := cz HB.out hx613_0; replace hx613_1 := cz HB.out hx613_1; replace hx613_2 := cz HB.out hx613_2; replace hx613_3 := cz HB.out hx613_3; replace hx613_4 := cz HB.out hx613_4; replace p613 := eq_true p613; replace q613 := eq_true q613
                      go_wp2_with (first | ((with_reducible refine gate_dst (N := 4) rfl ?_); (try (refine gate_guard (by rfl) ?_; dsimp only)); refine box_event ?hg (N := 4) ?hd (cs := #[.int .i64 0, .int .i64 0, .int .i64 0, .int .i64 0, .int .i64 0]) (t := 103) ?hr ?_; (case hd => rfl); (case hg => rfl); (case hr => first | (go_simp; done) | (go_simp; rfl)); intro gb614 hg w73 hbox hb; have n0_ := Aside0.mk (blk_below (g := gb612) (o := .cells #[.bool false, .slice (some ad613) l0_1.length c0_1] 54 (0, 0)) (kz BK612.out) hb); have n1_ := Aside0.mk (below_step (b1 GE612.out HB.out) hb); have n2_ := Aside0.mk (hbox); have n3_ := Aside0.mk ((by rw [hg]; exact (below_size (b1 GE612.out HB.out)) : w.heap.size ≤ gb614)); have n4_ := Aside0.mk ((by rw [hg]; exact (below_size (b1 GE612.out HB.out)) : w.heap.size ≤ gb614)); have n5_ := Aside0.mk ((by rw [hg]; exact Nat.ne_of_lt (blk_lt (g := gb612) (o := .cells #[.bool false, .slice (some ad613) l0_1.length c0_1] 54 (0, 0)) (kz BK612.out)) : gb612 ≠ gb614)); have n6_ := Aside0.mk ((by rw [hg]; exact Nat.ne_of_gt (blk_lt (g := gb612) (o := .cells #[.bool false, .slice (some ad613) l0_1.length c0_1] 54 (0, 0)) (kz BK612.out)) : gb614 ≠ gb612)); clear BK612; clear HB; have BK612 := n0_; have HB := n1_; have BK614 := n2_; have GW614 := n3_; have GE614 := n4_; have NB612_614 := n5_; have NB614_612 := n6_; clear n0_ n1_ n2_ n3_ n4_ n5_ n6_; clear hb hbox hg; have hnb74 := NB614_612.out; have hnc74 := NB612_614.out; have hcz75_0 := fz BK614.out 0 (.int .i64 0); have hcz75_1 := fz BK614.out 1 (.int .i64 0); have hcz75_2 := fz BK614.out 2 (.int .i64 0); have hcz75_3 := fz BK614.out 3 (.int .i64 0); have hcz75_4 := fz BK614.out 4 (.int .i64 0); have hfz75_0 := blk_frozen BK614.out 0; have hfz75_1 := blk_frozen BK614.out 1; have hfz75_2 := blk_frozen BK614.out 2; have hfz75_3 := blk_frozen BK614.out 3; have hfz75_4 := blk_frozen BK614.out 4; have hcz76_0 := fz BK612.out 0 (.bool false); have hcz76_1 := fz BK612.out 1 (.slice (some ad613) l0_1.length c0_1); have hfz76_0 := blk_frozen BK612.out 0; have hfz76_1 := blk_frozen BK612.out 1) | (go_at_call 88; (with_reducible refine (impl_in.calls ((rd_T103 l0_1 x23_2).f0) 0 47 false _ A46.out).mono ?_); rintro e w' ⟨rfl, ⟨nd, rfl⟩⟩))
                      go_ret; exact ⟨ez, b2 GE612.out GE614.out HB.out⟩
                · rw [if_neg c13] at H
                  exact absurd H (by simp)
              · rw [if_neg c12] at H
                exact absurd H (by simp)
            · rw [if_neg c11] at H
              have c11b0 : decide (x23_2 < (l0_1.length : Int)) = false := decide_eq_false c11; clear c11; obtain rfl := Option.some.inj H; go_wp2; go_ret; exact ⟨ez, b1 GE612.out HB.out⟩

attribute [local go_sem] max2_int min2_int max_two min_two max_three min_three max_four min_four 
set_option linter.unusedVariables false
set_option linter.unusedSimpArgs false

theorem eqA32 (d : Nat) (w : World) (x0 y0 : Int) (x1 y1 : Int) (x2 y2 : Int) (x3 y3 : Int) :
    (Op.equalIn (d + 2) 32 (.agg #[.int .i64 x0, .int .i64 x1, .int .i64 x2, .int .i64 x3]) (.agg #[.int .i64 y0, .int .i64 y1, .int .i64 y2, .int .i64 y3])).run Try.prog w = .ok (x0 == y0 && (x1 == y1 && (x2 == y2 && (x3 == y3)))) w := by
  refine eqA_of Try.underlying32 (by kernel_rfl) ?_; refine eqf_cons (by rfl) (by go_simp; rfl) (by go_simp; rfl) (by go_simp) ?_; refine eqf_cons (by rfl) (by go_simp; rfl) (by go_simp; rfl) (by go_simp) ?_; refine eqf_cons (by rfl) (by go_simp; rfl) (by go_simp; rfl) (by go_simp) ?_; exact eqf_last (by rfl) (by go_simp; rfl) (by go_simp; rfl) (by go_simp)

attribute [local go_sem] max2_int min2_int max_two min_two max_three min_three max_four min_four 
set_option linter.unusedVariables false
set_option linter.unusedSimpArgs false

theorem eqA103 (d : Nat) (w : World) (x0 y0 : Int) (x1 y1 : Int) (x2 y2 : Int) (x3 y3 : Int) (x4 y4 : Int) :
    (Op.equalIn (d + 3) 103 (.agg #[.int .i64 x0, .int .i64 x1, .int .i64 x2, .int .i64 x3, .int .i64 x4]) (.agg #[.int .i64 y0, .int .i64 y1, .int .i64 y2, .int .i64 y3, .int .i64 y4])).run Try.prog w = .ok (x0 == y0 && ((x1 == y1 && (x2 == y2 && (x3 == y3 && (x4 == y4)))))) w := by
  refine eqA_of Try.underlying103 (by kernel_rfl) ?_; refine eqf_cons (by rfl) (by go_simp; rfl) (by go_simp; rfl) (by go_simp) ?_; exact eqf_last (by rfl) (by go_simp) (by go_simp) (eqA32 (d + 0) w _ _ _ _ _ _ _ _)

attribute [local go_sem] max2_int min2_int max_two min_two max_three min_three max_four min_four 
set_option linter.unusedVariables false
set_option linter.unusedSimpArgs false

attribute [local go_sem high] eqA103
/-! ### slices_Equal_Entry: function 126 -/
def slices_Equal_Entry.l0 : Nat → List (S103) → List (S103) → Int → Int → Option (Bool)
  | 0, _, _, _, _ => none
  | k + 1, x0, x1, x12, x13 => if x13 < x12 then (if 0 ≤ x13 then (if x13 < (x0.length : Int) then (if x13 < (x1.length : Int) then (if (!(((rd_T103 x0 x13).f0) == ((rd_T103 x1 x13).f0)) || ((!(((rd_T103 x0 x13).f1.f0) == ((rd_T103 x1 x13).f1.f0)) || (!(((rd_T103 x0 x13).f1.f1) == ((rd_T103 x1 x13).f1.f1)) || (!(((rd_T103 x0 x13).f1.f2) == ((rd_T103 x1 x13).f1.f2)) || (!(((rd_T103 x0 x13).f1.f3) == ((rd_T103 x1 x13).f1.f3)))))))) = true then (some false) else (slices_Equal_Entry.l0 k x0 x1 x12 (wrap64 (x13 + 1)))) else (none)) else (none)) else (none)) else (some true)
def slices_Equal_Entry.f (k : Nat) (l0 : List (S103)) (l1 : List (S103)) : Option (Bool) := if (l0.length : Int) = (l1.length : Int) then (slices_Equal_Entry.l0 k l0 l1 (l0.length : Int) 0) else (some false)
theorem slices_Equal_Entry.mono_l : ∀ k, (∀ y0 y1 y2 y3, LeO (slices_Equal_Entry.l0 k y0 y1 y2 y3) (slices_Equal_Entry.l0 (k + 1) y0 y1 y2 y3))
  | 0 => fun _ _ _ _ r h => by simp [slices_Equal_Entry.l0] at h
  | k + 1 => by
    have ih0 := slices_Equal_Entry.mono_l k
    · intro y0 y1 y2 y3
      unfold slices_Equal_Entry.l0
      repeat' first | (with_reducible first | exact ih0 _ _ _ _ | exact LeO.refl _ | exact LeO.none _ | refine LeO.ite ?_ ?_ | refine LeO.bind ?_ (fun _ => ?_)) | exact ih0 _ _ _ _ | exact LeO.none _ | refine LeO.ite ?_ ?_ | refine LeO.bind ?_ (fun _ => ?_)
theorem slices_Equal_Entry.mono : ∀ a0 a1 k, LeO (slices_Equal_Entry.f k a0 a1) (slices_Equal_Entry.f (k + 1) a0 a1) := by
  intro a0 a1 k
  have ih0 := slices_Equal_Entry.mono_l k; unfold slices_Equal_Entry.f
  repeat' first | (with_reducible first | exact ih0 _ _ _ _ | exact LeO.refl _ | exact LeO.none _ | refine LeO.ite ?_ ?_ | refine LeO.bind ?_ (fun _ => ?_)) | exact ih0 _ _ _ _ | exact LeO.none _ | refine LeO.ite ?_ ?_ | refine LeO.bind ?_ (fun _ => ?_)
set_option maxHeartbeats 8000000 in
set_option maxRecDepth 100000 in
theorem slices_Equal_Entry.calls (k : Nat) (A0 : Option Addr) (c0 : Nat) (l0 : List (S103)) (A1 : Option Addr) (c1 : Nat) (l1 : List (S103)) (r : Bool) (w : World) (hr0 : Kd.C k103 w A0 l0.length l0) (hc0 : l0.length ≤ c0) (hr1 : Kd.C k103 w A1 l1.length l1) (hc1 : l1.length ≤ c1) (h : slices_Equal_Entry.f k l0 l1 = some r) :
    Calls Try.prog 126 #[.slice A0 l0.length c0, .slice A1 l1.length c1] w fun e w' => e = .returned (.bool r) ∧ Drawn0 w w' := by
  have hu103 := Try.underlying103; have HR0 := Aside0.mk hr0; have HC0 := Aside0.mk hc0; clear hr0 hc0; have HR1 := Aside0.mk hr1; have HC1 := Aside0.mk hc1; clear hr1 hc1; have H : (if (l0.length : Int) = (l1.length : Int) then (slices_Equal_Entry.l0 k l0 l1 (l0.length : Int) 0) else (some false)) = some r := h; clear h
  by_cases c3 : (l0.length : Int) = (l1.length : Int)
  · rw [if_pos c3] at H
    have c3b0 : ((l0.length : Int) == (l1.length : Int)) = true := beq_iff_eq.mpr c3; have c3b1 : ((l0.length : Int) != (l1.length : Int)) = false := bne_eq_false_iff_eq.mpr c3
    have c3b2 : (l0.length == l1.length) = true := by first | simpa using c3 | (simp at c3 ⊢; omega)
    clear c3; have H' := Aside0.mk H; clear H
    go_enter Try.func126, Try.ntmps126
    go_wp2
    repeat (go_quiet (fail); try go_wp2)
    go_loopg [13] k (fun kq v13 w' => ∃ (x13_1 : Int), v13 = .int .i64 x13_1 ∧ Aside0 (slices_Equal_Entry.l0 kq l0 l1 (l0.length : Int) x13_1 = some r) ∧ Aside0 (kq ≤ k) ∧ Drawn0 w w')
    case atStart => exact ⟨(0), az, H', ⟨Nat.le_refl _⟩, by repeat (first | exact Drawn0.refl _ | apply Drawn0.step)⟩
    case round =>
      clear H'; (try clear c1); (try clear p2); (try clear c3); (try clear c3b0); (try clear c3b1); (try clear c3b2); obtain ⟨x13_1, rfl, HA, HK1, ⟨m1, rfl⟩⟩ := hrel
      cases gk with
      | zero => exact absurd HA.out (by simp [slices_Equal_Entry.l0])
      | succ k1 =>
        have H := HA.out; clear HA
        simp only [slices_Equal_Entry.l0] at H
        by_cases c4 : x13_1 < (l0.length : Int)
        · rw [if_pos c4] at H
          have c4b0 : decide (x13_1 < (l0.length : Int)) = true := decide_eq_true c4; clear c4
          by_cases c5 : 0 ≤ x13_1
          · rw [if_pos c5] at H
            have c5b0 : decide (0 ≤ x13_1) = true := decide_eq_true c5; clear c5
            by_cases c6 : x13_1 < (l0.length : Int)
            · rw [if_pos c6] at H
              have c6b0 : decide (x13_1 < (l0.length : Int)) = true := decide_eq_true c6; clear c6
              by_cases c7 : x13_1 < (l1.length : Int)
              · rw [if_pos c7] at H
                have c7b0 : decide (x13_1 < (l1.length : Int)) = true := decide_eq_true c7; clear c7
                by_cases c8 : (!(((rd_T103 l0 x13_1).f0) == ((rd_T103 l1 x13_1).f0)) || ((!(((rd_T103 l0 x13_1).f1.f0) == ((rd_T103 l1 x13_1).f1.f0)) || (!(((rd_T103 l0 x13_1).f1.f1) == ((rd_T103 l1 x13_1).f1.f1)) || (!(((rd_T103 l0 x13_1).f1.f2) == ((rd_T103 l1 x13_1).f1.f2)) || (!(((rd_T103 l0 x13_1).f1.f3) == ((rd_T103 l1 x13_1).f1.f3)))))))) = true
                · rw [if_pos c8] at H
                  have c8b0 : (!(((rd_T103 l0 x13_1).f0) == ((rd_T103 l1 x13_1).f0)) || ((!(((rd_T103 l0 x13_1).f1.f0) == ((rd_T103 l1 x13_1).f1.f0)) || (!(((rd_T103 l0 x13_1).f1.f1) == ((rd_T103 l1 x13_1).f1.f1)) || (!(((rd_T103 l0 x13_1).f1.f2) == ((rd_T103 l1 x13_1).f1.f2)) || (!(((rd_T103 l0 x13_1).f1.f3) == ((rd_T103 l1 x13_1).f1.f3)))))))) = true := c8; clear c8; obtain rfl := Option.some.inj H; have p621 : 0 ≤ (x13_1 : Int) := of_decide_eq_true uz; have q621 : x13_1 < (l0.length : Int) := of_decide_eq_true uz; obtain ⟨ad621, e621, hx621_0, hx621_1, hx621_2, hx621_3, hx621_4⟩ := at_T103 HR0.out x13_1 p621 q621
                  cases e621
                  replace p621 := eq_true p621; replace q621 := eq_true q621; have p622 : 0 ≤ (x13_1 : Int) := of_decide_eq_true uz; have q622 : x13_1 < (l1.length : Int) := of_decide_eq_true uz; obtain ⟨ad622, e622, hx622_0, hx622_1, hx622_2, hx622_3, hx622_4⟩ := at_T103 HR1.out x13_1 p622 q622
                  cases e622
                  replace p622 := eq_true p622; replace q622 := eq_true q622; go_wp2
                  repeat (go_quiet (fail); try go_wp2)
                  go_ret; exact ⟨by first | rfl | (simp; done) | (simp [*]; done), by repeat (first | exact Drawn0.refl _ | apply Drawn0.step)⟩
                · rw [if_neg c8] at H
                  have c8b0 : (!(((rd_T103 l0 x13_1).f0) == ((rd_T103 l1 x13_1).f0)) || ((!(((rd_T103 l0 x13_1).f1.f0) == ((rd_T103 l1 x13_1).f1.f0)) || (!(((rd_T103 l0 x13_1).f1.f1) == ((rd_T103 l1 x13_1).f1.f1)) || (!(((rd_T103 l0 x13_1).f1.f2) == ((rd_T103 l1 x13_1).f1.f2)) || (!(((rd_T103 l0 x13_1).f1.f3) == ((rd_T103 l1 x13_1).f1.f3)))))))) = false := by simpa using c8
                  clear c8; have H' := Aside0.mk H; clear H; have p621 : 0 ≤ (x13_1 : Int) := of_decide_eq_true uz; have q621 : x13_1 < (l0.length : Int) := of_decide_eq_true uz; obtain ⟨ad621, e621, hx621_0, hx621_1, hx621_2, hx621_3, hx621_4⟩ := at_T103 HR0.out x13_1 p621 q621
                  cases e621
                  replace p621 := eq_true p621; replace q621 := eq_true q621; have p622 : 0 ≤ (x13_1 : Int) := of_decide_eq_true uz; have q622 : x13_1 < (l1.length : Int) := of_decide_eq_true uz; obtain ⟨ad622, e622, hx622_0, hx622_1, hx622_2, hx622_3, hx622_4⟩ := at_T103 HR1.out x13_1 p622 q622
                  cases e622
                  replace p622 := eq_true p622; replace q622 := eq_true q622; go_wp2
                  repeat (go_quiet (fail); try go_wp2)
                  go_roundg k1
                  case measure => have := HK1.out; omega
                  case rel => exact ⟨(wrap64 (x13_1 + 1)), az, H', ⟨by have := HK1.out; omega⟩, by repeat (first | exact Drawn0.refl _ | apply Drawn0.step)⟩
              · rw [if_neg c7] at H
                exact absurd H (by simp)
            · rw [if_neg c6] at H
              exact absurd H (by simp)
          · rw [if_neg c5] at H
            exact absurd H (by simp)
        · rw [if_neg c4] at H
          have c4b0 : decide (x13_1 < (l0.length : Int)) = false := decide_eq_false c4; clear c4; obtain rfl := Option.some.inj H; go_wp2
          repeat (go_quiet (fail); try go_wp2)
          go_ret; exact ⟨by first | rfl | (simp; done) | (simp [*]; done), by repeat (first | exact Drawn0.refl _ | apply Drawn0.step)⟩
  · rw [if_neg c3] at H
    have c3b0 : ((l0.length : Int) == (l1.length : Int)) = false := beq_eq_false_iff_ne.mpr c3; have c3b1 : ((l0.length : Int) != (l1.length : Int)) = true := bne_iff_ne.mpr c3
    have c3b2 : (l0.length == l1.length) = false := by first | simpa using c3 | (simp at c3 ⊢; omega)
    obtain rfl := Option.some.inj H
    go_enter Try.func126, Try.ntmps126
    go_wp2
    repeat (go_quiet (fail); try go_wp2)
    go_ret; exact ⟨by first | rfl | (simp; done) | (simp [*]; done), by repeat (first | exact Drawn0.refl _ | apply Drawn0.step)⟩

attribute [local go_sem] max2_int min2_int max_two min_two max_three min_three max_four min_four 
set_option linter.unusedVariables false
set_option linter.unusedSimpArgs false

/-! ### impl_SameNode: function 91 -/
def impl_SameNode.f (k : Nat) (a0_0 : Bool) (l0_1 : List (S103)) (a1_0 : Bool) (l1_1 : List (S103)) : Option (Bool) := if (a0_0 == a1_0) = true then ((slices_Equal_Entry.f k l0_1 l1_1).bind fun t625 => (some t625)) else (some false)
theorem impl_SameNode.mono : ∀ a0 a1 a2 a3 k, LeO (impl_SameNode.f k a0 a1 a2 a3) (impl_SameNode.f (k + 1) a0 a1 a2 a3) := by
  intro a0 a1 a2 a3 k
  unfold impl_SameNode.f
  repeat' first | (with_reducible first | exact slices_Equal_Entry.mono _ _ _ | exact LeO.refl _ | exact LeO.none _ | refine LeO.ite ?_ ?_ | refine LeO.bind ?_ (fun _ => ?_)) | exact slices_Equal_Entry.mono _ _ _ | exact LeO.none _ | refine LeO.ite ?_ ?_ | refine LeO.bind ?_ (fun _ => ?_)
set_option maxHeartbeats 8000000 in
set_option maxRecDepth 100000 in
theorem impl_SameNode.calls (k : Nat) (a0_0 : Bool) (A0_1 : Option Addr) (c0_1 : Nat) (l0_1 : List (S103)) (a1_0 : Bool) (A1_1 : Option Addr) (c1_1 : Nat) (l1_1 : List (S103)) (r : Bool) (w : World) (hr0_1 : Kd.C k103 w A0_1 l0_1.length l0_1) (hc0_1 : l0_1.length ≤ c0_1) (hr1_1 : Kd.C k103 w A1_1 l1_1.length l1_1) (hc1_1 : l1_1.length ≤ c1_1) (h : impl_SameNode.f k a0_0 l0_1 a1_0 l1_1 = some r) :
    Calls Try.prog 91 #[.agg #[.bool a0_0, .slice A0_1 l0_1.length c0_1], .agg #[.bool a1_0, .slice A1_1 l1_1.length c1_1]] w fun e w' => e = .returned (.bool r) ∧ Below w.heap.size w w' := by
  have hu54 := Try.underlying54; have HR0_1 := Aside0.mk hr0_1; have HC0_1 := Aside0.mk hc0_1; clear hr0_1 hc0_1; have HR1_1 := Aside0.mk hr1_1; have HC1_1 := Aside0.mk hc1_1; clear hr1_1 hc1_1; have HB := Aside0.mk (Below.refl w.heap.size w); have H : (if (a0_0 == a1_0) = true then ((slices_Equal_Entry.f k l0_1 l1_1).bind fun t625 => (some t625)) else (some false)) = some r := h; clear h
  by_cases c3 : (a0_0 == a1_0) = true
  · rw [if_pos c3] at H
    have c3b0 : (a0_0 == a1_0) = true := c3
    (try (have c3b1 : decide (a0_0 = a1_0) = true := by simpa using c3))
    (try (have c3b2 : (a0_0 == a1_0) = true := by simpa using c3))
    clear c3; replace H := Option.bind_eq_some_iff.mp H; obtain ⟨t625, A40, H⟩ := H; replace H : (some t625) = some r := H; have A4 := Aside0.mk A40; clear A40; obtain rfl := Option.some.inj H
    go_enter Try.func91, Try.ntmps91
    go_wp2_with (first | ((with_reducible refine gate_dst (N := 2) rfl ?_); refine box_event ?hg (N := 2) ?hd (cs := #[.bool a0_0, .slice A0_1 l0_1.length c0_1]) (t := 54) ?hr ?_; (case hd => rfl); (case hg => rfl); (case hr => first | (go_simp; done) | (go_simp; rfl)); intro gb623 hg w5 hbox hb; have n0_ := Aside0.mk (below_step (bz HB.out) hb); have n1_ := Aside0.mk (hbox); have n2_ := Aside0.mk ((by rw [hg]; exact (below_size (bz HB.out)) : w.heap.size ≤ gb623)); have n3_ := Aside0.mk ((by rw [hg]; exact (below_size (bz HB.out)) : w.heap.size ≤ gb623)); clear HB; have HB := n0_; have BK623 := n1_; have GW623 := n2_; have GE623 := n3_; clear n0_ n1_ n2_ n3_; clear hb hbox hg) | ((with_reducible refine gate_dst (N := 3) rfl ?_); refine box_event ?hg (N := 3) ?hd (cs := #[.bool a1_0, .slice A1_1 l1_1.length c1_1]) (t := 54) ?hr ?_; (case hd => rfl); (case hg => rfl); (case hr => first | (go_simp; done) | (go_simp; rfl)); intro gb624 hg w6 hbox hb; have n0_ := Aside0.mk (blk_below (g := gb623) (o := .cells #[.bool a0_0, .slice A0_1 l0_1.length c0_1] 54 (0, 0)) (kz BK623.out) hb); have n1_ := Aside0.mk (below_step (b1 GE623.out HB.out) hb); have n2_ := Aside0.mk (hbox); have n3_ := Aside0.mk ((by rw [hg]; exact (below_size (b1 GE623.out HB.out)) : w.heap.size ≤ gb624)); have n4_ := Aside0.mk ((by rw [hg]; exact (below_size (b1 GE623.out HB.out)) : w.heap.size ≤ gb624)); have n5_ := Aside0.mk ((by rw [hg]; exact Nat.ne_of_lt (blk_lt (g := gb623) (o := .cells #[.bool a0_0, .slice A0_1 l0_1.length c0_1] 54 (0, 0)) (kz BK623.out)) : gb623 ≠ gb624)); have n6_ := Aside0.mk ((by rw [hg]; exact Nat.ne_of_gt (blk_lt (g := gb623) (o := .cells #[.bool a0_0, .slice A0_1 l0_1.length c0_1] 54 (0, 0)) (kz BK623.out)) : gb624 ≠ gb623)); clear BK623; clear HB; have BK623 := n0_; have HB := n1_; have BK624 := n2_; have GW624 := n3_; have GE624 := n4_; have NB623_624 := n5_; have NB624_623 := n6_; clear n0_ n1_ n2_ n3_ n4_ n5_ n6_; clear hb hbox hg; have hnb7 := NB623_624.out; have hnc7 := NB624_623.out; have hcz8_0 := fz BK623.out 0 (.bool a0_0); have hcz8_1 := fz BK623.out 1 (.slice A0_1 l0_1.length c0_1); have hfz8_0 := blk_frozen BK623.out 0; have hfz8_1 := blk_frozen BK623.out 1; have hcz9_0 := fz BK624.out 0 (.bool a1_0); have hcz9_1 := fz BK624.out 1 (.slice A1_1 l1_1.length c1_1); have hfz9_0 := blk_frozen BK624.out 0; have hfz9_1 := blk_frozen BK624.out 1) | (go_at_call 126; (with_reducible refine (slices_Equal_Entry.calls k _ _ l0_1 _ _ l1_1 t625 _ ?side1 ?side2 ?side3 ?side4 A4.out).mono ?_); (case side1 => exact sz HR0_1.out HB.out); (case side2 => exact HC0_1.out); (case side3 => exact sz HR1_1.out HB.out); (case side4 => exact HC1_1.out); rintro e w' ⟨rfl, ⟨nd, rfl⟩⟩))
    go_ret; exact ⟨ez, b2 GE623.out GE624.out HB.out⟩
  · rw [if_neg c3] at H
    have c3b0 : (a0_0 == a1_0) = false := by simpa using c3
    (try (have c3b1 : decide (a0_0 = a1_0) = false := by simpa using c3))
    (try (have c3b2 : (a0_0 == a1_0) = false := by simpa using c3))
    (try (have c3b3 : ¬ (a0_0 = a1_0) := by simpa using c3))
    clear c3; obtain rfl := Option.some.inj H
    go_enter Try.func91, Try.ntmps91
    go_wp2_with (first | ((with_reducible refine gate_dst (N := 2) rfl ?_); refine box_event ?hg (N := 2) ?hd (cs := #[.bool a0_0, .slice A0_1 l0_1.length c0_1]) (t := 54) ?hr ?_; (case hd => rfl); (case hg => rfl); (case hr => first | (go_simp; done) | (go_simp; rfl)); intro gb623 hg w10 hbox hb; have n0_ := Aside0.mk (below_step (bz HB.out) hb); have n1_ := Aside0.mk (hbox); have n2_ := Aside0.mk ((by rw [hg]; exact (below_size (bz HB.out)) : w.heap.size ≤ gb623)); have n3_ := Aside0.mk ((by rw [hg]; exact (below_size (bz HB.out)) : w.heap.size ≤ gb623)); clear HB; have HB := n0_; have BK623 := n1_; have GW623 := n2_; have GE623 := n3_; clear n0_ n1_ n2_ n3_; clear hb hbox hg) | ((with_reducible refine gate_dst (N := 3) rfl ?_); refine box_event ?hg (N := 3) ?hd (cs := #[.bool a1_0, .slice A1_1 l1_1.length c1_1]) (t := 54) ?hr ?_; (case hd => rfl); (case hg => rfl); (case hr => first | (go_simp; done) | (go_simp; rfl)); intro gb624 hg w11 hbox hb; have n0_ := Aside0.mk (blk_below (g := gb623) (o := .cells #[.bool a0_0, .slice A0_1 l0_1.length c0_1] 54 (0, 0)) (kz BK623.out) hb); have n1_ := Aside0.mk (below_step (b1 GE623.out HB.out) hb); have n2_ := Aside0.mk (hbox); have n3_ := Aside0.mk ((by rw [hg]; exact (below_size (b1 GE623.out HB.out)) : w.heap.size ≤ gb624)); have n4_ := Aside0.mk ((by rw [hg]; exact (below_size (b1 GE623.out HB.out)) : w.heap.size ≤ gb624)); have n5_ := Aside0.mk ((by rw [hg]; exact Nat.ne_of_lt (blk_lt (g := gb623) (o := .cells #[.bool a0_0, .slice A0_1 l0_1.length c0_1] 54 (0, 0)) (kz BK623.out)) : gb623 ≠ gb624)); have n6_ := Aside0.mk ((by rw [hg]; exact Nat.ne_of_gt (blk_lt (g := gb623) (o := .cells #[.bool a0_0, .slice A0_1 l0_1.length c0_1] 54 (0, 0)) (kz BK623.out)) : gb624 ≠ gb623)); clear BK623; clear HB; have BK623 := n0_; have HB := n1_; have BK624 := n2_; have GW624 := n3_; have GE624 := n4_; have NB623_624 := n5_; have NB624_623 := n6_; clear n0_ n1_ n2_ n3_ n4_ n5_ n6_; clear hb hbox hg; have hnb12 := NB623_624.out; have hnc12 := NB624_623.out; have hcz13_0 := fz BK623.out 0 (.bool a0_0); have hcz13_1 := fz BK623.out 1 (.slice A0_1 l0_1.length c0_1); have hfz13_0 := blk_frozen BK623.out 0; have hfz13_1 := blk_frozen BK623.out 1; have hcz14_0 := fz BK624.out 0 (.bool a1_0); have hcz14_1 := fz BK624.out 1 (.slice A1_1 l1_1.length c1_1); have hfz14_0 := blk_frozen BK624.out 0; have hfz14_1 := blk_frozen BK624.out 1))
    go_ret; exact ⟨ez, b2 GE623.out GE624.out HB.out⟩

attribute [local go_sem] max2_int min2_int max_two min_two max_three min_three max_four min_four 
set_option linter.unusedVariables false
set_option linter.unusedSimpArgs false

/-! ### impl_Reach: function 92 -/
def impl_Reach.f (k : Nat) (a0_0 : Int) (l0_1 : List (S90)) : Option (List Int) := (impl_reachFrom.f k a0_0 l0_1 a0_0).bind fun t627 => (some t627)
theorem impl_Reach.mono : ∀ a0 a1 k, LeO (impl_Reach.f k a0 a1) (impl_Reach.f (k + 1) a0 a1) := by
  intro a0 a1 k
  unfold impl_Reach.f
  repeat' first | (with_reducible first | exact impl_reachFrom.mono _ _ _ _ | exact LeO.refl _ | exact LeO.none _ | refine LeO.ite ?_ ?_ | refine LeO.bind ?_ (fun _ => ?_)) | exact impl_reachFrom.mono _ _ _ _ | exact LeO.none _ | refine LeO.ite ?_ ?_ | refine LeO.bind ?_ (fun _ => ?_)
set_option maxHeartbeats 8000000 in
set_option maxRecDepth 100000 in
theorem impl_Reach.calls (k : Nat) (a0_0 : Int) (A0_1 : Option Addr) (c0_1 : Nat) (l0_1 : List (S90)) (r : List Int) (w : World) (hr0_1 : Kd.C k90 w A0_1 l0_1.length l0_1) (hc0_1 : l0_1.length ≤ c0_1) (h : impl_Reach.f k a0_0 l0_1 = some r) :
    Calls Try.prog 92 #[.agg #[.int .i64 a0_0, .slice A0_1 l0_1.length c0_1]] w fun e w' => ∃ v0_ : Value, e = .returned (v0_) ∧ Kd.R (Kd.int .i64) 3 w' w.heap.size (fun _ => True) v0_ r ∧ Below w.heap.size w w' := by
  have hu49 := Try.underlying49; have HR0_1 := Aside0.mk hr0_1; have HC0_1 := Aside0.mk hc0_1; clear hr0_1 hc0_1; have HB := Aside0.mk (Below.refl w.heap.size w); have H : ((impl_reachFrom.f k a0_0 l0_1 a0_0).bind fun t627 => (some t627)) = some r := h; clear h; replace H := Option.bind_eq_some_iff.mp H; obtain ⟨t627, A20, H⟩ := H; replace H : (some t627) = some r := H; have A2 := Aside0.mk A20; clear A20; obtain rfl := Option.some.inj H
  go_enter Try.func92, Try.ntmps92
  go_wp2_with (first | ((with_reducible refine gate_dst (N := 1) rfl ?_); refine box_event ?hg (N := 1) ?hd (cs := #[.int .i64 a0_0, .slice A0_1 l0_1.length c0_1]) (t := 49) ?hr ?_; (case hd => rfl); (case hg => rfl); (case hr => first | (go_simp; done) | (go_simp; rfl)); intro gb626 hg w3 hbox hb; have n0_ := Aside0.mk (below_step (bz HB.out) hb); have n1_ := Aside0.mk (hbox); have n2_ := Aside0.mk ((by rw [hg]; exact (below_size (bz HB.out)) : w.heap.size ≤ gb626)); have n3_ := Aside0.mk ((by rw [hg]; exact (below_size (bz HB.out)) : w.heap.size ≤ gb626)); clear HB; have HB := n0_; have BK626 := n1_; have GW626 := n2_; have GE626 := n3_; clear n0_ n1_ n2_ n3_; clear hb hbox hg; have hcz4_0 := fz BK626.out 0 (.int .i64 a0_0); have hcz4_1 := fz BK626.out 1 (.slice A0_1 l0_1.length c0_1); have hfz4_0 := blk_frozen BK626.out 0; have hfz4_1 := blk_frozen BK626.out 1) | ((with_reducible refine gate_callee (f := 127) rfl ?_); refine goesL_ (some 6) rfl rfl Try.func127 (by kernel_rfl) rfl #[.agg #[.int .i64 a0_0, .slice A0_1 l0_1.length c0_1], .int .i64 a0_0] rfl dz ?_; (with_reducible refine (impl_reachFrom.calls k a0_0 _ _ l0_1 a0_0 t627 _ ?side1 ?side2 A2.out).mono ?_); (case side1 => exact sz HR0_1.out HB.out); (case side2 => exact HC0_1.out); rintro e w5 ⟨v628, rfl, ho0, hb⟩; refine ⟨_, rfl, ?_⟩; have n0_ := Aside0.mk (Kd.R_lower ho0 (below_size (b1 GE626.out HB.out))); have n1_ := Aside0.mk (blk_below (g := gb626) (o := .cells #[.int .i64 a0_0, .slice A0_1 l0_1.length c0_1] 49 (0, 0)) (kz BK626.out) hb); have n2_ := Aside0.mk (below_step (b1 GE626.out HB.out) hb); clear BK626; clear HB; have HO629 := n0_; have BK626 := n1_; have HB := n2_; clear n0_ n1_ n2_; (try clear hb); (try clear hb2); (try clear hk); (try clear hi); (try clear ho0)))
  go_ret; exact ⟨_, by first | rfl | (simp [errW_none, errW_some] <;> rfl) | (simp [*, errW_none, errW_some] <;> rfl), by (with_reducible repeat (first | apply Kd.R_alloc | apply Kd.R_drewN | apply Kd.R_drew)); exact HO629.out, b1 GE626.out HB.out⟩

end Go.Proofs.Ytngjaajcdbodeaa.All

/- The program's BookOk comes to a plain test over the pages and over the pages that are reached. No condition. -/
namespace Go.Proofs.Ytngjaajcdbodeaa.All
open Go.RowKit Go.Proofs.YtngjaajcdbodeaaW.PrintWords Go.Proofs.YtngjaajcdbodeaaW.PrintLast Go.Proofs.YtngjaajcdbodeaaW.PrintMore Go.Proofs.Ytngjaajcdbodeaa.Sq
set_option linter.unusedVariables false
set_option linter.unusedSimpArgs false


/-! ### impl_BookOk: by hand -/
/-- The pages, from x on, each by itself. -/
def bokP : Nat → List S90 → Int → Option Bool
  | 0, _, _ => none
  | k + 1, ps, x => if x < (ps.length : Int) then (if 0 ≤ x then (if (rd_T90 ps x).f0 = true then ((impl_NodeOk.f k (rd_T90 ps x).f1.f0 (rd_T90 ps x).f1.f1).bind fun t => if t = true then bokP k ps (wrap64 (x + 1)) else some false) else ((impl_SameNode.f k (rd_T90 ps x).f1.f0 (rd_T90 ps x).f1.f1 false []).bind fun t => if t = true then bokP k ps (wrap64 (x + 1)) else some false)) else none) else some true
/-- A page's entries, from y on, behind those that were told; none inside: told twice, or not there. -/
def bokE : Nat → List S90 → List S103 → List Int → Int → Option (Option (List Int))
  | 0, _, _, _, _ => none
  | k + 1, ps, es, told, y => if y < (es.length : Int) then (if 0 ≤ y then (if told.length < 17592186044415 then (if pgOk ps (rd_T103 es y).f0 then (if (rd_T103 es y).f0 ∈ told then some none else bokE k ps es (told ++ [(rd_T103 es y).f0]) (wrap64 (y + 1))) else some none) else none) else none) else some (some told)
/-- The pages that are reached, from x on. -/
def bokR : Nat → List S90 → List Int → List Int → Int → Option Bool
  | 0, _, _, _, _ => none
  | k + 1, ps, r, told, x => if x < (r.length : Int) then (if 0 ≤ x then (if 0 ≤ rd r x then (if rd r x < (ps.length : Int) then (if (rd_T90 ps (rd r x)).f1.f0 = true then bokR k ps r told (wrap64 (x + 1)) else ((bokE k ps (rd_T90 ps (rd r x)).f1.f1 told 0).bind fun o => match o with | none => some false | some t => bokR k ps r t (wrap64 (x + 1)))) else none) else none) else none) else some true
def impl_BookOk.f (k : Nat) (a0_0 : Int) (l0_1 : List S90) : Option Bool := if 1 ≤ (l0_1.length : Int) ∧ (l0_1.length : Int) ≤ 48 then (if pgOk l0_1 a0_0 then ((bokP k l0_1 0).bind fun b => if b = true then ((impl_Reach.f k a0_0 l0_1).bind fun r => bokR k l0_1 r [a0_0] 0) else some false) else some false) else some false
theorem bokP_mono : ∀ k ps x, LeO (bokP k ps x) (bokP (k + 1) ps x)
  | 0, _, _ => fun r h => by simp [bokP] at h
  | k + 1, ps, x => by
    have ih := bokP_mono k; rw [bokP, bokP]; exact LeO.ite (LeO.ite (LeO.ite (LeO.bind (impl_NodeOk.mono _ _ _) (fun _ => LeO.ite (ih _ _) (LeO.refl _))) (LeO.bind (impl_SameNode.mono _ _ _ _ _) (fun _ => LeO.ite (ih _ _) (LeO.refl _)))) (LeO.refl _)) (LeO.refl _)
theorem bokE_mono : ∀ k ps es t y, LeO (bokE k ps es t y) (bokE (k + 1) ps es t y)
  | 0, _, _, _, _ => fun r h => by simp [bokE] at h
  | k + 1, ps, es, t, y => by
    have ih := bokE_mono k; rw [bokE, bokE]; exact LeO.ite (LeO.ite (LeO.ite (LeO.ite (LeO.ite (LeO.refl _) (ih _ _ _ _)) (LeO.refl _)) (LeO.refl _)) (LeO.refl _)) (LeO.refl _)
theorem bokR_mono : ∀ k ps r t x, LeO (bokR k ps r t x) (bokR (k + 1) ps r t x)
  | 0, _, _, _, _ => fun r h => by simp [bokR] at h
  | k + 1, ps, r, t, x => by
    have ih := bokR_mono k; rw [bokR, bokR]; refine LeO.ite (LeO.ite (LeO.ite (LeO.ite (LeO.ite (ih _ _ _ _) (LeO.bind (bokE_mono _ _ _ _ _) (fun o => ?_))) (LeO.refl _)) (LeO.refl _)) (LeO.refl _)) (LeO.refl _)
    cases o with
    | none => exact LeO.refl _
    | some t => exact ih _ _ _ _
theorem impl_BookOk.mono : ∀ a0 a1 k, LeO (impl_BookOk.f k a0 a1) (impl_BookOk.f (k + 1) a0 a1) := fun a0 a1 k => by
  unfold impl_BookOk.f; exact LeO.ite (LeO.ite (LeO.bind (bokP_mono _ _ _) (fun _ => LeO.ite (LeO.bind (impl_Reach.mono _ _ _) (fun _ => bokR_mono _ _ _ _ _)) (LeO.refl _))) (LeO.refl _)) (LeO.refl _)
theorem in_f (a b c : Int) : impl_in.f a b c = some (decide (b ≤ a ∧ a ≤ c)) := by
  unfold impl_in.f
  split <;> simp_all
  omega
theorem gate_ins {P : Program} {ops : Array Oper} {rest : List Oper} {o : Oper} {a : Act} {Q : Exit → Act → World → Prop} {W : World} {t : TypeId} {m k v : Operand} (_ho : o.op = .insert t m k v) (h : wpList P ops Q (o :: rest) a W) : wpList P ops Q (o :: rest) a W := h
theorem wpList_insert_own {H : Type} {P : Program} (w : World) {ops : Array Oper} {rest : List Oper} {o : Oper} {a : Act} {Q : Exit → Act → World → Prop}
    (hg : o.guard = none) (m x v : Operand) (t : TypeId) (hop : o.op = Op.insert t m x v)
    (k e : TypeId) (K : Go.Maps.Keyed P k) (ht : P.underlying t = some (.map k e)) (R : Value → Option (DataW H × List MemPlace)) (b n : Nat) (D : DataW H)
    (hm : a.eval m = .map (some b)) (hown : w.ownsMap P k R b n D) (hn : n < maxLen) (key val : Value) (kl : Lit) (hx : a.eval x = key) (hv : a.eval v = val) (hkey : keyOf P k key = some kl)
    (d : DataW H) (ps : List MemPlace) (hval : R val = some (d, ps))
    (hK : ∀ w', w'.ownsMap P k R b (n + 1) (D.put kl d) → w.grownBy w' (some b) → wpList P ops Q rest (a.put o.dst undef) w') :
    wpList P ops Q (o :: rest) a w := by
  refine wpList_plain hg fun K' hK' => ?_
  obtain ⟨w', hrun, r1, r2⟩ := hown.update K ht hn hkey hval; unfold Oper.wp
  simp [execOp, hop, hm, hx, hv, hrun, Result.andThen]
  exact hK' _ _ (hK w' r1 r2)
theorem wf_page {ps : List S90} {i : Int} (hl : ps.length ≤ 9223372036854775807) (h : pgOk ps i) : (Lit.int .i64 i).wf = true := by
  have h2 := h.1; have h3 := h.2.1; unfold Lit.wf; rw [Bool.and_eq_true, decide_eq_true_eq, decide_eq_true_eq]
  have e1 : IntKind.i64.min = -9223372036854775808 := by decide
  have e2 : IntKind.i64.max = 9223372036854775807 := by decide
  rw [e1, e2]
  omega
theorem R_mapped {α : Type} {d : Kd α} {e base : Nat} {ok : Nat → Prop} {w w' : World} {v : Value} {xs : List α} {bm : Nat} {out : List Int} (h : Kd.R d e w base ok v xs) (hm : MetOk w bm out) (hg : w.grownBy w' (some bm)) : Kd.R d e w' base ok v xs := by
  obtain ⟨es, clock, hmm⟩ := hm.isMap; refine Kd.R_mono (Kd.R_step (Kd.R_bound h) (fun k hk hlt => hg.block k hlt ?_)) (fun _ hk => hk.1); obtain ⟨_, _, _, q, hq, cells, hc⟩ := hk; exact cells_ne_map hc hmm
theorem blk_mapped {w w' : World} {g bm : Nat} {cs : Array Value} {t : TypeId} {out : List Int} (h : w.heap[g]? = some (.cells cs t (0, 0))) (hm : MetOk w bm out) (hg : w.grownBy w' (some bm)) : w'.heap[g]? = some (.cells cs t (0, 0)) := by
  obtain ⟨es, clock, hmm⟩ := hm.isMap; exact blk_grown h hg (cells_ne_map h hmm)
theorem below_mapped {w0 w w' : World} {bm : Nat} (h : Below w0.heap.size w0 w) (hg : w.grownBy w' (some bm)) (hb : w0.heap.size ≤ bm) : Below w0.heap.size w0 w' := h.grown hg h.size (fun k hk => by injection hk with hk; rw [← hk]; exact hb)

set_option maxHeartbeats 8000000 in
set_option maxRecDepth 100000 in
theorem impl_BookOk.calls (k : Nat) (a0_0 : Int) (A0_1 : Option Addr) (c0_1 : Nat) (l0_1 : List (S90)) (r : Bool) (w : World) (hr0_1 : Kd.C k90 w A0_1 l0_1.length l0_1) (hc0_1 : l0_1.length ≤ c0_1) (h : impl_BookOk.f k a0_0 l0_1 = some r) :
    Calls Try.prog 42 #[.agg #[.int .i64 a0_0, .slice A0_1 l0_1.length c0_1]] w fun e w' => e = .returned (.bool r) ∧ Below w.heap.size w w' := by
  have HR := Aside0.mk hr0_1; have HC := Aside0.mk hc0_1; have HMAX := Aside0.mk (show l0_1.length ≤ 9223372036854775807 from hr0_1.2.1); clear hr0_1 hc0_1; have HB := Aside0.mk (Below.refl w.heap.size w); have hu1 := Try.underlying90; have hu2 := Try.underlying49; have hu3 := Try.underlying54; have hu4 := Try.underlying103; have HIN := Aside0.mk (in_f (l0_1.length : Int) 1 48); unfold impl_BookOk.f at h
  by_cases c1 : 1 ≤ (l0_1.length : Int) ∧ (l0_1.length : Int) ≤ 48
  rotate_left
  · rw [if_neg c1] at h
    obtain rfl := Option.some.inj h; rw [decide_eq_false c1] at HIN; clear h c1
    go_enter Try.func42, Try.ntmps42
    go_wp2_with (first
      | ((with_reducible refine gate_dst (N := 1) rfl ?_); refine box_event ?hg (N := 1) ?hd (cs := #[.int .i64 a0_0, .slice A0_1 l0_1.length c0_1]) (t := 49) ?hr ?_; (case hd => rfl); (case hg => rfl); (case hr => first | (go_simp; done) | (go_simp; rfl)); intro g1 hg w1 hbox hb; have nHB_ := Aside0.mk (below_step HB.out hb); clear HB; have HB := nHB_; clear nHB_; have BK1 := Aside0.mk hbox; clear hb hg hbox; have hk1_0 : w1.cell? ⟨g1, 0, none⟩ = some (.int .i64 a0_0) := (blk_cell BK1.out 0).trans rfl; have hk1_1 : w1.cell? ⟨g1, 1, none⟩ = some (.slice A0_1 l0_1.length c0_1) := (blk_cell BK1.out 1).trans rfl)
      | ((with_reducible refine gate_dst (N := 13) rfl ?_); refine goesL_ (some 13) rfl rfl Try.func88 (by kernel_rfl) rfl #[.int .i64 (l0_1.length : Int), .int .i64 1, .int .i64 48] rfl dz ?_; refine (impl_in.calls (l0_1.length : Int) 1 48 false _ HIN.out).mono ?_; rintro e w2 ⟨rfl, hd⟩; refine ⟨_, rfl, ?_⟩; have hb := Drawn0.below hd; clear hd hk1_0 hk1_1; have nHB_ := Aside0.mk (below_step HB.out hb); have nBK1_ := Aside0.mk (blk_below BK1.out hb); clear HB BK1; have HB := nHB_; have BK1 := nBK1_; clear nHB_ nBK1_; clear hb; have hk1_0 : w2.cell? ⟨g1, 0, none⟩ = some (.int .i64 a0_0) := (blk_cell BK1.out 0).trans rfl; have hk1_1 : w2.cell? ⟨g1, 1, none⟩ = some (.slice A0_1 l0_1.length c0_1) := (blk_cell BK1.out 1).trans rfl))
    go_ret; exact ⟨rfl, HB.out⟩
  rw [if_pos c1] at h; rw [decide_eq_true c1] at HIN; have LN48 := Aside0.mk c1.2; clear c1
  by_cases c2 : pgOk l0_1 a0_0
  rotate_left
  · rw [if_neg c2] at h
    obtain rfl := Option.some.inj h; have HU := Aside0.mk ((used_f a0_0 l0_1 a0_0).trans (congrArg some (decide_eq_false c2))); clear h c2
    go_enter Try.func42, Try.ntmps42
    go_wp2_with (first
      | ((with_reducible refine gate_dst (N := 1) rfl ?_); refine box_event ?hg (N := 1) ?hd (cs := #[.int .i64 a0_0, .slice A0_1 l0_1.length c0_1]) (t := 49) ?hr ?_; (case hd => rfl); (case hg => rfl); (case hr => first | (go_simp; done) | (go_simp; rfl)); intro g1 hg w1 hbox hb; have nHB_ := Aside0.mk (below_step HB.out hb); clear HB; have HB := nHB_; clear nHB_; have BK1 := Aside0.mk hbox; clear hb hg hbox; have hk1_0 : w1.cell? ⟨g1, 0, none⟩ = some (.int .i64 a0_0) := (blk_cell BK1.out 0).trans rfl; have hk1_1 : w1.cell? ⟨g1, 1, none⟩ = some (.slice A0_1 l0_1.length c0_1) := (blk_cell BK1.out 1).trans rfl)
      | ((with_reducible refine gate_dst (N := 13) rfl ?_); refine goesL_ (some 13) rfl rfl Try.func88 (by kernel_rfl) rfl #[.int .i64 (l0_1.length : Int), .int .i64 1, .int .i64 48] rfl dz ?_; refine (impl_in.calls (l0_1.length : Int) 1 48 true _ HIN.out).mono ?_; rintro e w2 ⟨rfl, hd⟩; refine ⟨_, rfl, ?_⟩; have hb := Drawn0.below hd; clear hd hk1_0 hk1_1; have nHB_ := Aside0.mk (below_step HB.out hb); have nBK1_ := Aside0.mk (blk_below BK1.out hb); clear HB BK1; have HB := nHB_; have BK1 := nBK1_; clear nHB_ nBK1_; clear hb; have hk1_0 : w2.cell? ⟨g1, 0, none⟩ = some (.int .i64 a0_0) := (blk_cell BK1.out 0).trans rfl; have hk1_1 : w2.cell? ⟨g1, 1, none⟩ = some (.slice A0_1 l0_1.length c0_1) := (blk_cell BK1.out 1).trans rfl)
      | ((with_reducible refine gate_dst (N := 19) rfl ?_); (try (refine gate_guard (by rfl) ?_; dsimp only)); refine goesL_ (some 19) rfl rfl Try.func89 (by kernel_rfl) rfl #[.agg #[.int .i64 a0_0, .slice A0_1 l0_1.length c0_1], .int .i64 a0_0] rfl dz ?_; refine (impl_used.calls a0_0 _ _ l0_1 a0_0 false _ (Kd.C_below HR.out HB.out) HC.out HU.out).mono ?_; rintro e w3 ⟨rfl, hb⟩; refine ⟨_, rfl, ?_⟩; clear hk1_0 hk1_1; have nHB_ := Aside0.mk (below_step HB.out hb); have nBK1_ := Aside0.mk (blk_below BK1.out hb); clear HB BK1; have HB := nHB_; have BK1 := nBK1_; clear nHB_ nBK1_; clear hb; have hk1_0 : w3.cell? ⟨g1, 0, none⟩ = some (.int .i64 a0_0) := (blk_cell BK1.out 0).trans rfl; have hk1_1 : w3.cell? ⟨g1, 1, none⟩ = some (.slice A0_1 l0_1.length c0_1) := (blk_cell BK1.out 1).trans rfl))
    go_ret; exact ⟨rfl, HB.out⟩
  rw [if_pos c2] at h; have HU := Aside0.mk ((used_f a0_0 l0_1 a0_0).trans (congrArg some (decide_eq_true c2))); have WFR := Aside0.mk (wf_page HMAX.out c2); clear c2; obtain ⟨b, hb0, h⟩ := Option.bind_eq_some_iff.mp h; have H' := Aside0.mk hb0; have HREST := Aside0.mk h; clear h hb0
  go_enter Try.func42, Try.ntmps42
  go_wp2_with (first
    | ((with_reducible refine gate_dst (N := 1) rfl ?_); refine box_event ?hg (N := 1) ?hd (cs := #[.int .i64 a0_0, .slice A0_1 l0_1.length c0_1]) (t := 49) ?hr ?_; (case hd => rfl); (case hg => rfl); (case hr => first | (go_simp; done) | (go_simp; rfl)); intro g1 hg w1 hbox hb; have nHB_ := Aside0.mk (below_step HB.out hb); clear HB; have HB := nHB_; clear nHB_; have BK1 := Aside0.mk hbox; clear hb hg hbox; have hk1_0 : w1.cell? ⟨g1, 0, none⟩ = some (.int .i64 a0_0) := (blk_cell BK1.out 0).trans rfl; have hk1_1 : w1.cell? ⟨g1, 1, none⟩ = some (.slice A0_1 l0_1.length c0_1) := (blk_cell BK1.out 1).trans rfl)
    | ((with_reducible refine gate_dst (N := 13) rfl ?_); refine goesL_ (some 13) rfl rfl Try.func88 (by kernel_rfl) rfl #[.int .i64 (l0_1.length : Int), .int .i64 1, .int .i64 48] rfl dz ?_; refine (impl_in.calls (l0_1.length : Int) 1 48 true _ HIN.out).mono ?_; rintro e w2 ⟨rfl, hd⟩; refine ⟨_, rfl, ?_⟩; have hb := Drawn0.below hd; clear hd hk1_0 hk1_1; have nHB_ := Aside0.mk (below_step HB.out hb); have nBK1_ := Aside0.mk (blk_below BK1.out hb); clear HB BK1; have HB := nHB_; have BK1 := nBK1_; clear nHB_ nBK1_; clear hb; have hk1_0 : w2.cell? ⟨g1, 0, none⟩ = some (.int .i64 a0_0) := (blk_cell BK1.out 0).trans rfl; have hk1_1 : w2.cell? ⟨g1, 1, none⟩ = some (.slice A0_1 l0_1.length c0_1) := (blk_cell BK1.out 1).trans rfl)
    | ((with_reducible refine gate_dst (N := 19) rfl ?_); (try (refine gate_guard (by rfl) ?_; dsimp only)); refine goesL_ (some 19) rfl rfl Try.func89 (by kernel_rfl) rfl #[.agg #[.int .i64 a0_0, .slice A0_1 l0_1.length c0_1], .int .i64 a0_0] rfl dz ?_; refine (impl_used.calls a0_0 _ _ l0_1 a0_0 true _ (Kd.C_below HR.out HB.out) HC.out HU.out).mono ?_; rintro e w3 ⟨rfl, hb⟩; refine ⟨_, rfl, ?_⟩; clear hk1_0 hk1_1; have nHB_ := Aside0.mk (below_step HB.out hb); have nBK1_ := Aside0.mk (blk_below BK1.out hb); clear HB BK1; have HB := nHB_; have BK1 := nBK1_; clear nHB_ nBK1_; clear hb; have hk1_0 : w3.cell? ⟨g1, 0, none⟩ = some (.int .i64 a0_0) := (blk_cell BK1.out 0).trans rfl; have hk1_1 : w3.cell? ⟨g1, 1, none⟩ = some (.slice A0_1 l0_1.length c0_1) := (blk_cell BK1.out 1).trans rfl))
  go_loopg [25] k (fun kq v25 w' => ∃ (x : Int), v25 = .int .i64 x ∧ Aside0 (bokP kq l0_1 x = some b) ∧ Aside0 (kq ≤ k) ∧ Aside0 (w'.heap[g1]? = some (.cells #[.int .i64 a0_0, .slice A0_1 l0_1.length c0_1] 49 (0, 0))) ∧ Aside0 (Below w.heap.size w w'))
  case atStart => exact ⟨0, rfl, H', ⟨Nat.le_refl _⟩, BK1, HB⟩
  case round =>
    clear H' BK1 HB hk1_0 hk1_1; obtain ⟨x, rfl, HA, HK1, BK1, HB⟩ := hrel; have hk1_0 : wr.cell? ⟨g1, 0, none⟩ = some (.int .i64 a0_0) := (blk_cell BK1.out 0).trans rfl; have hk1_1 : wr.cell? ⟨g1, 1, none⟩ = some (.slice A0_1 l0_1.length c0_1) := (blk_cell BK1.out 1).trans rfl
    cases gk with
    | zero => exact absurd HA.out (by simp [bokP])
    | succ k1 =>
      have H := HA.out; clear HA; rw [bokP] at H
      by_cases c1 : x < (l0_1.length : Int)
      · rw [if_pos c1] at H
        have c1b : decide (x < (l0_1.length : Int)) = true := decide_eq_true c1
        by_cases c2 : 0 ≤ x
        rotate_left
        · rw [if_neg c2] at H
          exact absurd H (by simp)
        rw [if_pos c2] at H; obtain ⟨ad, A2, c2_, e2, hz0, hz1, hz2, hl2, hC2⟩ := at_T90 HR.out x c2 c1; subst e2; replace hz0 := cz HB.out hz0; replace hz1 := cz HB.out hz1; replace hz2 := cz HB.out hz2; have HC2 := Aside0.mk hC2; have HL2 := Aside0.mk hl2; clear hC2 hl2
        generalize rd_T90 l0_1 x = pg at H hz0 hz1 hz2 HC2 HL2
        obtain ⟨u, lf, es⟩ := pg
        dsimp only at H hz0 hz1 hz2 HC2 HL2
        cases u with
        | true =>
          rw [if_pos rfl] at H; obtain ⟨t, hq, H⟩ := Option.bind_eq_some_iff.mp H; have HQ := Aside0.mk hq; clear hq
          cases t with
          | true =>
            rw [if_pos rfl] at H; have H' := Aside0.mk H; clear H
            go_wp2_with (first
              | ((with_reducible refine gate_dst (N := 4) rfl ?_); refine box_event ?hg (N := 4) ?hd (cs := #[.bool false, .bool false, .slice none 0 0]) (t := 90) ?hr ?_; (case hd => rfl); (case hg => rfl); (case hr => first | (go_simp; done) | (go_simp; rfl)); intro g4 hg w4 hbox hb; have hs4_0 : w4.cell? ⟨g4, 0, none⟩ = some (.bool false) := (blk_cell hbox 0).trans rfl; have hf4_0 := blk_frozen hbox 0; have hs4_1 : w4.cell? ⟨g4, 1, none⟩ = some (.bool false) := (blk_cell hbox 1).trans rfl; have hf4_1 := blk_frozen hbox 1; have hs4_2 : w4.cell? ⟨g4, 2, none⟩ = some (.slice none 0 0) := (blk_cell hbox 2).trans rfl; have hf4_2 := blk_frozen hbox 2; have HG4 := Aside0.mk hg; have HX4 := Aside0.mk hbox; have HW4 := Aside0.mk hb; clear hg hbox hb)
              | ((with_reducible refine gate_store (t := 90) (p := 4) rfl ?_); refine store_event (t := 90) (p := 4) (v := ?vo4truetrue) (w1 := (((w4.setCell ⟨g4, 0, none⟩ (.bool true)).setCell ⟨g4, 1, none⟩ (.bool lf)).setCell ⟨g4, 2, none⟩ (.slice A2 es.length c2_))) ?hg ?ho ?hn ?hr ?_; (case ho => rfl); (case hg => rfl); (case hn => rfl); (case hr => first | (go_simp; done) | (go_simp; rfl)); intro w5 hw; have hb : Below wr.heap.size wr w5 := (by rw [hw]; exact (below_set (below_set (below_set HW4.out (Nat.le_of_eq HG4.out.symm)) (Nat.le_of_eq HG4.out.symm)) (Nat.le_of_eq HG4.out.symm))); have hbox : w5.heap[g4]? = some (.cells #[.bool true, .bool lf, .slice A2 es.length c2_] 90 (0, 0)) := (by rw [hw]; exact (blk_put (cs' := #[.bool true, .bool lf, .slice A2 es.length c2_]) (blk_put (cs' := #[.bool true, .bool lf, .slice none 0 0]) (blk_put (cs' := #[.bool true, .bool false, .slice none 0 0]) HX4.out 0 (.bool true) rfl) 1 (.bool lf) rfl) 2 (.slice A2 es.length c2_) rfl)); clear hw HG4 HX4 HW4 hs4_0 hf4_0 hs4_1 hf4_1 hs4_2 hf4_2; clear hk1_0 hk1_1 hz0 hz1 hz2; have nHB_ := Aside0.mk (below_step HB.out hb); have nBK1_ := Aside0.mk (blk_below BK1.out hb); clear HB BK1; have HB := nHB_; have BK1 := nBK1_; clear nHB_ nBK1_; have BK4 := Aside0.mk hbox; clear hb hbox; have hk1_0 : w5.cell? ⟨g1, 0, none⟩ = some (.int .i64 a0_0) := (blk_cell BK1.out 0).trans rfl; have hk1_1 : w5.cell? ⟨g1, 1, none⟩ = some (.slice (some ad) l0_1.length c0_1) := (blk_cell BK1.out 1).trans rfl; have hk4_0 : w5.cell? ⟨g4, 0, none⟩ = some (.bool true) := (blk_cell BK4.out 0).trans rfl; have hk4_1 : w5.cell? ⟨g4, 1, none⟩ = some (.bool lf) := (blk_cell BK4.out 1).trans rfl; have hk4_2 : w5.cell? ⟨g4, 2, none⟩ = some (.slice A2 es.length c2_) := (blk_cell BK4.out 2).trans rfl)
              | ((with_reducible refine gate_dst (N := 34) rfl ?_); (try (refine gate_guard (by rfl) ?_; dsimp only)); refine goesL_ (some 34) rfl rfl Try.func90 (by kernel_rfl) rfl #[.agg #[.bool lf, .slice A2 es.length c2_]] rfl dz ?_; refine (impl_NodeOk.calls k1 lf _ _ es true _ (Kd.C_below HC2.out HB.out) HL2.out HQ.out).mono ?_; rintro e w6 ⟨rfl, hb⟩; refine ⟨_, rfl, ?_⟩; clear hk1_0 hk1_1 hk4_0 hk4_1 hk4_2; have nHB_ := Aside0.mk (below_step HB.out hb); have nBK1_ := Aside0.mk (blk_below BK1.out hb); have nBK4_ := Aside0.mk (blk_below BK4.out hb); clear HB BK1 BK4; have HB := nHB_; have BK1 := nBK1_; have BK4 := nBK4_; clear nHB_ nBK1_ nBK4_; clear hb; have hk1_0 : w6.cell? ⟨g1, 0, none⟩ = some (.int .i64 a0_0) := (blk_cell BK1.out 0).trans rfl; have hk1_1 : w6.cell? ⟨g1, 1, none⟩ = some (.slice (some ad) l0_1.length c0_1) := (blk_cell BK1.out 1).trans rfl; have hk4_0 : w6.cell? ⟨g4, 0, none⟩ = some (.bool true) := (blk_cell BK4.out 0).trans rfl; have hk4_1 : w6.cell? ⟨g4, 1, none⟩ = some (.bool lf) := (blk_cell BK4.out 1).trans rfl; have hk4_2 : w6.cell? ⟨g4, 2, none⟩ = some (.slice A2 es.length c2_) := (blk_cell BK4.out 2).trans rfl))
            go_roundg k1
            case measure => have := HK1.out; omega
            case rel => exact ⟨_, rfl, H', ⟨by have := HK1.out; omega⟩, BK1, HB⟩
          | false =>
            rw [if_neg (by decide)] at H; obtain rfl := Option.some.inj H; have HREST2 := HREST.out; rw [if_neg (by decide)] at HREST2; obtain rfl := Option.some.inj HREST2; clear HREST2 H
            go_wp2_with (first
              | ((with_reducible refine gate_dst (N := 4) rfl ?_); refine box_event ?hg (N := 4) ?hd (cs := #[.bool false, .bool false, .slice none 0 0]) (t := 90) ?hr ?_; (case hd => rfl); (case hg => rfl); (case hr => first | (go_simp; done) | (go_simp; rfl)); intro g4 hg w4 hbox hb; have hs4_0 : w4.cell? ⟨g4, 0, none⟩ = some (.bool false) := (blk_cell hbox 0).trans rfl; have hf4_0 := blk_frozen hbox 0; have hs4_1 : w4.cell? ⟨g4, 1, none⟩ = some (.bool false) := (blk_cell hbox 1).trans rfl; have hf4_1 := blk_frozen hbox 1; have hs4_2 : w4.cell? ⟨g4, 2, none⟩ = some (.slice none 0 0) := (blk_cell hbox 2).trans rfl; have hf4_2 := blk_frozen hbox 2; have HG4 := Aside0.mk hg; have HX4 := Aside0.mk hbox; have HW4 := Aside0.mk hb; clear hg hbox hb)
              | ((with_reducible refine gate_store (t := 90) (p := 4) rfl ?_); refine store_event (t := 90) (p := 4) (v := ?vo4truefalse) (w1 := (((w4.setCell ⟨g4, 0, none⟩ (.bool true)).setCell ⟨g4, 1, none⟩ (.bool lf)).setCell ⟨g4, 2, none⟩ (.slice A2 es.length c2_))) ?hg ?ho ?hn ?hr ?_; (case ho => rfl); (case hg => rfl); (case hn => rfl); (case hr => first | (go_simp; done) | (go_simp; rfl)); intro w5 hw; have hb : Below wr.heap.size wr w5 := (by rw [hw]; exact (below_set (below_set (below_set HW4.out (Nat.le_of_eq HG4.out.symm)) (Nat.le_of_eq HG4.out.symm)) (Nat.le_of_eq HG4.out.symm))); have hbox : w5.heap[g4]? = some (.cells #[.bool true, .bool lf, .slice A2 es.length c2_] 90 (0, 0)) := (by rw [hw]; exact (blk_put (cs' := #[.bool true, .bool lf, .slice A2 es.length c2_]) (blk_put (cs' := #[.bool true, .bool lf, .slice none 0 0]) (blk_put (cs' := #[.bool true, .bool false, .slice none 0 0]) HX4.out 0 (.bool true) rfl) 1 (.bool lf) rfl) 2 (.slice A2 es.length c2_) rfl)); clear hw HG4 HX4 HW4 hs4_0 hf4_0 hs4_1 hf4_1 hs4_2 hf4_2; clear hk1_0 hk1_1 hz0 hz1 hz2; have nHB_ := Aside0.mk (below_step HB.out hb); have nBK1_ := Aside0.mk (blk_below BK1.out hb); clear HB BK1; have HB := nHB_; have BK1 := nBK1_; clear nHB_ nBK1_; have BK4 := Aside0.mk hbox; clear hb hbox; have hk1_0 : w5.cell? ⟨g1, 0, none⟩ = some (.int .i64 a0_0) := (blk_cell BK1.out 0).trans rfl; have hk1_1 : w5.cell? ⟨g1, 1, none⟩ = some (.slice (some ad) l0_1.length c0_1) := (blk_cell BK1.out 1).trans rfl; have hk4_0 : w5.cell? ⟨g4, 0, none⟩ = some (.bool true) := (blk_cell BK4.out 0).trans rfl; have hk4_1 : w5.cell? ⟨g4, 1, none⟩ = some (.bool lf) := (blk_cell BK4.out 1).trans rfl; have hk4_2 : w5.cell? ⟨g4, 2, none⟩ = some (.slice A2 es.length c2_) := (blk_cell BK4.out 2).trans rfl)
              | ((with_reducible refine gate_dst (N := 34) rfl ?_); (try (refine gate_guard (by rfl) ?_; dsimp only)); refine goesL_ (some 34) rfl rfl Try.func90 (by kernel_rfl) rfl #[.agg #[.bool lf, .slice A2 es.length c2_]] rfl dz ?_; refine (impl_NodeOk.calls k1 lf _ _ es false _ (Kd.C_below HC2.out HB.out) HL2.out HQ.out).mono ?_; rintro e w6 ⟨rfl, hb⟩; refine ⟨_, rfl, ?_⟩; clear hk1_0 hk1_1 hk4_0 hk4_1 hk4_2; have nHB_ := Aside0.mk (below_step HB.out hb); have nBK1_ := Aside0.mk (blk_below BK1.out hb); have nBK4_ := Aside0.mk (blk_below BK4.out hb); clear HB BK1 BK4; have HB := nHB_; have BK1 := nBK1_; have BK4 := nBK4_; clear nHB_ nBK1_ nBK4_; clear hb; have hk1_0 : w6.cell? ⟨g1, 0, none⟩ = some (.int .i64 a0_0) := (blk_cell BK1.out 0).trans rfl; have hk1_1 : w6.cell? ⟨g1, 1, none⟩ = some (.slice (some ad) l0_1.length c0_1) := (blk_cell BK1.out 1).trans rfl; have hk4_0 : w6.cell? ⟨g4, 0, none⟩ = some (.bool true) := (blk_cell BK4.out 0).trans rfl; have hk4_1 : w6.cell? ⟨g4, 1, none⟩ = some (.bool lf) := (blk_cell BK4.out 1).trans rfl; have hk4_2 : w6.cell? ⟨g4, 2, none⟩ = some (.slice A2 es.length c2_) := (blk_cell BK4.out 2).trans rfl))
            go_ret; exact ⟨rfl, HB.out⟩
        | false =>
          rw [if_neg (by decide)] at H; obtain ⟨t, hq, H⟩ := Option.bind_eq_some_iff.mp H; have HQ := Aside0.mk hq; clear hq
          cases t with
          | true =>
            rw [if_pos rfl] at H; have H' := Aside0.mk H; clear H
            go_wp2_with (first
              | ((with_reducible refine gate_dst (N := 4) rfl ?_); refine box_event ?hg (N := 4) ?hd (cs := #[.bool false, .bool false, .slice none 0 0]) (t := 90) ?hr ?_; (case hd => rfl); (case hg => rfl); (case hr => first | (go_simp; done) | (go_simp; rfl)); intro g4 hg w4 hbox hb; have hs4_0 : w4.cell? ⟨g4, 0, none⟩ = some (.bool false) := (blk_cell hbox 0).trans rfl; have hf4_0 := blk_frozen hbox 0; have hs4_1 : w4.cell? ⟨g4, 1, none⟩ = some (.bool false) := (blk_cell hbox 1).trans rfl; have hf4_1 := blk_frozen hbox 1; have hs4_2 : w4.cell? ⟨g4, 2, none⟩ = some (.slice none 0 0) := (blk_cell hbox 2).trans rfl; have hf4_2 := blk_frozen hbox 2; have HG4 := Aside0.mk hg; have HX4 := Aside0.mk hbox; have HW4 := Aside0.mk hb; clear hg hbox hb)
              | ((with_reducible refine gate_store (t := 90) (p := 4) rfl ?_); refine store_event (t := 90) (p := 4) (v := ?vo4falsetrue) (w1 := (((w4.setCell ⟨g4, 0, none⟩ (.bool false)).setCell ⟨g4, 1, none⟩ (.bool lf)).setCell ⟨g4, 2, none⟩ (.slice A2 es.length c2_))) ?hg ?ho ?hn ?hr ?_; (case ho => rfl); (case hg => rfl); (case hn => rfl); (case hr => first | (go_simp; done) | (go_simp; rfl)); intro w5 hw; have hb : Below wr.heap.size wr w5 := (by rw [hw]; exact (below_set (below_set (below_set HW4.out (Nat.le_of_eq HG4.out.symm)) (Nat.le_of_eq HG4.out.symm)) (Nat.le_of_eq HG4.out.symm))); have hbox : w5.heap[g4]? = some (.cells #[.bool false, .bool lf, .slice A2 es.length c2_] 90 (0, 0)) := (by rw [hw]; exact (blk_put (cs' := #[.bool false, .bool lf, .slice A2 es.length c2_]) (blk_put (cs' := #[.bool false, .bool lf, .slice none 0 0]) (blk_put (cs' := #[.bool false, .bool false, .slice none 0 0]) HX4.out 0 (.bool false) rfl) 1 (.bool lf) rfl) 2 (.slice A2 es.length c2_) rfl)); clear hw HG4 HX4 HW4 hs4_0 hf4_0 hs4_1 hf4_1 hs4_2 hf4_2; clear hk1_0 hk1_1 hz0 hz1 hz2; have nHB_ := Aside0.mk (below_step HB.out hb); have nBK1_ := Aside0.mk (blk_below BK1.out hb); clear HB BK1; have HB := nHB_; have BK1 := nBK1_; clear nHB_ nBK1_; have BK4 := Aside0.mk hbox; clear hb hbox; have hk1_0 : w5.cell? ⟨g1, 0, none⟩ = some (.int .i64 a0_0) := (blk_cell BK1.out 0).trans rfl; have hk1_1 : w5.cell? ⟨g1, 1, none⟩ = some (.slice (some ad) l0_1.length c0_1) := (blk_cell BK1.out 1).trans rfl; have hk4_0 : w5.cell? ⟨g4, 0, none⟩ = some (.bool false) := (blk_cell BK4.out 0).trans rfl; have hk4_1 : w5.cell? ⟨g4, 1, none⟩ = some (.bool lf) := (blk_cell BK4.out 1).trans rfl; have hk4_2 : w5.cell? ⟨g4, 2, none⟩ = some (.slice A2 es.length c2_) := (blk_cell BK4.out 2).trans rfl)
              | ((with_reducible refine gate_dst (N := 45) rfl ?_); (try (refine gate_guard (by rfl) ?_; dsimp only)); refine goesL_ (some 45) rfl rfl Try.func91 (by kernel_rfl) rfl #[.agg #[.bool lf, .slice A2 es.length c2_], .agg #[.bool false, .slice none 0 0]] rfl dz ?_; refine (impl_SameNode.calls k1 lf _ _ es false _ _ [] true _ (Kd.C_below HC2.out HB.out) HL2.out (Kd.C_nil _ _) (Nat.le_refl _) HQ.out).mono ?_; rintro e w6 ⟨rfl, hb⟩; refine ⟨_, rfl, ?_⟩; clear hk1_0 hk1_1 hk4_0 hk4_1 hk4_2; have nHB_ := Aside0.mk (below_step HB.out hb); have nBK1_ := Aside0.mk (blk_below BK1.out hb); have nBK4_ := Aside0.mk (blk_below BK4.out hb); clear HB BK1 BK4; have HB := nHB_; have BK1 := nBK1_; have BK4 := nBK4_; clear nHB_ nBK1_ nBK4_; clear hb; have hk1_0 : w6.cell? ⟨g1, 0, none⟩ = some (.int .i64 a0_0) := (blk_cell BK1.out 0).trans rfl; have hk1_1 : w6.cell? ⟨g1, 1, none⟩ = some (.slice (some ad) l0_1.length c0_1) := (blk_cell BK1.out 1).trans rfl; have hk4_0 : w6.cell? ⟨g4, 0, none⟩ = some (.bool false) := (blk_cell BK4.out 0).trans rfl; have hk4_1 : w6.cell? ⟨g4, 1, none⟩ = some (.bool lf) := (blk_cell BK4.out 1).trans rfl; have hk4_2 : w6.cell? ⟨g4, 2, none⟩ = some (.slice A2 es.length c2_) := (blk_cell BK4.out 2).trans rfl))
            go_roundg k1
            case measure => have := HK1.out; omega
            case rel => exact ⟨_, rfl, H', ⟨by have := HK1.out; omega⟩, BK1, HB⟩
          | false =>
            rw [if_neg (by decide)] at H; obtain rfl := Option.some.inj H; have HREST2 := HREST.out; rw [if_neg (by decide)] at HREST2; obtain rfl := Option.some.inj HREST2; clear HREST2 H
            go_wp2_with (first
              | ((with_reducible refine gate_dst (N := 4) rfl ?_); refine box_event ?hg (N := 4) ?hd (cs := #[.bool false, .bool false, .slice none 0 0]) (t := 90) ?hr ?_; (case hd => rfl); (case hg => rfl); (case hr => first | (go_simp; done) | (go_simp; rfl)); intro g4 hg w4 hbox hb; have hs4_0 : w4.cell? ⟨g4, 0, none⟩ = some (.bool false) := (blk_cell hbox 0).trans rfl; have hf4_0 := blk_frozen hbox 0; have hs4_1 : w4.cell? ⟨g4, 1, none⟩ = some (.bool false) := (blk_cell hbox 1).trans rfl; have hf4_1 := blk_frozen hbox 1; have hs4_2 : w4.cell? ⟨g4, 2, none⟩ = some (.slice none 0 0) := (blk_cell hbox 2).trans rfl; have hf4_2 := blk_frozen hbox 2; have HG4 := Aside0.mk hg; have HX4 := Aside0.mk hbox; have HW4 := Aside0.mk hb; clear hg hbox hb)
              | ((with_reducible refine gate_store (t := 90) (p := 4) rfl ?_); refine store_event (t := 90) (p := 4) (v := ?vo4falsefalse) (w1 := (((w4.setCell ⟨g4, 0, none⟩ (.bool false)).setCell ⟨g4, 1, none⟩ (.bool lf)).setCell ⟨g4, 2, none⟩ (.slice A2 es.length c2_))) ?hg ?ho ?hn ?hr ?_; (case ho => rfl); (case hg => rfl); (case hn => rfl); (case hr => first | (go_simp; done) | (go_simp; rfl)); intro w5 hw; have hb : Below wr.heap.size wr w5 := (by rw [hw]; exact (below_set (below_set (below_set HW4.out (Nat.le_of_eq HG4.out.symm)) (Nat.le_of_eq HG4.out.symm)) (Nat.le_of_eq HG4.out.symm))); have hbox : w5.heap[g4]? = some (.cells #[.bool false, .bool lf, .slice A2 es.length c2_] 90 (0, 0)) := (by rw [hw]; exact (blk_put (cs' := #[.bool false, .bool lf, .slice A2 es.length c2_]) (blk_put (cs' := #[.bool false, .bool lf, .slice none 0 0]) (blk_put (cs' := #[.bool false, .bool false, .slice none 0 0]) HX4.out 0 (.bool false) rfl) 1 (.bool lf) rfl) 2 (.slice A2 es.length c2_) rfl)); clear hw HG4 HX4 HW4 hs4_0 hf4_0 hs4_1 hf4_1 hs4_2 hf4_2; clear hk1_0 hk1_1 hz0 hz1 hz2; have nHB_ := Aside0.mk (below_step HB.out hb); have nBK1_ := Aside0.mk (blk_below BK1.out hb); clear HB BK1; have HB := nHB_; have BK1 := nBK1_; clear nHB_ nBK1_; have BK4 := Aside0.mk hbox; clear hb hbox; have hk1_0 : w5.cell? ⟨g1, 0, none⟩ = some (.int .i64 a0_0) := (blk_cell BK1.out 0).trans rfl; have hk1_1 : w5.cell? ⟨g1, 1, none⟩ = some (.slice (some ad) l0_1.length c0_1) := (blk_cell BK1.out 1).trans rfl; have hk4_0 : w5.cell? ⟨g4, 0, none⟩ = some (.bool false) := (blk_cell BK4.out 0).trans rfl; have hk4_1 : w5.cell? ⟨g4, 1, none⟩ = some (.bool lf) := (blk_cell BK4.out 1).trans rfl; have hk4_2 : w5.cell? ⟨g4, 2, none⟩ = some (.slice A2 es.length c2_) := (blk_cell BK4.out 2).trans rfl)
              | ((with_reducible refine gate_dst (N := 45) rfl ?_); (try (refine gate_guard (by rfl) ?_; dsimp only)); refine goesL_ (some 45) rfl rfl Try.func91 (by kernel_rfl) rfl #[.agg #[.bool lf, .slice A2 es.length c2_], .agg #[.bool false, .slice none 0 0]] rfl dz ?_; refine (impl_SameNode.calls k1 lf _ _ es false _ _ [] false _ (Kd.C_below HC2.out HB.out) HL2.out (Kd.C_nil _ _) (Nat.le_refl _) HQ.out).mono ?_; rintro e w6 ⟨rfl, hb⟩; refine ⟨_, rfl, ?_⟩; clear hk1_0 hk1_1 hk4_0 hk4_1 hk4_2; have nHB_ := Aside0.mk (below_step HB.out hb); have nBK1_ := Aside0.mk (blk_below BK1.out hb); have nBK4_ := Aside0.mk (blk_below BK4.out hb); clear HB BK1 BK4; have HB := nHB_; have BK1 := nBK1_; have BK4 := nBK4_; clear nHB_ nBK1_ nBK4_; clear hb; have hk1_0 : w6.cell? ⟨g1, 0, none⟩ = some (.int .i64 a0_0) := (blk_cell BK1.out 0).trans rfl; have hk1_1 : w6.cell? ⟨g1, 1, none⟩ = some (.slice (some ad) l0_1.length c0_1) := (blk_cell BK1.out 1).trans rfl; have hk4_0 : w6.cell? ⟨g4, 0, none⟩ = some (.bool false) := (blk_cell BK4.out 0).trans rfl; have hk4_1 : w6.cell? ⟨g4, 1, none⟩ = some (.bool lf) := (blk_cell BK4.out 1).trans rfl; have hk4_2 : w6.cell? ⟨g4, 2, none⟩ = some (.slice A2 es.length c2_) := (blk_cell BK4.out 2).trans rfl))
            go_ret; exact ⟨rfl, HB.out⟩
      · rw [if_neg c1] at H
        have c1b : decide (x < (l0_1.length : Int)) = false := decide_eq_false c1; clear c1; obtain rfl := Option.some.inj H; have HREST2 := HREST.out; rw [if_pos rfl] at HREST2; obtain ⟨rs, hrs, HREST2⟩ := Option.bind_eq_some_iff.mp HREST2; have HRS := Aside0.mk hrs; have HT0 := Aside0.mk HREST2; clear hrs HREST2 H
        go_wp2_with (first
          | ((with_reducible refine gate_dst (N := 50) rfl ?_); refine map_event rfl (N := 50) rfl rfl ?_; intro bm hg w7 hmet hb; have GE := Aside0.mk (by rw [hg]; exact HB.out.size : w.heap.size ≤ bm); clear hk1_0 hk1_1; have nHB_ := Aside0.mk (below_step HB.out hb); have nBK1_ := Aside0.mk (blk_below BK1.out hb); clear HB BK1; have HB := nHB_; have BK1 := nBK1_; clear nHB_ nBK1_; have MET := Aside0.mk hmet; clear hb hg hmet; obtain ⟨nm, Dm, hnm, him, hom, hcm⟩ := MET.out; have HNM := Aside0.mk hnm; have HIM := Aside0.mk him; have HOM := Aside0.mk hom; have HCM := Aside0.mk hcm; clear hnm him hom hcm; have hk1_0 : w7.cell? ⟨g1, 0, none⟩ = some (.int .i64 a0_0) := (blk_cell BK1.out 0).trans rfl; have hk1_1 : w7.cell? ⟨g1, 1, none⟩ = some (.slice A0_1 l0_1.length c0_1) := (blk_cell BK1.out 1).trans rfl)
          | ((with_reducible refine gate_ins rfl ?_); refine wpList_insert_own _ rfl _ _ _ 104 rfl 3 3 (Go.Maps.int_keyed Try.underlying3) Try.underlying104 _ bm nm Dm rfl HOM.out (by have := HNM.out; simp only [List.length_nil] at this; unfold maxLen; omega) _ _ (.int .i64 a0_0) rfl rfl (Go.Maps.keyOf_int_mk Try.underlying3 WFR.out) (.lit (.int .i64 1)) [] (plainElem_int Try.underlying3 (by decide)) ?_; intro w8 hown hg; have hmet2 : MetOk w8 bm ([] ++ [a0_0]) := MetOk.put HNM.out HIM.out hown HCM.out; rw [List.nil_append] at hmet2; have nBK1_ := Aside0.mk (blk_mapped BK1.out MET.out hg); have nHB_ := Aside0.mk (below_mapped HB.out hg GE.out); clear hk1_0 hk1_1 BK1 HB MET hown hg HNM HIM HOM HCM; have BK1 := nBK1_; have HB := nHB_; have MET := Aside0.mk hmet2; clear nBK1_ nHB_ hmet2; have hk1_0 : w8.cell? ⟨g1, 0, none⟩ = some (.int .i64 a0_0) := (blk_cell BK1.out 0).trans rfl; have hk1_1 : w8.cell? ⟨g1, 1, none⟩ = some (.slice A0_1 l0_1.length c0_1) := (blk_cell BK1.out 1).trans rfl)
          | ((with_reducible refine gate_dst (N := 55) rfl ?_); refine goesL_ (some 55) rfl rfl Try.func92 (by kernel_rfl) rfl #[.agg #[.int .i64 a0_0, .slice A0_1 l0_1.length c0_1]] rfl dz ?_; refine (impl_Reach.calls k a0_0 _ _ l0_1 rs _ (Kd.C_below HR.out HB.out) HC.out HRS.out).mono ?_; rintro e w9 ⟨v55, rfl, ho, hb⟩; refine ⟨_, rfl, ?_⟩; have hle := HB.out.size; clear hk1_0 hk1_1; have nHB_ := Aside0.mk (below_step HB.out hb); have nBK1_ := Aside0.mk (blk_below BK1.out hb); have nMET_ := Aside0.mk (MetOk.below MET.out hb); clear HB BK1 MET; have HB := nHB_; have BK1 := nBK1_; have MET := nMET_; clear nHB_ nBK1_ nMET_; have HO := Aside0.mk (Kd.R_lower ho hle); clear ho hb hle; obtain ⟨Ao, co, eo⟩ := Kd.R_slice HO.out; subst eo; have hk1_0 : w9.cell? ⟨g1, 0, none⟩ = some (.int .i64 a0_0) := (blk_cell BK1.out 0).trans rfl; have hk1_1 : w9.cell? ⟨g1, 1, none⟩ = some (.slice A0_1 l0_1.length c0_1) := (blk_cell BK1.out 1).trans rfl))
        go_loopg [57] k (fun kq v57 w' => ∃ (x : Int) (told : List Int), v57 = .int .i64 x ∧ Aside0 (bokR kq l0_1 rs told x = some r) ∧ Aside0 (kq ≤ k) ∧ Aside0 (w'.heap[g1]? = some (.cells #[.int .i64 a0_0, .slice A0_1 l0_1.length c0_1] 49 (0, 0))) ∧ Aside0 (Below w.heap.size w w') ∧ Aside0 (MetOk w' bm told) ∧ Aside0 (Kd.R (Kd.int .i64) 3 w' w.heap.size (fun _ => True) (.slice Ao rs.length co) rs))
        case atStart => exact ⟨0, [a0_0], rfl, HT0, ⟨Nat.le_refl _⟩, BK1, HB, MET, HO⟩
        case round =>
          clear HT0 BK1 HB MET HO hk1_0 hk1_1 HK1; obtain ⟨x, told, rfl, HA, HK1, BK1, HB, MET, HO⟩ := hrel; have hk1_0 : wr.cell? ⟨g1, 0, none⟩ = some (.int .i64 a0_0) := (blk_cell BK1.out 0).trans rfl; have hk1_1 : wr.cell? ⟨g1, 1, none⟩ = some (.slice A0_1 l0_1.length c0_1) := (blk_cell BK1.out 1).trans rfl
          cases gk with
          | zero => exact absurd HA.out (by simp [bokR])
          | succ k1 =>
            have H := HA.out; clear HA; rw [bokR] at H
            by_cases c1 : x < (rs.length : Int)
            rotate_left
            · rw [if_neg c1] at H
              have c1b : decide (x < (rs.length : Int)) = false := decide_eq_false c1; clear c1; obtain rfl := Option.some.inj H; clear H; go_wp2; go_ret; exact ⟨rfl, HB.out⟩
            rw [if_pos c1] at H; have c1b : decide (x < (rs.length : Int)) = true := decide_eq_true c1
            by_cases c2 : 0 ≤ x
            rotate_left
            · rw [if_neg c2] at H
              exact absurd H (by simp)
            rw [if_pos c2] at H
            by_cases c3 : 0 ≤ rd rs x
            rotate_left
            · rw [if_neg c3] at H
              exact absurd H (by simp)
            rw [if_pos c3] at H
            by_cases c4 : rd rs x < (l0_1.length : Int)
            rotate_left
            · rw [if_neg c4] at H
              exact absurd H (by simp)
            rw [if_pos c4] at H; obtain ⟨ad0, e0, hy0⟩ := Kd.at_int (Kd.R_reads' HO.out).2.2 x c2 c1
            cases e0
            generalize hi : rd rs x = i at H c3 c4 hy0
            clear hi; obtain ⟨ad, A2, c2_, e2, hz0, hz1, hz2, hl2, hC2⟩ := at_T90 HR.out i c3 c4; subst e2; clear hz0; replace hz1 := cz HB.out hz1; replace hz2 := cz HB.out hz2; have HL2 := Aside0.mk hl2; have HCC := Aside0.mk hC2; clear hC2 hl2
            generalize rd_T90 l0_1 i = pg at H hz1 hz2 HCC HL2
            obtain ⟨u, lf, es⟩ := pg
            dsimp only at H hz1 hz2 HCC HL2
            have c3b : decide (0 ≤ i) = true := decide_eq_true c3; have c4b : decide (i < (l0_1.length : Int)) = true := decide_eq_true c4
            cases lf with
            | true =>
              rw [if_pos rfl] at H; have H' := Aside0.mk H; clear H; go_wp2; go_roundg k1
              case measure => have := HK1.out; omega
              case rel => exact ⟨_, told, rfl, H', ⟨by have := HK1.out; omega⟩, BK1, HB, MET, HO⟩
            | false =>
              rw [if_neg (by decide)] at H; obtain ⟨oo, hoo, H⟩ := Option.bind_eq_some_iff.mp H; have HE := Aside0.mk hoo; have HN := Aside0.mk H; clear hoo H; go_wp2
              go_loopg [76] k1 (fun kq v76 w' => ∃ (y : Int) (told2 : List Int), v76 = .int .i64 y ∧ Aside0 (bokE kq l0_1 es told2 y = some oo) ∧ Aside0 (kq ≤ k1) ∧ Aside0 (w'.heap[g1]? = some (.cells #[.int .i64 a0_0, .slice (some ad) l0_1.length c0_1] 49 (0, 0))) ∧ Aside0 (Below w.heap.size w w') ∧ Aside0 (MetOk w' bm told2) ∧ Aside0 (Kd.R (Kd.int .i64) 3 w' w.heap.size (fun _ => True) (.slice (some ad0) rs.length co) rs))
              case atStart => exact ⟨0, told, rfl, HE, ⟨Nat.le_refl _⟩, BK1, HB, MET, HO⟩
              case round =>
                clear HE BK1 HB MET HO hk1_0 hk1_1 hy0 hz1 hz2; obtain ⟨y, told2, rfl, HA, HK2, BK1, HB, MET, HO⟩ := hrel; have hk1_0 : wr.cell? ⟨g1, 0, none⟩ = some (.int .i64 a0_0) := (blk_cell BK1.out 0).trans rfl; have hk1_1 : wr.cell? ⟨g1, 1, none⟩ = some (.slice (some ad) l0_1.length c0_1) := (blk_cell BK1.out 1).trans rfl
                cases gk with
                | zero => exact absurd HA.out (by simp [bokE])
                | succ k2 =>
                  have H := HA.out; clear HA; rw [bokE] at H
                  by_cases d1 : y < (es.length : Int)
                  rotate_left
                  · rw [if_neg d1] at H
                    have d1b : decide (y < (es.length : Int)) = false := decide_eq_false d1; clear d1; obtain rfl := Option.some.inj H; clear H; go_wp2; go_roundg k1
                    case measure => have := HK1.out; omega
                    case rel => exact ⟨_, told2, rfl, ⟨HN.out⟩, ⟨by have := HK1.out; omega⟩, BK1, HB, MET, HO⟩
                  rw [if_pos d1] at H; have d1b : decide (y < (es.length : Int)) = true := decide_eq_true d1
                  by_cases d2 : 0 ≤ y
                  rotate_left
                  · rw [if_neg d2] at H
                    exact absurd H (by simp)
                  rw [if_pos d2] at H
                  by_cases d3 : told2.length < 17592186044415
                  rotate_left
                  · rw [if_neg d3] at H
                    exact absurd H (by simp)
                  rw [if_pos d3] at H; have LEN := Aside0.mk d3; clear d3; obtain ⟨ad3, e3, hy0, hy1, hy2, hy3, hy4⟩ := at_T103 HCC.out y d2 d1
                  cases e3
                  replace hy0 := cz HB.out hy0; replace hy1 := cz HB.out hy1; replace hy2 := cz HB.out hy2; replace hy3 := cz HB.out hy3; replace hy4 := cz HB.out hy4
                  generalize rd_T103 es y = en at H hy0 hy1 hy2 hy3 hy4
                  obtain ⟨c, b0, b1, b2, b3⟩ := en
                  dsimp only at H hy0 hy1 hy2 hy3 hy4
                  by_cases d4 : pgOk l0_1 c
                  rotate_left
                  · rw [if_neg d4] at H
                    have HUC := Aside0.mk ((used_f a0_0 l0_1 c).trans (congrArg some (decide_eq_false d4))); clear d4; obtain rfl := Option.some.inj H; have HN2 := HN.out; obtain rfl := Option.some.inj HN2; clear H HN2
                    go_wp2_with (first
                      | ((with_reducible refine gate_dst (N := 9) rfl ?_); refine box_event ?hg (N := 9) ?hd (cs := #[.int .i64 0, .int .i64 0, .int .i64 0, .int .i64 0, .int .i64 0]) (t := 103) ?hr ?_; (case hd => rfl); (case hg => rfl); (case hr => first | (go_simp; done) | (go_simp; rfl)); intro g9 hg w7 hbox hb; have HG9 := Aside0.mk hg; have HX9 := Aside0.mk hbox; have HW9 := Aside0.mk hb; clear hg hbox hb)
                      | ((with_reducible refine gate_store (t := 103) (p := 9) rfl ?_); refine store_event (t := 103) (p := 9) (v := ?vo9a) (w1 := (((((w7.setCell ⟨g9, 0, none⟩ (.int .i64 c)).setCell ⟨g9, 1, none⟩ (.int .i64 b0)).setCell ⟨g9, 2, none⟩ (.int .i64 b1)).setCell ⟨g9, 3, none⟩ (.int .i64 b2)).setCell ⟨g9, 4, none⟩ (.int .i64 b3))) ?hg ?ho ?hn ?hr ?_; (case ho => rfl); (case hg => rfl); (case hn => rfl); (case hr => exact store5_run _ _ 9 79 rfl g9 w7 _ _ _ _ _ rfl rfl HX9.out); intro w8 hw; have hb : Below wr.heap.size wr w8 := (by rw [hw]; exact (below_set (below_set (below_set (below_set (below_set HW9.out (Nat.le_of_eq HG9.out.symm)) (Nat.le_of_eq HG9.out.symm)) (Nat.le_of_eq HG9.out.symm)) (Nat.le_of_eq HG9.out.symm)) (Nat.le_of_eq HG9.out.symm))); have hbox : w8.heap[g9]? = some (.cells #[.int .i64 c, .int .i64 b0, .int .i64 b1, .int .i64 b2, .int .i64 b3] 103 (0, 0)) := (by rw [hw]; exact (blk_put (cs' := #[.int .i64 c, .int .i64 b0, .int .i64 b1, .int .i64 b2, .int .i64 b3]) (blk_put (cs' := #[.int .i64 c, .int .i64 b0, .int .i64 b1, .int .i64 b2, .int .i64 0]) (blk_put (cs' := #[.int .i64 c, .int .i64 b0, .int .i64 b1, .int .i64 0, .int .i64 0]) (blk_put (cs' := #[.int .i64 c, .int .i64 b0, .int .i64 0, .int .i64 0, .int .i64 0]) (blk_put (cs' := #[.int .i64 c, .int .i64 0, .int .i64 0, .int .i64 0, .int .i64 0]) HX9.out 0 (.int .i64 c) rfl) 1 (.int .i64 b0) rfl) 2 (.int .i64 b1) rfl) 3 (.int .i64 b2) rfl) 4 (.int .i64 b3) rfl)); clear hw HG9 HX9 HW9; clear hk1_0 hk1_1 hy0 hy1 hy2 hy3 hy4; have nHB_ := Aside0.mk (below_step HB.out hb); have nBK1_ := Aside0.mk (blk_below BK1.out hb); have nMET_ := Aside0.mk (MetOk.below MET.out hb); have nHO_ := Aside0.mk (Kd.R_below HO.out hb); clear HB BK1 MET HO; have HB := nHB_; have BK1 := nBK1_; have MET := nMET_; have HO := nHO_; clear nHB_ nBK1_ nMET_ nHO_; have BK9 := Aside0.mk hbox; clear hb hbox; have hk1_0 : w8.cell? ⟨g1, 0, none⟩ = some (.int .i64 a0_0) := (blk_cell BK1.out 0).trans rfl; have hk1_1 : w8.cell? ⟨g1, 1, none⟩ = some (.slice (some ad) l0_1.length c0_1) := (blk_cell BK1.out 1).trans rfl; have hk9_0 : w8.cell? ⟨g9, 0, none⟩ = some (.int .i64 c) := (blk_cell BK9.out 0).trans rfl)
                      | ((with_reducible refine gate_dst (N := 83) rfl ?_); refine goesL_ (some 83) rfl rfl Try.func89 (by kernel_rfl) rfl #[.agg #[.int .i64 a0_0, .slice (some ad) l0_1.length c0_1], .int .i64 c] rfl dz ?_; refine (impl_used.calls a0_0 _ _ l0_1 c false _ (Kd.C_below HR.out HB.out) HC.out HUC.out).mono ?_; rintro e w9 ⟨rfl, hb⟩; refine ⟨_, rfl, ?_⟩; clear hk1_0 hk1_1 hk9_0; have nHB_ := Aside0.mk (below_step HB.out hb); have nBK1_ := Aside0.mk (blk_below BK1.out hb); have nMET_ := Aside0.mk (MetOk.below MET.out hb); have nHO_ := Aside0.mk (Kd.R_below HO.out hb); have nBK9_ := Aside0.mk (blk_below BK9.out hb); clear HB BK1 MET HO BK9; have HB := nHB_; have BK1 := nBK1_; have MET := nMET_; have HO := nHO_; have BK9 := nBK9_; clear nHB_ nBK1_ nMET_ nHO_ nBK9_; clear hb; have hk1_0 : w9.cell? ⟨g1, 0, none⟩ = some (.int .i64 a0_0) := (blk_cell BK1.out 0).trans rfl; have hk1_1 : w9.cell? ⟨g1, 1, none⟩ = some (.slice (some ad) l0_1.length c0_1) := (blk_cell BK1.out 1).trans rfl; have hk9_0 : w9.cell? ⟨g9, 0, none⟩ = some (.int .i64 c) := (blk_cell BK9.out 0).trans rfl))
                    go_ret; exact ⟨rfl, HB.out⟩
                  rw [if_pos d4] at H; have HUC := Aside0.mk ((used_f a0_0 l0_1 c).trans (congrArg some (decide_eq_true d4))); have WFC := Aside0.mk (wf_page HMAX.out d4); clear d4
                  by_cases d5 : c ∈ told2
                  · rw [if_pos d5] at H
                    have HIC := Aside0.mk d5; clear d5; obtain rfl := Option.some.inj H; have HN2 := HN.out; obtain rfl := Option.some.inj HN2; clear H HN2
                    go_wp2_with (first
                      | ((with_reducible refine gate_dst (N := 9) rfl ?_); refine box_event ?hg (N := 9) ?hd (cs := #[.int .i64 0, .int .i64 0, .int .i64 0, .int .i64 0, .int .i64 0]) (t := 103) ?hr ?_; (case hd => rfl); (case hg => rfl); (case hr => first | (go_simp; done) | (go_simp; rfl)); intro g9 hg w7 hbox hb; have HG9 := Aside0.mk hg; have HX9 := Aside0.mk hbox; have HW9 := Aside0.mk hb; clear hg hbox hb)
                      | ((with_reducible refine gate_store (t := 103) (p := 9) rfl ?_); refine store_event (t := 103) (p := 9) (v := ?vo9b) (w1 := (((((w7.setCell ⟨g9, 0, none⟩ (.int .i64 c)).setCell ⟨g9, 1, none⟩ (.int .i64 b0)).setCell ⟨g9, 2, none⟩ (.int .i64 b1)).setCell ⟨g9, 3, none⟩ (.int .i64 b2)).setCell ⟨g9, 4, none⟩ (.int .i64 b3))) ?hg ?ho ?hn ?hr ?_; (case ho => rfl); (case hg => rfl); (case hn => rfl); (case hr => exact store5_run _ _ 9 79 rfl g9 w7 _ _ _ _ _ rfl rfl HX9.out); intro w8 hw; have hb : Below wr.heap.size wr w8 := (by rw [hw]; exact (below_set (below_set (below_set (below_set (below_set HW9.out (Nat.le_of_eq HG9.out.symm)) (Nat.le_of_eq HG9.out.symm)) (Nat.le_of_eq HG9.out.symm)) (Nat.le_of_eq HG9.out.symm)) (Nat.le_of_eq HG9.out.symm))); have hbox : w8.heap[g9]? = some (.cells #[.int .i64 c, .int .i64 b0, .int .i64 b1, .int .i64 b2, .int .i64 b3] 103 (0, 0)) := (by rw [hw]; exact (blk_put (cs' := #[.int .i64 c, .int .i64 b0, .int .i64 b1, .int .i64 b2, .int .i64 b3]) (blk_put (cs' := #[.int .i64 c, .int .i64 b0, .int .i64 b1, .int .i64 b2, .int .i64 0]) (blk_put (cs' := #[.int .i64 c, .int .i64 b0, .int .i64 b1, .int .i64 0, .int .i64 0]) (blk_put (cs' := #[.int .i64 c, .int .i64 b0, .int .i64 0, .int .i64 0, .int .i64 0]) (blk_put (cs' := #[.int .i64 c, .int .i64 0, .int .i64 0, .int .i64 0, .int .i64 0]) HX9.out 0 (.int .i64 c) rfl) 1 (.int .i64 b0) rfl) 2 (.int .i64 b1) rfl) 3 (.int .i64 b2) rfl) 4 (.int .i64 b3) rfl)); clear hw HG9 HX9 HW9; clear hk1_0 hk1_1 hy0 hy1 hy2 hy3 hy4; have nHB_ := Aside0.mk (below_step HB.out hb); have nBK1_ := Aside0.mk (blk_below BK1.out hb); have nMET_ := Aside0.mk (MetOk.below MET.out hb); have nHO_ := Aside0.mk (Kd.R_below HO.out hb); clear HB BK1 MET HO; have HB := nHB_; have BK1 := nBK1_; have MET := nMET_; have HO := nHO_; clear nHB_ nBK1_ nMET_ nHO_; have BK9 := Aside0.mk hbox; clear hb hbox; have hk1_0 : w8.cell? ⟨g1, 0, none⟩ = some (.int .i64 a0_0) := (blk_cell BK1.out 0).trans rfl; have hk1_1 : w8.cell? ⟨g1, 1, none⟩ = some (.slice (some ad) l0_1.length c0_1) := (blk_cell BK1.out 1).trans rfl; have hk9_0 : w8.cell? ⟨g9, 0, none⟩ = some (.int .i64 c) := (blk_cell BK9.out 0).trans rfl)
                      | ((with_reducible refine gate_dst (N := 83) rfl ?_); refine goesL_ (some 83) rfl rfl Try.func89 (by kernel_rfl) rfl #[.agg #[.int .i64 a0_0, .slice (some ad) l0_1.length c0_1], .int .i64 c] rfl dz ?_; refine (impl_used.calls a0_0 _ _ l0_1 c true _ (Kd.C_below HR.out HB.out) HC.out HUC.out).mono ?_; rintro e w9 ⟨rfl, hb⟩; refine ⟨_, rfl, ?_⟩; clear hk1_0 hk1_1 hk9_0; have nHB_ := Aside0.mk (below_step HB.out hb); have nBK1_ := Aside0.mk (blk_below BK1.out hb); have nMET_ := Aside0.mk (MetOk.below MET.out hb); have nHO_ := Aside0.mk (Kd.R_below HO.out hb); have nBK9_ := Aside0.mk (blk_below BK9.out hb); clear HB BK1 MET HO BK9; have HB := nHB_; have BK1 := nBK1_; have MET := nMET_; have HO := nHO_; have BK9 := nBK9_; clear nHB_ nBK1_ nMET_ nHO_ nBK9_; clear hb; obtain ⟨nm, Dm, hnm, him, hom, hcm⟩ := MET.out; have HNM := Aside0.mk hnm; have HIM := Aside0.mk him; have HOM := Aside0.mk hom; have HCM := Aside0.mk hcm; clear hnm him hom hcm; have hk1_0 : w9.cell? ⟨g1, 0, none⟩ = some (.int .i64 a0_0) := (blk_cell BK1.out 0).trans rfl; have hk1_1 : w9.cell? ⟨g1, 1, none⟩ = some (.slice (some ad) l0_1.length c0_1) := (blk_cell BK1.out 1).trans rfl; have hk9_0 : w9.cell? ⟨g9, 0, none⟩ = some (.int .i64 c) := (blk_cell BK9.out 0).trans rfl)
                      | ((try (refine gate_guard (by rfl) ?_; dsimp only)); at_lookup; refine wpList_lookup_own_int _ rfl _ _ 104 rfl 3 3 .i64 (Go.Maps.int_keyed Try.underlying3) Try.underlying104 Try.underlying3 (zero_int _) bm nm Dm rfl HOM.out _ _ rfl (Go.Maps.keyOf_int_mk Try.underlying3 WFC.out) ?_; intro cm hat hwc; obtain rfl : cm = 1 := (look_eq (HCM.out c WFC.out) hat).trans (if_pos HIC.out); clear hat hwc))
                    go_ret; exact ⟨rfl, HB.out⟩
                  · rw [if_neg d5] at H
                    have HIC := Aside0.mk d5; clear d5; have H' := Aside0.mk H; clear H
                    go_wp2_with (first
                      | ((with_reducible refine gate_dst (N := 9) rfl ?_); refine box_event ?hg (N := 9) ?hd (cs := #[.int .i64 0, .int .i64 0, .int .i64 0, .int .i64 0, .int .i64 0]) (t := 103) ?hr ?_; (case hd => rfl); (case hg => rfl); (case hr => first | (go_simp; done) | (go_simp; rfl)); intro g9 hg w7 hbox hb; have HG9 := Aside0.mk hg; have HX9 := Aside0.mk hbox; have HW9 := Aside0.mk hb; clear hg hbox hb)
                      | ((with_reducible refine gate_store (t := 103) (p := 9) rfl ?_); refine store_event (t := 103) (p := 9) (v := ?vo9c) (w1 := (((((w7.setCell ⟨g9, 0, none⟩ (.int .i64 c)).setCell ⟨g9, 1, none⟩ (.int .i64 b0)).setCell ⟨g9, 2, none⟩ (.int .i64 b1)).setCell ⟨g9, 3, none⟩ (.int .i64 b2)).setCell ⟨g9, 4, none⟩ (.int .i64 b3))) ?hg ?ho ?hn ?hr ?_; (case ho => rfl); (case hg => rfl); (case hn => rfl); (case hr => exact store5_run _ _ 9 79 rfl g9 w7 _ _ _ _ _ rfl rfl HX9.out); intro w8 hw; have hb : Below wr.heap.size wr w8 := (by rw [hw]; exact (below_set (below_set (below_set (below_set (below_set HW9.out (Nat.le_of_eq HG9.out.symm)) (Nat.le_of_eq HG9.out.symm)) (Nat.le_of_eq HG9.out.symm)) (Nat.le_of_eq HG9.out.symm)) (Nat.le_of_eq HG9.out.symm))); have hbox : w8.heap[g9]? = some (.cells #[.int .i64 c, .int .i64 b0, .int .i64 b1, .int .i64 b2, .int .i64 b3] 103 (0, 0)) := (by rw [hw]; exact (blk_put (cs' := #[.int .i64 c, .int .i64 b0, .int .i64 b1, .int .i64 b2, .int .i64 b3]) (blk_put (cs' := #[.int .i64 c, .int .i64 b0, .int .i64 b1, .int .i64 b2, .int .i64 0]) (blk_put (cs' := #[.int .i64 c, .int .i64 b0, .int .i64 b1, .int .i64 0, .int .i64 0]) (blk_put (cs' := #[.int .i64 c, .int .i64 b0, .int .i64 0, .int .i64 0, .int .i64 0]) (blk_put (cs' := #[.int .i64 c, .int .i64 0, .int .i64 0, .int .i64 0, .int .i64 0]) HX9.out 0 (.int .i64 c) rfl) 1 (.int .i64 b0) rfl) 2 (.int .i64 b1) rfl) 3 (.int .i64 b2) rfl) 4 (.int .i64 b3) rfl)); clear hw HG9 HX9 HW9; clear hk1_0 hk1_1 hy0 hy1 hy2 hy3 hy4; have nHB_ := Aside0.mk (below_step HB.out hb); have nBK1_ := Aside0.mk (blk_below BK1.out hb); have nMET_ := Aside0.mk (MetOk.below MET.out hb); have nHO_ := Aside0.mk (Kd.R_below HO.out hb); clear HB BK1 MET HO; have HB := nHB_; have BK1 := nBK1_; have MET := nMET_; have HO := nHO_; clear nHB_ nBK1_ nMET_ nHO_; have BK9 := Aside0.mk hbox; clear hb hbox; have hk1_0 : w8.cell? ⟨g1, 0, none⟩ = some (.int .i64 a0_0) := (blk_cell BK1.out 0).trans rfl; have hk1_1 : w8.cell? ⟨g1, 1, none⟩ = some (.slice (some ad) l0_1.length c0_1) := (blk_cell BK1.out 1).trans rfl; have hk9_0 : w8.cell? ⟨g9, 0, none⟩ = some (.int .i64 c) := (blk_cell BK9.out 0).trans rfl)
                      | ((with_reducible refine gate_dst (N := 83) rfl ?_); refine goesL_ (some 83) rfl rfl Try.func89 (by kernel_rfl) rfl #[.agg #[.int .i64 a0_0, .slice (some ad) l0_1.length c0_1], .int .i64 c] rfl dz ?_; refine (impl_used.calls a0_0 _ _ l0_1 c true _ (Kd.C_below HR.out HB.out) HC.out HUC.out).mono ?_; rintro e w9 ⟨rfl, hb⟩; refine ⟨_, rfl, ?_⟩; clear hk1_0 hk1_1 hk9_0; have nHB_ := Aside0.mk (below_step HB.out hb); have nBK1_ := Aside0.mk (blk_below BK1.out hb); have nMET_ := Aside0.mk (MetOk.below MET.out hb); have nHO_ := Aside0.mk (Kd.R_below HO.out hb); have nBK9_ := Aside0.mk (blk_below BK9.out hb); clear HB BK1 MET HO BK9; have HB := nHB_; have BK1 := nBK1_; have MET := nMET_; have HO := nHO_; have BK9 := nBK9_; clear nHB_ nBK1_ nMET_ nHO_ nBK9_; clear hb; obtain ⟨nm, Dm, hnm, him, hom, hcm⟩ := MET.out; have HNM := Aside0.mk hnm; have HIM := Aside0.mk him; have HOM := Aside0.mk hom; have HCM := Aside0.mk hcm; clear hnm him hom hcm; have hk1_0 : w9.cell? ⟨g1, 0, none⟩ = some (.int .i64 a0_0) := (blk_cell BK1.out 0).trans rfl; have hk1_1 : w9.cell? ⟨g1, 1, none⟩ = some (.slice (some ad) l0_1.length c0_1) := (blk_cell BK1.out 1).trans rfl; have hk9_0 : w9.cell? ⟨g9, 0, none⟩ = some (.int .i64 c) := (blk_cell BK9.out 0).trans rfl)
                      | ((try (refine gate_guard (by rfl) ?_; dsimp only)); at_lookup; refine wpList_lookup_own_int _ rfl _ _ 104 rfl 3 3 .i64 (Go.Maps.int_keyed Try.underlying3) Try.underlying104 Try.underlying3 (zero_int _) bm nm Dm rfl HOM.out _ _ rfl (Go.Maps.keyOf_int_mk Try.underlying3 WFC.out) ?_; intro cm hat hwc; obtain rfl : cm = 0 := (look_eq (HCM.out c WFC.out) hat).trans (if_neg HIC.out); clear hat hwc)
                      | (at_mapUpdate; refine wpList_mapUpdate_own _ rfl _ _ _ 104 rfl 3 3 (Go.Maps.int_keyed Try.underlying3) Try.underlying104 _ bm nm Dm rfl HOM.out (by have := HNM.out; have := LEN.out; unfold maxLen; omega) _ _ (.int .i64 c) rfl rfl (Go.Maps.keyOf_int_mk Try.underlying3 WFC.out) (.lit (.int .i64 1)) [] (plainElem_int Try.underlying3 (by decide)) ?_; intro w11 hown hg; have nMET_ := Aside0.mk (MetOk.put HNM.out HIM.out hown HCM.out); have nBK1_ := Aside0.mk (blk_mapped BK1.out MET.out hg); have nHB_ := Aside0.mk (below_mapped HB.out hg GE.out); have nHO_ := Aside0.mk (R_mapped HO.out MET.out hg); clear hk1_0 hk1_1 hk9_0 BK1 HB MET HO BK9 hown hg HNM HIM HOM HCM; have BK1 := nBK1_; have HB := nHB_; have MET := nMET_; have HO := nHO_; clear nBK1_ nHB_ nMET_ nHO_; have hk1_0 : w11.cell? ⟨g1, 0, none⟩ = some (.int .i64 a0_0) := (blk_cell BK1.out 0).trans rfl))
                    go_roundg k2
                    case measure => have := HK2.out; omega
                    case rel => exact ⟨_, told2 ++ [c], rfl, H', ⟨by have := HK2.out; omega⟩, BK1, HB, MET, HO⟩

end Go.Proofs.Ytngjaajcdbodeaa.All

namespace Go.Proofs.Ytngjaajcdbodeaa.All
open Go.RowKit Go.Proofs.YtngjaajcdbodeaaW.PrintWords Go.Proofs.YtngjaajcdbodeaaW.PrintLast Go.Proofs.YtngjaajcdbodeaaW.PrintMore Go.Proofs.Ytngjaajcdbodeaa.Sq
attribute [local go_sem] max2_int min2_int max_two min_two max_three min_three max_four min_four 
set_option linter.unusedVariables false
set_option linter.unusedSimpArgs false

/-! ### cmp_isNaN_int: function 151 -/
def cmp_isNaN_int.f (a0 : Int) : Option (Bool) := some (a0 != a0)
set_option maxHeartbeats 8000000 in
set_option maxRecDepth 100000 in
theorem cmp_isNaN_int.calls (a0 : Int) (r : Bool) (w : World) (h : cmp_isNaN_int.f a0 = some r) :
    Calls Try.prog 151 #[.int .i64 a0] w fun e w' => e = .returned (.bool r) ∧ Drawn0 w w' := by
  have H : (some (a0 != a0)) = some r := h; clear h; obtain rfl := Option.some.inj H
  go_enter Try.func151, Try.ntmps151
  go_wp2; go_ret; exact ⟨by first | rfl | (simp; done) | (simp [*]; done), by repeat (first | exact Drawn0.refl _ | apply Drawn0.step)⟩

attribute [local go_sem] max2_int min2_int max_two min_two max_three min_three max_four min_four 
set_option linter.unusedVariables false
set_option linter.unusedSimpArgs false

/-! ### cmp_Compare_int: function 142 -/
def cmp_Compare_int.f (a0 : Int) (a1 : Int) : Option (Int) := (cmp_isNaN_int.f a0).bind fun t1067 => ((cmp_isNaN_int.f a1).bind fun t1068 => (if t1067 = true then (if t1068 = true then (some 0) else (some (-1))) else (if t1068 = true then (some 1) else (if a0 < a1 then (some (-1)) else (if a0 > a1 then (some 1) else (some 0))))))
set_option maxHeartbeats 8000000 in
set_option maxRecDepth 100000 in
theorem cmp_Compare_int.calls (a0 : Int) (a1 : Int) (r : Int) (w : World) (h : cmp_Compare_int.f a0 a1 = some r) :
    Calls Try.prog 142 #[.int .i64 a0, .int .i64 a1] w fun e w' => e = .returned (.int .i64 r) ∧ Drawn0 w w' := by
  have H : ((cmp_isNaN_int.f a0).bind fun t1067 => ((cmp_isNaN_int.f a1).bind fun t1068 => (if t1067 = true then (if t1068 = true then (some 0) else (some (-1))) else (if t1068 = true then (some 1) else (if a0 < a1 then (some (-1)) else (if a0 > a1 then (some 1) else (some 0))))))) = some r := h; clear h; replace H := Option.bind_eq_some_iff.mp H; obtain ⟨t1067, A30, H⟩ := H; replace H : ((cmp_isNaN_int.f a1).bind fun t1068 => (if t1067 = true then (if t1068 = true then (some 0) else (some (-1))) else (if t1068 = true then (some 1) else (if a0 < a1 then (some (-1)) else (if a0 > a1 then (some 1) else (some 0)))))) = some r := H; have A3 := Aside0.mk A30; clear A30; replace H := Option.bind_eq_some_iff.mp H; obtain ⟨t1068, A40, H⟩ := H; replace H : (if t1067 = true then (if t1068 = true then (some 0) else (some (-1))) else (if t1068 = true then (some 1) else (if a0 < a1 then (some (-1)) else (if a0 > a1 then (some 1) else (some 0))))) = some r := H; have A4 := Aside0.mk A40; clear A40
  by_cases c5 : t1067 = true
  · subst c5
    replace H : (if t1068 = true then (some 0) else (some (-1))) = some r := (by rw [if_pos rfl] at H; exact H)
    by_cases c6 : t1068 = true
    · subst c6
      replace H : (some 0) = some r := (by rw [if_pos rfl] at H; exact H); obtain rfl := Option.some.inj H
      go_enter Try.func142, Try.ntmps142
      go_wp2_with (first | ((with_reducible refine gate_callee (f := 151) rfl ?_); refine goesL_ (some 8) rfl rfl Try.func151 (by kernel_rfl) rfl #[.int .i64 a0] rfl dz ?_; (with_reducible refine (cmp_isNaN_int.calls a0 true _ A3.out).mono ?_); rintro e w' ⟨rfl, ⟨nd, rfl⟩⟩; refine ⟨_, rfl, ?_⟩) | ((with_reducible refine gate_callee (f := 151) rfl ?_); refine goesL_ (some 10) rfl rfl Try.func151 (by kernel_rfl) rfl #[.int .i64 a1] rfl dz ?_; (with_reducible refine (cmp_isNaN_int.calls a1 true _ A4.out).mono ?_); rintro e w' ⟨rfl, ⟨nd, rfl⟩⟩; refine ⟨_, rfl, ?_⟩))
      go_ret; exact ⟨by first | rfl | (simp; done) | (simp [*]; done), by repeat (first | exact Drawn0.refl _ | apply Drawn0.step)⟩
    · replace c6 := Bool.eq_false_iff.mpr c6
      subst c6; replace H : (some (-1)) = some r := (by rw [if_neg (show ¬ (false = true) by decide)] at H; exact H); obtain rfl := Option.some.inj H
      go_enter Try.func142, Try.ntmps142
      go_wp2_with (first | ((with_reducible refine gate_callee (f := 151) rfl ?_); refine goesL_ (some 8) rfl rfl Try.func151 (by kernel_rfl) rfl #[.int .i64 a0] rfl dz ?_; (with_reducible refine (cmp_isNaN_int.calls a0 true _ A3.out).mono ?_); rintro e w' ⟨rfl, ⟨nd, rfl⟩⟩; refine ⟨_, rfl, ?_⟩) | ((with_reducible refine gate_callee (f := 151) rfl ?_); refine goesL_ (some 10) rfl rfl Try.func151 (by kernel_rfl) rfl #[.int .i64 a1] rfl dz ?_; (with_reducible refine (cmp_isNaN_int.calls a1 false _ A4.out).mono ?_); rintro e w' ⟨rfl, ⟨nd, rfl⟩⟩; refine ⟨_, rfl, ?_⟩))
      go_ret; exact ⟨by first | rfl | (simp; done) | (simp [*]; done), by repeat (first | exact Drawn0.refl _ | apply Drawn0.step)⟩
  · replace c5 := Bool.eq_false_iff.mpr c5
    subst c5; replace H : (if t1068 = true then (some 1) else (if a0 < a1 then (some (-1)) else (if a0 > a1 then (some 1) else (some 0)))) = some r := (by rw [if_neg (show ¬ (false = true) by decide)] at H; exact H)
    by_cases c7 : t1068 = true
    · subst c7
      replace H : (some 1) = some r := (by rw [if_pos rfl] at H; exact H); obtain rfl := Option.some.inj H
      go_enter Try.func142, Try.ntmps142
      go_wp2_with (first | ((with_reducible refine gate_callee (f := 151) rfl ?_); refine goesL_ (some 8) rfl rfl Try.func151 (by kernel_rfl) rfl #[.int .i64 a0] rfl dz ?_; (with_reducible refine (cmp_isNaN_int.calls a0 false _ A3.out).mono ?_); rintro e w' ⟨rfl, ⟨nd, rfl⟩⟩; refine ⟨_, rfl, ?_⟩) | ((with_reducible refine gate_callee (f := 151) rfl ?_); refine goesL_ (some 10) rfl rfl Try.func151 (by kernel_rfl) rfl #[.int .i64 a1] rfl dz ?_; (with_reducible refine (cmp_isNaN_int.calls a1 true _ A4.out).mono ?_); rintro e w' ⟨rfl, ⟨nd, rfl⟩⟩; refine ⟨_, rfl, ?_⟩))
      go_ret; exact ⟨by first | rfl | (simp; done) | (simp [*]; done), by repeat (first | exact Drawn0.refl _ | apply Drawn0.step)⟩
    · replace c7 := Bool.eq_false_iff.mpr c7
      subst c7; replace H : (if a0 < a1 then (some (-1)) else (if a0 > a1 then (some 1) else (some 0))) = some r := (by rw [if_neg (show ¬ (false = true) by decide)] at H; exact H)
      by_cases c8 : a0 < a1
      · rw [if_pos c8] at H
        have c8b0 : decide (a0 < a1) = true := decide_eq_true c8; clear c8; obtain rfl := Option.some.inj H
        go_enter Try.func142, Try.ntmps142
        go_wp2_with (first | ((with_reducible refine gate_callee (f := 151) rfl ?_); refine goesL_ (some 8) rfl rfl Try.func151 (by kernel_rfl) rfl #[.int .i64 a0] rfl dz ?_; (with_reducible refine (cmp_isNaN_int.calls a0 false _ A3.out).mono ?_); rintro e w' ⟨rfl, ⟨nd, rfl⟩⟩; refine ⟨_, rfl, ?_⟩) | ((with_reducible refine gate_callee (f := 151) rfl ?_); refine goesL_ (some 10) rfl rfl Try.func151 (by kernel_rfl) rfl #[.int .i64 a1] rfl dz ?_; (with_reducible refine (cmp_isNaN_int.calls a1 false _ A4.out).mono ?_); rintro e w' ⟨rfl, ⟨nd, rfl⟩⟩; refine ⟨_, rfl, ?_⟩))
        go_ret; exact ⟨by first | rfl | (simp; done) | (simp [*]; done), by repeat (first | exact Drawn0.refl _ | apply Drawn0.step)⟩
      · rw [if_neg c8] at H
        have c8b0 : decide (a0 < a1) = false := decide_eq_false c8; clear c8
        by_cases c9 : a0 > a1
        · rw [if_pos c9] at H
          have c9b0 : decide (a1 < a0) = true := decide_eq_true c9; clear c9; obtain rfl := Option.some.inj H
          go_enter Try.func142, Try.ntmps142
          go_wp2_with (first | ((with_reducible refine gate_callee (f := 151) rfl ?_); refine goesL_ (some 8) rfl rfl Try.func151 (by kernel_rfl) rfl #[.int .i64 a0] rfl dz ?_; (with_reducible refine (cmp_isNaN_int.calls a0 false _ A3.out).mono ?_); rintro e w' ⟨rfl, ⟨nd, rfl⟩⟩; refine ⟨_, rfl, ?_⟩) | ((with_reducible refine gate_callee (f := 151) rfl ?_); refine goesL_ (some 10) rfl rfl Try.func151 (by kernel_rfl) rfl #[.int .i64 a1] rfl dz ?_; (with_reducible refine (cmp_isNaN_int.calls a1 false _ A4.out).mono ?_); rintro e w' ⟨rfl, ⟨nd, rfl⟩⟩; refine ⟨_, rfl, ?_⟩))
          go_ret; exact ⟨by first | rfl | (simp; done) | (simp [*]; done), by repeat (first | exact Drawn0.refl _ | apply Drawn0.step)⟩
        · rw [if_neg c9] at H
          have c9b0 : decide (a1 < a0) = false := decide_eq_false c9; clear c9; obtain rfl := Option.some.inj H
          go_enter Try.func142, Try.ntmps142
          go_wp2_with (first | ((with_reducible refine gate_callee (f := 151) rfl ?_); refine goesL_ (some 8) rfl rfl Try.func151 (by kernel_rfl) rfl #[.int .i64 a0] rfl dz ?_; (with_reducible refine (cmp_isNaN_int.calls a0 false _ A3.out).mono ?_); rintro e w' ⟨rfl, ⟨nd, rfl⟩⟩; refine ⟨_, rfl, ?_⟩) | ((with_reducible refine gate_callee (f := 151) rfl ?_); refine goesL_ (some 10) rfl rfl Try.func151 (by kernel_rfl) rfl #[.int .i64 a1] rfl dz ?_; (with_reducible refine (cmp_isNaN_int.calls a1 false _ A4.out).mono ?_); rintro e w' ⟨rfl, ⟨nd, rfl⟩⟩; refine ⟨_, rfl, ?_⟩))
          go_ret; exact ⟨by first | rfl | (simp; done) | (simp [*]; done), by repeat (first | exact Drawn0.refl _ | apply Drawn0.step)⟩

attribute [local go_sem] max2_int min2_int max_two min_two max_three min_three max_four min_four 
set_option linter.unusedVariables false
set_option linter.unusedSimpArgs false

/-! ### cmp_Or_int: function 158 -/
def cmp_Or_int.l0 : Nat → Int → List Int → Int → Int → Option (Int)
  | 0, _, _, _, _ => none
  | k + 1, x3, x6, x7, x8 => if x8 < x7 then (if 0 ≤ x8 then (if x8 < (x6.length : Int) then (if (rd x6 x8) = x3 then (cmp_Or_int.l0 k x3 x6 x7 (wrap64 (x8 + 1))) else (some (rd x6 x8))) else (none)) else (none)) else (some x3)
def cmp_Or_int.f (k : Nat) (l0 : List Int) : Option (Int) := cmp_Or_int.l0 k 0 l0 (l0.length : Int) 0
theorem cmp_Or_int.mono_l : ∀ k, (∀ y0 y1 y2 y3, LeO (cmp_Or_int.l0 k y0 y1 y2 y3) (cmp_Or_int.l0 (k + 1) y0 y1 y2 y3))
  | 0 => fun _ _ _ _ r h => by simp [cmp_Or_int.l0] at h
  | k + 1 => by
    have ih0 := cmp_Or_int.mono_l k
    · intro y0 y1 y2 y3
      unfold cmp_Or_int.l0
      repeat' first | (with_reducible first | exact ih0 _ _ _ _ | exact LeO.refl _ | exact LeO.none _ | refine LeO.ite ?_ ?_ | refine LeO.bind ?_ (fun _ => ?_)) | exact ih0 _ _ _ _ | exact LeO.none _ | refine LeO.ite ?_ ?_ | refine LeO.bind ?_ (fun _ => ?_)
theorem cmp_Or_int.mono : ∀ a0 k, LeO (cmp_Or_int.f k a0) (cmp_Or_int.f (k + 1) a0) := by
  intro a0 k
  have ih0 := cmp_Or_int.mono_l k; unfold cmp_Or_int.f
  repeat' first | (with_reducible first | exact ih0 _ _ _ _ | exact LeO.refl _ | exact LeO.none _ | refine LeO.ite ?_ ?_ | refine LeO.bind ?_ (fun _ => ?_)) | exact ih0 _ _ _ _ | exact LeO.none _ | refine LeO.ite ?_ ?_ | refine LeO.bind ?_ (fun _ => ?_)
set_option maxHeartbeats 8000000 in
set_option maxRecDepth 100000 in
theorem cmp_Or_int.calls (k : Nat) (A0 : Option Addr) (c0 : Nat) (l0 : List Int) (r : Int) (w : World) (hr0 : Kd.C (Kd.int .i64) w A0 l0.length l0) (hc0 : l0.length ≤ c0) (h : cmp_Or_int.f k l0 = some r) :
    Calls Try.prog 158 #[.slice A0 l0.length c0] w fun e w' => e = .returned (.int .i64 r) ∧ Drawn0 w w' := by
  have HR0 := Aside0.mk hr0; have HC0 := Aside0.mk hc0; clear hr0 hc0; have H : (cmp_Or_int.l0 k 0 l0 (l0.length : Int) 0) = some r := h; clear h; have H' := Aside0.mk H; clear H
  go_enter Try.func158, Try.ntmps158
  go_wp2
  go_loopg [8] k (fun kq v8 w' => ∃ (x8_1 : Int), v8 = .int .i64 x8_1 ∧ Aside0 (cmp_Or_int.l0 kq 0 l0 (l0.length : Int) x8_1 = some r) ∧ Aside0 (kq ≤ k) ∧ Drawn0 w w')
  case atStart => exact ⟨(0), az, H', ⟨Nat.le_refl _⟩, by repeat (first | exact Drawn0.refl _ | apply Drawn0.step)⟩
  case round =>
    clear H'; (try clear c1); obtain ⟨x8_1, rfl, HA, HK1, ⟨m1, rfl⟩⟩ := hrel
    cases gk with
    | zero => exact absurd HA.out (by simp [cmp_Or_int.l0])
    | succ k1 =>
      have H := HA.out; clear HA
      simp only [cmp_Or_int.l0] at H
      by_cases c2 : x8_1 < (l0.length : Int)
      · rw [if_pos c2] at H
        have c2b0 : decide (x8_1 < (l0.length : Int)) = true := decide_eq_true c2; clear c2
        by_cases c3 : 0 ≤ x8_1
        · rw [if_pos c3] at H
          have c3b0 : decide (0 ≤ x8_1) = true := decide_eq_true c3; clear c3
          by_cases c4 : x8_1 < (l0.length : Int)
          · rw [if_pos c4] at H
            have c4b0 : decide (x8_1 < (l0.length : Int)) = true := decide_eq_true c4; clear c4
            by_cases c5 : (rd l0 x8_1) = 0
            · rw [if_pos c5] at H
              have c5b0 : ((rd l0 x8_1) == 0) = true := beq_iff_eq.mpr c5; have c5b1 : ((rd l0 x8_1) != 0) = false := bne_eq_false_iff_eq.mpr c5; clear c5; have H' := Aside0.mk H; clear H; have p1069 : 0 ≤ (x8_1 : Int) := of_decide_eq_true uz; have q1069 : x8_1 < (l0.length : Int) := of_decide_eq_true uz; obtain ⟨ad1069, e1069, hx1069_0⟩ := Kd.at_int HR0.out x8_1 p1069 q1069
              cases e1069
              replace p1069 := eq_true p1069; replace q1069 := eq_true q1069; go_wp2; go_roundg k1
              case measure => have := HK1.out; omega
              case rel => exact ⟨(wrap64 (x8_1 + 1)), az, H', ⟨by have := HK1.out; omega⟩, by repeat (first | exact Drawn0.refl _ | apply Drawn0.step)⟩
            · rw [if_neg c5] at H
              have c5b0 : ((rd l0 x8_1) == 0) = false := beq_eq_false_iff_ne.mpr c5; have c5b1 : ((rd l0 x8_1) != 0) = true := bne_iff_ne.mpr c5; obtain rfl := Option.some.inj H; have p1069 : 0 ≤ (x8_1 : Int) := of_decide_eq_true uz; have q1069 : x8_1 < (l0.length : Int) := of_decide_eq_true uz; obtain ⟨ad1069, e1069, hx1069_0⟩ := Kd.at_int HR0.out x8_1 p1069 q1069
              cases e1069
              replace p1069 := eq_true p1069; replace q1069 := eq_true q1069; go_wp2; go_ret; exact ⟨by first | rfl | (simp; done) | (simp [*]; done), by repeat (first | exact Drawn0.refl _ | apply Drawn0.step)⟩
          · rw [if_neg c4] at H
            exact absurd H (by simp)
        · rw [if_neg c3] at H
          exact absurd H (by simp)
      · rw [if_neg c2] at H
        have c2b0 : decide (x8_1 < (l0.length : Int)) = false := decide_eq_false c2; clear c2; obtain rfl := Option.some.inj H; go_wp2; go_ret; exact ⟨by first | rfl | (simp; done) | (simp [*]; done), by repeat (first | exact Drawn0.refl _ | apply Drawn0.step)⟩

attribute [local go_sem] max2_int min2_int max_two min_two max_three min_three max_four min_four 
set_option linter.unusedVariables false
set_option linter.unusedSimpArgs false

/-! ### impl_Along: function 162 -/
mutual
def impl_Along.j0 : Nat → Int → Int → Bool → Option (Int)
  | 0, _, _, _ => none
  | k + 1, x0, x1, x16 => if x16 = true then (some (-1)) else (impl_Along.l0 k x0 x1 0 128)
def impl_Along.l0 : Nat → Int → Int → Int → Int → Option (Int)
  | 0, _, _, _, _ => none
  | k + 1, x0, x1, x5, x6 => if x6 > 0 then (if x6 = 0 then (none) else (if (Int.tmod (wrap64 (Int.tdiv x1 x6)) 2) = 0 then (if (Int.tmod (wrap64 (Int.tdiv x0 x6)) 2) = 1 then (impl_Along.l0 k (wrap64 (255 - x1)) (wrap64 (255 - x0)) (wrap64 (x5 + (wrap64 ((wrap64 (x6 * x6)) * (Go.bits .xor .i64 (wrap64 (3 * (Int.tmod (wrap64 (Int.tdiv x0 x6)) 2))) (Int.tmod (wrap64 (Int.tdiv x1 x6)) 2)))))) (wrap64 (Int.tdiv x6 2))) else (impl_Along.l0 k x1 x0 (wrap64 (x5 + (wrap64 ((wrap64 (x6 * x6)) * (Go.bits .xor .i64 (wrap64 (3 * (Int.tmod (wrap64 (Int.tdiv x0 x6)) 2))) (Int.tmod (wrap64 (Int.tdiv x1 x6)) 2)))))) (wrap64 (Int.tdiv x6 2)))) else (impl_Along.l0 k x0 x1 (wrap64 (x5 + (wrap64 ((wrap64 (x6 * x6)) * (Go.bits .xor .i64 (wrap64 (3 * (Int.tmod (wrap64 (Int.tdiv x0 x6)) 2))) (Int.tmod (wrap64 (Int.tdiv x1 x6)) 2)))))) (wrap64 (Int.tdiv x6 2))))) else (some x5)
end
def impl_Along.f (k : Nat) (a0 : Int) (a1 : Int) : Option (Int) := (impl_in.f a0 0 255).bind fun t1070 => (if t1070 = true then ((impl_in.f a1 0 255).bind fun t1071 => (impl_Along.j0 k a0 a1 (!t1071))) else (impl_Along.j0 k a0 a1 true))
theorem impl_Along.mono_l : ∀ k, (∀ y0 y1 y2, LeO (impl_Along.j0 k y0 y1 y2) (impl_Along.j0 (k + 1) y0 y1 y2)) ∧ (∀ y0 y1 y2 y3, LeO (impl_Along.l0 k y0 y1 y2 y3) (impl_Along.l0 (k + 1) y0 y1 y2 y3))
  | 0 => ⟨fun _ _ _ r h => by simp [impl_Along.j0] at h, fun _ _ _ _ r h => by simp [impl_Along.l0] at h⟩
  | k + 1 => by
    obtain ⟨ih0, ih1⟩ := impl_Along.mono_l k; refine ⟨?_, ?_⟩
    · intro y0 y1 y2
      unfold impl_Along.j0
      repeat' first | (with_reducible first | exact ih0 _ _ _ | exact ih1 _ _ _ _ | exact LeO.refl _ | exact LeO.none _ | refine LeO.ite ?_ ?_ | refine LeO.bind ?_ (fun _ => ?_)) | exact ih0 _ _ _ | exact ih1 _ _ _ _ | exact LeO.none _ | refine LeO.ite ?_ ?_ | refine LeO.bind ?_ (fun _ => ?_)
    · intro y0 y1 y2 y3
      unfold impl_Along.l0
      repeat' first | (with_reducible first | exact ih0 _ _ _ | exact ih1 _ _ _ _ | exact LeO.refl _ | exact LeO.none _ | refine LeO.ite ?_ ?_ | refine LeO.bind ?_ (fun _ => ?_)) | exact ih0 _ _ _ | exact ih1 _ _ _ _ | exact LeO.none _ | refine LeO.ite ?_ ?_ | refine LeO.bind ?_ (fun _ => ?_)
theorem impl_Along.mono : ∀ a0 a1 k, LeO (impl_Along.f k a0 a1) (impl_Along.f (k + 1) a0 a1) := by
  intro a0 a1 k
  obtain ⟨ih0, ih1⟩ := impl_Along.mono_l k; unfold impl_Along.f
  repeat' first | (with_reducible first | exact ih0 _ _ _ | exact ih1 _ _ _ _ | exact LeO.refl _ | exact LeO.none _ | refine LeO.ite ?_ ?_ | refine LeO.bind ?_ (fun _ => ?_)) | exact ih0 _ _ _ | exact ih1 _ _ _ _ | exact LeO.none _ | refine LeO.ite ?_ ?_ | refine LeO.bind ?_ (fun _ => ?_)
set_option maxHeartbeats 8000000 in
set_option maxRecDepth 100000 in
theorem impl_Along.calls (k : Nat) (a0 : Int) (a1 : Int) (r : Int) (w : World) (h : impl_Along.f k a0 a1 = some r) :
    Calls Try.prog 162 #[.int .i64 a0, .int .i64 a1] w fun e w' => e = .returned (.int .i64 r) ∧ Drawn0 w w' := by
  have H : ((impl_in.f a0 0 255).bind fun t1070 => (if t1070 = true then ((impl_in.f a1 0 255).bind fun t1071 => (impl_Along.j0 k a0 a1 (!t1071))) else (impl_Along.j0 k a0 a1 true))) = some r := h; clear h; have HC3 := Aside0.mk H; clear H
  go_enter Try.func162, Try.ntmps162
  go_upto_region 1 with (fail)
  repeat (go_quiet (fail); go_upto_region 1 with (fail))
  go_cut [16] (fun v16 wc => ∃ (kq : Nat) (x16_2 : Bool), v16 = .bool x16_2 ∧ Aside0 (impl_Along.j0 kq a0 a1 x16_2 = some r) ∧ Aside0 (kq ≤ k) ∧ Drawn0 w wc)
  case first =>
    have H := HC3.out; clear HC3; replace H := Option.bind_eq_some_iff.mp H; obtain ⟨t1070, A40, H⟩ := H; replace H : (if t1070 = true then ((impl_in.f a1 0 255).bind fun t1071 => (impl_Along.j0 k a0 a1 (!t1071))) else (impl_Along.j0 k a0 a1 true)) = some r := H; have A4 := Aside0.mk A40; clear A40
    by_cases c5 : t1070 = true
    · subst c5
      replace H : ((impl_in.f a1 0 255).bind fun t1071 => (impl_Along.j0 k a0 a1 (!t1071))) = some r := (by rw [if_pos rfl] at H; exact H); replace H := Option.bind_eq_some_iff.mp H; obtain ⟨t1071, A60, H⟩ := H; replace H : (impl_Along.j0 k a0 a1 (!t1071)) = some r := H; have A6 := Aside0.mk A60; clear A60; have H' := Aside0.mk H; clear H
      go_wp2_with (first | (go_at_call 88; (with_reducible refine (impl_in.calls a0 0 255 true _ A4.out).mono ?_); rintro e w' ⟨rfl, ⟨nd, rfl⟩⟩; (try first | exact ⟨rfl, _, World.drewN_drewN _ _ _⟩ | exact ⟨rfl, _, Eq.trans (World.drewN_drewN _ _ _) (congrArg (World.drewN _) (Nat.add_assoc _ _ _))⟩)) | (go_at_call 88; (with_reducible refine (impl_in.calls a1 0 255 t1071 _ A6.out).mono ?_); rintro e w' ⟨rfl, ⟨nd, rfl⟩⟩; (try first | exact ⟨rfl, _, World.drewN_drewN _ _ _⟩ | exact ⟨rfl, _, Eq.trans (World.drewN_drewN _ _ _) (congrArg (World.drewN _) (Nat.add_assoc _ _ _))⟩)))
      repeat (go_quiet (first | (go_at_call 88; (with_reducible refine (impl_in.calls a0 0 255 true _ A4.out).mono ?_); rintro e w' ⟨rfl, ⟨nd, rfl⟩⟩; (try first | exact ⟨rfl, _, World.drewN_drewN _ _ _⟩ | exact ⟨rfl, _, Eq.trans (World.drewN_drewN _ _ _) (congrArg (World.drewN _) (Nat.add_assoc _ _ _))⟩)) | (go_at_call 88; (with_reducible refine (impl_in.calls a1 0 255 t1071 _ A6.out).mono ?_); rintro e w' ⟨rfl, ⟨nd, rfl⟩⟩; (try first | exact ⟨rfl, _, World.drewN_drewN _ _ _⟩ | exact ⟨rfl, _, Eq.trans (World.drewN_drewN _ _ _) (congrArg (World.drewN _) (Nat.add_assoc _ _ _))⟩))); try go_wp2_with (first | (go_at_call 88; (with_reducible refine (impl_in.calls a0 0 255 true _ A4.out).mono ?_); rintro e w' ⟨rfl, ⟨nd, rfl⟩⟩; (try first | exact ⟨rfl, _, World.drewN_drewN _ _ _⟩ | exact ⟨rfl, _, Eq.trans (World.drewN_drewN _ _ _) (congrArg (World.drewN _) (Nat.add_assoc _ _ _))⟩)) | (go_at_call 88; (with_reducible refine (impl_in.calls a1 0 255 t1071 _ A6.out).mono ?_); rintro e w' ⟨rfl, ⟨nd, rfl⟩⟩; (try first | exact ⟨rfl, _, World.drewN_drewN _ _ _⟩ | exact ⟨rfl, _, Eq.trans (World.drewN_drewN _ _ _) (congrArg (World.drewN _) (Nat.add_assoc _ _ _))⟩))))
      go_meet
      case rel => exact ⟨_, (!t1071), az, H', ⟨lz⟩, by repeat (first | exact Drawn0.refl _ | apply Drawn0.step)⟩
    · replace c5 := Bool.eq_false_iff.mpr c5
      subst c5; replace H : (impl_Along.j0 k a0 a1 true) = some r := (by rw [if_neg (show ¬ (false = true) by decide)] at H; exact H); have H' := Aside0.mk H; clear H
      go_wp2_with (first | (go_at_call 88; (with_reducible refine (impl_in.calls a0 0 255 false _ A4.out).mono ?_); rintro e w' ⟨rfl, ⟨nd, rfl⟩⟩; (try first | exact ⟨rfl, _, World.drewN_drewN _ _ _⟩ | exact ⟨rfl, _, Eq.trans (World.drewN_drewN _ _ _) (congrArg (World.drewN _) (Nat.add_assoc _ _ _))⟩)))
      repeat (go_quiet (first | (go_at_call 88; (with_reducible refine (impl_in.calls a0 0 255 false _ A4.out).mono ?_); rintro e w' ⟨rfl, ⟨nd, rfl⟩⟩; (try first | exact ⟨rfl, _, World.drewN_drewN _ _ _⟩ | exact ⟨rfl, _, Eq.trans (World.drewN_drewN _ _ _) (congrArg (World.drewN _) (Nat.add_assoc _ _ _))⟩))); try go_wp2_with (first | (go_at_call 88; (with_reducible refine (impl_in.calls a0 0 255 false _ A4.out).mono ?_); rintro e w' ⟨rfl, ⟨nd, rfl⟩⟩; (try first | exact ⟨rfl, _, World.drewN_drewN _ _ _⟩ | exact ⟨rfl, _, Eq.trans (World.drewN_drewN _ _ _) (congrArg (World.drewN _) (Nat.add_assoc _ _ _))⟩))))
      go_meet
      case rel => exact ⟨_, (true), az, H', ⟨lz⟩, by repeat (first | exact Drawn0.refl _ | apply Drawn0.step)⟩
  case rest =>
    clear HC3; (try clear c1); (try clear p2); (try clear c5); obtain ⟨kq, x16_2, rfl, HA, HJ2, ⟨mc2, rfl⟩⟩ := hcut
    cases kq with
    | zero => exact absurd HA.out (by simp [impl_Along.j0])
    | succ kj2 =>
      have H := HA.out; clear HA
      simp only [impl_Along.j0] at H
      by_cases c7 : x16_2 = true
      · subst c7
        replace H : (some (-1)) = some r := (by rw [if_pos rfl] at H; exact H); obtain rfl := Option.some.inj H; go_wp2
        repeat (go_quiet (fail); try go_wp2)
        go_ret; exact ⟨by first | rfl | (simp; done) | (simp [*]; done), by repeat (first | exact Drawn0.refl _ | apply Drawn0.step)⟩
      · replace c7 := Bool.eq_false_iff.mpr c7
        subst c7; replace H : (impl_Along.l0 kj2 a0 a1 0 128) = some r := (by rw [if_neg (show ¬ (false = true) by decide)] at H; exact H); have H' := Aside0.mk H; clear H; go_wp2
        repeat (go_quiet (fail); try go_wp2)
        go_loopg [0, 1, 5, 6] kj2 (fun kq v0 v1 v5 v6 w' => ∃ (x0_2 : Int) (x1_2 : Int) (x5_2 : Int) (x6_2 : Int), v0 = .int .i64 x0_2 ∧ v1 = .int .i64 x1_2 ∧ v5 = .int .i64 x5_2 ∧ v6 = .int .i64 x6_2 ∧ Aside0 (impl_Along.l0 kq x0_2 x1_2 x5_2 x6_2 = some r) ∧ Aside0 (kq ≤ kj2) ∧ Drawn0 w w')
        case atStart => exact ⟨(a0), (a1), (0), (128), az, az, az, az, H', ⟨Nat.le_refl _⟩, by repeat (first | exact Drawn0.refl _ | apply Drawn0.step)⟩
        case round =>
          clear H'; (try clear c1); (try clear c2); (try clear p2); (try clear c5); (try clear c7); (try clear p2); obtain ⟨x0_2, x1_2, x5_2, x6_2, rfl, rfl, rfl, rfl, HA, HK2, ⟨m2, rfl⟩⟩ := hrel
          cases gk with
          | zero => exact absurd HA.out (by simp [impl_Along.l0])
          | succ k2 =>
            have H := HA.out; clear HA
            simp only [impl_Along.l0] at H
            by_cases c8 : x6_2 > 0
            · rw [if_pos c8] at H
              have c8b0 : decide (0 < x6_2) = true := decide_eq_true c8; clear c8
              by_cases c9 : x6_2 = 0
              · rw [if_pos c9] at H
                exact absurd H (by simp)
              · rw [if_neg c9] at H
                have c9b0 : (x6_2 == 0) = false := beq_eq_false_iff_ne.mpr c9; have c9b1 : (x6_2 != 0) = true := bne_iff_ne.mpr c9
                by_cases c10 : (Int.tmod (wrap64 (Int.tdiv x1_2 x6_2)) 2) = 0
                · rw [if_pos c10] at H
                  have c10b0 : ((Int.tmod (wrap64 (Int.tdiv x1_2 x6_2)) 2) == 0) = true := beq_iff_eq.mpr c10; have c10b1 : ((Int.tmod (wrap64 (Int.tdiv x1_2 x6_2)) 2) != 0) = false := bne_eq_false_iff_eq.mpr c10; clear c10
                  by_cases c11 : (Int.tmod (wrap64 (Int.tdiv x0_2 x6_2)) 2) = 1
                  · rw [if_pos c11] at H
                    have c11b0 : ((Int.tmod (wrap64 (Int.tdiv x0_2 x6_2)) 2) == 1) = true := beq_iff_eq.mpr c11; have c11b1 : ((Int.tmod (wrap64 (Int.tdiv x0_2 x6_2)) 2) != 1) = false := bne_eq_false_iff_eq.mpr c11; clear c11; have H' := Aside0.mk H; clear H; go_wp2
                    repeat (go_quiet (fail); try go_wp2)
                    go_roundg k2
                    case measure => have := HJ2.out; have := HK2.out; omega
                    case rel => exact ⟨(wrap64 (255 - x1_2)), (wrap64 (255 - x0_2)), (wrap64 (x5_2 + (wrap64 ((wrap64 (x6_2 * x6_2)) * (Go.bits .xor .i64 (wrap64 (3 * (Int.tmod (wrap64 (Int.tdiv x0_2 x6_2)) 2))) (Int.tmod (wrap64 (Int.tdiv x1_2 x6_2)) 2)))))), (wrap64 (Int.tdiv x6_2 2)), az, az, az, az, H', ⟨by have := HJ2.out; have := HK2.out; omega⟩, by repeat (first | exact Drawn0.refl _ | apply Drawn0.step)⟩
                  · rw [if_neg c11] at H
                    have c11b0 : ((Int.tmod (wrap64 (Int.tdiv x0_2 x6_2)) 2) == 1) = false := beq_eq_false_iff_ne.mpr c11; have c11b1 : ((Int.tmod (wrap64 (Int.tdiv x0_2 x6_2)) 2) != 1) = true := bne_iff_ne.mpr c11; have H' := Aside0.mk H; clear H; go_wp2
                    repeat (go_quiet (fail); try go_wp2)
                    go_roundg k2
                    case measure => have := HJ2.out; have := HK2.out; omega
                    case rel => exact ⟨(x1_2), (x0_2), (wrap64 (x5_2 + (wrap64 ((wrap64 (x6_2 * x6_2)) * (Go.bits .xor .i64 (wrap64 (3 * (Int.tmod (wrap64 (Int.tdiv x0_2 x6_2)) 2))) (Int.tmod (wrap64 (Int.tdiv x1_2 x6_2)) 2)))))), (wrap64 (Int.tdiv x6_2 2)), az, az, az, az, H', ⟨by have := HJ2.out; have := HK2.out; omega⟩, by repeat (first | exact Drawn0.refl _ | apply Drawn0.step)⟩
                · rw [if_neg c10] at H
                  have c10b0 : ((Int.tmod (wrap64 (Int.tdiv x1_2 x6_2)) 2) == 0) = false := beq_eq_false_iff_ne.mpr c10; have c10b1 : ((Int.tmod (wrap64 (Int.tdiv x1_2 x6_2)) 2) != 0) = true := bne_iff_ne.mpr c10; have H' := Aside0.mk H; clear H; go_wp2
                  repeat (go_quiet (fail); try go_wp2)
                  go_roundg k2
                  case measure => have := HJ2.out; have := HK2.out; omega
                  case rel => exact ⟨(x0_2), (x1_2), (wrap64 (x5_2 + (wrap64 ((wrap64 (x6_2 * x6_2)) * (Go.bits .xor .i64 (wrap64 (3 * (Int.tmod (wrap64 (Int.tdiv x0_2 x6_2)) 2))) (Int.tmod (wrap64 (Int.tdiv x1_2 x6_2)) 2)))))), (wrap64 (Int.tdiv x6_2 2)), az, az, az, az, H', ⟨by have := HJ2.out; have := HK2.out; omega⟩, by repeat (first | exact Drawn0.refl _ | apply Drawn0.step)⟩
            · rw [if_neg c8] at H
              have c8b0 : decide (0 < x6_2) = false := decide_eq_false c8; clear c8; obtain rfl := Option.some.inj H; go_wp2
              repeat (go_quiet (fail); try go_wp2)
              go_ret; exact ⟨by first | rfl | (simp; done) | (simp [*]; done), by repeat (first | exact Drawn0.refl _ | apply Drawn0.step)⟩

attribute [local go_sem] max2_int min2_int max_two min_two max_three min_three max_four min_four 
set_option linter.unusedVariables false
set_option linter.unusedSimpArgs false

/-! ### impl_Middle: function 163 -/
def impl_Middle.f (a0_0 : Int) (a0_1 : Int) (a0_2 : Int) (a0_3 : Int) : Option (Int × Int) := some (wrap64 (Int.tdiv (wrap64 (a0_0 + a0_2)) 2), wrap64 (Int.tdiv (wrap64 (a0_1 + a0_3)) 2))
set_option maxHeartbeats 8000000 in
set_option maxRecDepth 100000 in
theorem impl_Middle.calls (a0_0 : Int) (a0_1 : Int) (a0_2 : Int) (a0_3 : Int) (r1 : Int) (r2 : Int) (w : World) (h : impl_Middle.f a0_0 a0_1 a0_2 a0_3 = some (r1, r2)) :
    Calls Try.prog 163 #[.agg #[.int .i64 a0_0, .int .i64 a0_1, .int .i64 a0_2, .int .i64 a0_3]] w fun e w' => e = .returned (.tuple #[.int .i64 r1, .int .i64 r2]) ∧ Below w.heap.size w w' := by
  have hu32 := Try.underlying32; have HB := Aside0.mk (Below.refl w.heap.size w); have H : (some (wrap64 (Int.tdiv (wrap64 (a0_0 + a0_2)) 2), wrap64 (Int.tdiv (wrap64 (a0_1 + a0_3)) 2))) = some (r1, r2) := h; clear h
  simp only [Option.some.injEq, Prod.mk.injEq] at H
  obtain ⟨rfl, rfl⟩ := H
  go_enter Try.func163, Try.ntmps163
  go_wp2_with (first | ((with_reducible refine gate_dst (N := 1) rfl ?_); refine box_event ?hg (N := 1) ?hd (cs := #[.int .i64 a0_0, .int .i64 a0_1, .int .i64 a0_2, .int .i64 a0_3]) (t := 32) ?hr ?_; (case hd => rfl); (case hg => rfl); (case hr => first | (go_simp; done) | (go_simp; rfl)); intro gb1072 hg w2 hbox hb; have n0_ := Aside0.mk (below_step (bz HB.out) hb); have n1_ := Aside0.mk (hbox); have n2_ := Aside0.mk ((by rw [hg]; exact (below_size (bz HB.out)) : w.heap.size ≤ gb1072)); have n3_ := Aside0.mk ((by rw [hg]; exact (below_size (bz HB.out)) : w.heap.size ≤ gb1072)); clear HB; have HB := n0_; have BK1072 := n1_; have GW1072 := n2_; have GE1072 := n3_; clear n0_ n1_ n2_ n3_; clear hb hbox hg; have hcz3_0 := fz BK1072.out 0 (.int .i64 a0_0); have hcz3_1 := fz BK1072.out 1 (.int .i64 a0_1); have hcz3_2 := fz BK1072.out 2 (.int .i64 a0_2); have hcz3_3 := fz BK1072.out 3 (.int .i64 a0_3); have hfz3_0 := blk_frozen BK1072.out 0; have hfz3_1 := blk_frozen BK1072.out 1; have hfz3_2 := blk_frozen BK1072.out 2; have hfz3_3 := blk_frozen BK1072.out 3))
  repeat (go_quiet (first | ((with_reducible refine gate_dst (N := 1) rfl ?_); refine box_event ?hg (N := 1) ?hd (cs := #[.int .i64 a0_0, .int .i64 a0_1, .int .i64 a0_2, .int .i64 a0_3]) (t := 32) ?hr ?_; (case hd => rfl); (case hg => rfl); (case hr => first | (go_simp; done) | (go_simp; rfl)); intro gb1072 hg w2 hbox hb; have n0_ := Aside0.mk (below_step (bz HB.out) hb); have n1_ := Aside0.mk (hbox); have n2_ := Aside0.mk ((by rw [hg]; exact (below_size (bz HB.out)) : w.heap.size ≤ gb1072)); have n3_ := Aside0.mk ((by rw [hg]; exact (below_size (bz HB.out)) : w.heap.size ≤ gb1072)); clear HB; have HB := n0_; have BK1072 := n1_; have GW1072 := n2_; have GE1072 := n3_; clear n0_ n1_ n2_ n3_; clear hb hbox hg; have hcz3_0 := fz BK1072.out 0 (.int .i64 a0_0); have hcz3_1 := fz BK1072.out 1 (.int .i64 a0_1); have hcz3_2 := fz BK1072.out 2 (.int .i64 a0_2); have hcz3_3 := fz BK1072.out 3 (.int .i64 a0_3); have hfz3_0 := blk_frozen BK1072.out 0; have hfz3_1 := blk_frozen BK1072.out 1; have hfz3_2 := blk_frozen BK1072.out 2; have hfz3_3 := blk_frozen BK1072.out 3)); try go_wp2_with (first | ((with_reducible refine gate_dst (N := 1) rfl ?_); refine box_event ?hg (N := 1) ?hd (cs := #[.int .i64 a0_0, .int .i64 a0_1, .int .i64 a0_2, .int .i64 a0_3]) (t := 32) ?hr ?_; (case hd => rfl); (case hg => rfl); (case hr => first | (go_simp; done) | (go_simp; rfl)); intro gb1072 hg w2 hbox hb; have n0_ := Aside0.mk (below_step (bz HB.out) hb); have n1_ := Aside0.mk (hbox); have n2_ := Aside0.mk ((by rw [hg]; exact (below_size (bz HB.out)) : w.heap.size ≤ gb1072)); have n3_ := Aside0.mk ((by rw [hg]; exact (below_size (bz HB.out)) : w.heap.size ≤ gb1072)); clear HB; have HB := n0_; have BK1072 := n1_; have GW1072 := n2_; have GE1072 := n3_; clear n0_ n1_ n2_ n3_; clear hb hbox hg; have hcz3_0 := fz BK1072.out 0 (.int .i64 a0_0); have hcz3_1 := fz BK1072.out 1 (.int .i64 a0_1); have hcz3_2 := fz BK1072.out 2 (.int .i64 a0_2); have hcz3_3 := fz BK1072.out 3 (.int .i64 a0_3); have hfz3_0 := blk_frozen BK1072.out 0; have hfz3_1 := blk_frozen BK1072.out 1; have hfz3_2 := blk_frozen BK1072.out 2; have hfz3_3 := blk_frozen BK1072.out 3)))
  go_ret2
  exact ⟨ez, b1 GE1072.out HB.out⟩

attribute [local go_sem] max2_int min2_int max_two min_two max_three min_three max_four min_four 
set_option linter.unusedVariables false
set_option linter.unusedSimpArgs false

/-! ### impl_KeyOf: function 159 -/
def impl_KeyOf.f (k : Nat) (a0_0 : Int) (a0_1 : Int) (a0_2 : Int) (a0_3 : Int) : Option (Int) := (impl_Middle.f a0_0 a0_1 a0_2 a0_3).bind fun bt1074 => ((impl_Along.f k bt1074.1 bt1074.2).bind fun t1076 => (some t1076))
theorem impl_KeyOf.mono : ∀ a0 a1 a2 a3 k, LeO (impl_KeyOf.f k a0 a1 a2 a3) (impl_KeyOf.f (k + 1) a0 a1 a2 a3) := by
  intro a0 a1 a2 a3 k
  unfold impl_KeyOf.f
  repeat' first | (with_reducible first | exact impl_Along.mono _ _ _ | exact LeO.refl _ | exact LeO.none _ | refine LeO.ite ?_ ?_ | refine LeO.bind ?_ (fun _ => ?_)) | exact impl_Along.mono _ _ _ | exact LeO.none _ | refine LeO.ite ?_ ?_ | refine LeO.bind ?_ (fun _ => ?_)
set_option maxHeartbeats 8000000 in
set_option maxRecDepth 100000 in
theorem impl_KeyOf.calls (k : Nat) (a0_0 : Int) (a0_1 : Int) (a0_2 : Int) (a0_3 : Int) (r : Int) (w : World) (h : impl_KeyOf.f k a0_0 a0_1 a0_2 a0_3 = some r) :
    Calls Try.prog 159 #[.agg #[.int .i64 a0_0, .int .i64 a0_1, .int .i64 a0_2, .int .i64 a0_3]] w fun e w' => e = .returned (.int .i64 r) ∧ Below w.heap.size w w' := by
  have hu32 := Try.underlying32; have HB := Aside0.mk (Below.refl w.heap.size w); have H : ((impl_Middle.f a0_0 a0_1 a0_2 a0_3).bind fun bt1074 => ((impl_Along.f k bt1074.1 bt1074.2).bind fun t1076 => (some t1076))) = some r := h; clear h; replace H := Option.bind_eq_some_iff.mp H; obtain ⟨⟨t1074, t1075⟩, A20, H⟩ := H; replace H : ((impl_Along.f k t1074 t1075).bind fun t1076 => (some t1076)) = some r := H; have A2 := Aside0.mk A20; clear A20; replace H := Option.bind_eq_some_iff.mp H; obtain ⟨t1076, A30, H⟩ := H; replace H : (some t1076) = some r := H; have A3 := Aside0.mk A30; clear A30; obtain rfl := Option.some.inj H
  go_enter Try.func159, Try.ntmps159
  go_wp2_with (first | ((with_reducible refine gate_dst (N := 1) rfl ?_); refine box_event ?hg (N := 1) ?hd (cs := #[.int .i64 a0_0, .int .i64 a0_1, .int .i64 a0_2, .int .i64 a0_3]) (t := 32) ?hr ?_; (case hd => rfl); (case hg => rfl); (case hr => first | (go_simp; done) | (go_simp; rfl)); intro gb1073 hg w4 hbox hb; have n0_ := Aside0.mk (below_step (bz HB.out) hb); have n1_ := Aside0.mk (hbox); have n2_ := Aside0.mk ((by rw [hg]; exact (below_size (bz HB.out)) : w.heap.size ≤ gb1073)); have n3_ := Aside0.mk ((by rw [hg]; exact (below_size (bz HB.out)) : w.heap.size ≤ gb1073)); clear HB; have HB := n0_; have BK1073 := n1_; have GW1073 := n2_; have GE1073 := n3_; clear n0_ n1_ n2_ n3_; clear hb hbox hg; have hcz5_0 := fz BK1073.out 0 (.int .i64 a0_0); have hcz5_1 := fz BK1073.out 1 (.int .i64 a0_1); have hcz5_2 := fz BK1073.out 2 (.int .i64 a0_2); have hcz5_3 := fz BK1073.out 3 (.int .i64 a0_3); have hfz5_0 := blk_frozen BK1073.out 0; have hfz5_1 := blk_frozen BK1073.out 1; have hfz5_2 := blk_frozen BK1073.out 2; have hfz5_3 := blk_frozen BK1073.out 3) | ((with_reducible refine gate_callee (f := 163) rfl ?_); refine goesL_ (some 4) rfl rfl Try.func163 (by kernel_rfl) rfl #[.agg #[.int .i64 a0_0, .int .i64 a0_1, .int .i64 a0_2, .int .i64 a0_3]] rfl dz ?_; (with_reducible refine (impl_Middle.calls a0_0 a0_1 a0_2 a0_3 t1074 t1075 _ A2.out).mono ?_); rintro e w6 ⟨rfl, hb⟩; refine ⟨_, rfl, ?_⟩; have n0_ := Aside0.mk (blk_below (g := gb1073) (o := .cells #[.int .i64 a0_0, .int .i64 a0_1, .int .i64 a0_2, .int .i64 a0_3] 32 (0, 0)) (kz BK1073.out) hb); have n1_ := Aside0.mk (below_step (b1 GE1073.out HB.out) hb); clear BK1073; clear HB; have BK1073 := n0_; have HB := n1_; clear n0_ n1_; (try clear hb); (try clear hb2); (try clear hk); (try clear hi)) | ((with_reducible refine gate_callee (f := 162) rfl ?_); refine goesL_ (some 7) rfl rfl Try.func162 (by kernel_rfl) rfl #[.int .i64 t1074, .int .i64 t1075] rfl dz ?_; (with_reducible refine (impl_Along.calls k t1074 t1075 t1076 _ A3.out).mono ?_); rintro e w' ⟨rfl, ⟨nd, rfl⟩⟩; refine ⟨_, rfl, ?_⟩))
  go_ret; exact ⟨ez, b1 GE1073.out HB.out⟩

attribute [local go_sem] max2_int min2_int max_two min_two max_three min_three max_four min_four 
set_option linter.unusedVariables false
set_option linter.unusedSimpArgs false

/-! ### impl_order: function 148 -/
def impl_order.f (k : Nat) (a0_0 : Int) (a0_1 : Int) (a0_2 : Int) (a0_3 : Int) (a0_4 : Int) (a1_0 : Int) (a1_1 : Int) (a1_2 : Int) (a1_3 : Int) (a1_4 : Int) : Option (Int) := (impl_KeyOf.f k a0_1 a0_2 a0_3 a0_4).bind fun t1079 => ((impl_KeyOf.f k a1_1 a1_2 a1_3 a1_4).bind fun t1080 => ((cmp_Compare_int.f t1079 t1080).bind fun t1081 => ((cmp_Compare_int.f a0_0 a1_0).bind fun t1082 => ((cmp_Or_int.f k (([t1081, t1082] : List Int))).bind fun t1086 => (some t1086)))))
theorem impl_order.mono : ∀ a0 a1 a2 a3 a4 a5 a6 a7 a8 a9 k, LeO (impl_order.f k a0 a1 a2 a3 a4 a5 a6 a7 a8 a9) (impl_order.f (k + 1) a0 a1 a2 a3 a4 a5 a6 a7 a8 a9) := by
  intro a0 a1 a2 a3 a4 a5 a6 a7 a8 a9 k
  unfold impl_order.f
  repeat' first | (with_reducible first | exact cmp_Or_int.mono _ _ | exact impl_KeyOf.mono _ _ _ _ _ | exact LeO.refl _ | exact LeO.none _ | refine LeO.ite ?_ ?_ | refine LeO.bind ?_ (fun _ => ?_)) | exact cmp_Or_int.mono _ _ | exact impl_KeyOf.mono _ _ _ _ _ | exact LeO.none _ | refine LeO.ite ?_ ?_ | refine LeO.bind ?_ (fun _ => ?_)
def impl_order.T1 : Bool × List (List Nat × List Nat) := (true, [([], []), ([0], [0]), ([1], [1]), ([], []), ([3], [3]), ([4, 2], [4]), ([2, 5, 5], [2, 5]), ([], []), ([7], [7]), ([], []), ([9], [9]), ([8, 10, 6], [8, 10]), ([6, 11], [6, 11]), ([12, 11], [12]), ([13, 13, 0, 1, 2, 3, 4, 5, 6, 7, 8, 9, 10, 11, 12, 13], [13])])
def impl_order.B1 : List Nat := [0, 1, 3, 0, 8, 31, 63, 0, 128, 0, 512, 2047, 4095, 8191, 16383]
theorem impl_order.tab1 : rtab .any (opsOf Try.f148 1) = impl_order.T1 := by kernel_rfl
theorem impl_order.bits1 : waitsOk impl_order.T1.2 impl_order.B1 = true := by kernel_rfl
set_option maxHeartbeats 8000000 in
set_option maxRecDepth 100000 in
theorem impl_order.calls (k : Nat) (a0_0 : Int) (a0_1 : Int) (a0_2 : Int) (a0_3 : Int) (a0_4 : Int) (a1_0 : Int) (a1_1 : Int) (a1_2 : Int) (a1_3 : Int) (a1_4 : Int) (r : Int) (w : World) (h : impl_order.f k a0_0 a0_1 a0_2 a0_3 a0_4 a1_0 a1_1 a1_2 a1_3 a1_4 = some r) :
    Calls Try.prog 148 #[.agg #[.int .i64 a0_0, .int .i64 a0_1, .int .i64 a0_2, .int .i64 a0_3, .int .i64 a0_4], .agg #[.int .i64 a1_0, .int .i64 a1_1, .int .i64 a1_2, .int .i64 a1_3, .int .i64 a1_4]] w fun e w' => e = .returned (.int .i64 r) ∧ Below w.heap.size w w' := by
  have hu34 := Try.underlying34; have hu32 := Try.underlying32; have HB := Aside0.mk (Below.refl w.heap.size w); have H : ((impl_KeyOf.f k a0_1 a0_2 a0_3 a0_4).bind fun t1079 => ((impl_KeyOf.f k a1_1 a1_2 a1_3 a1_4).bind fun t1080 => ((cmp_Compare_int.f t1079 t1080).bind fun t1081 => ((cmp_Compare_int.f a0_0 a1_0).bind fun t1082 => ((cmp_Or_int.f k (([t1081, t1082] : List Int))).bind fun t1086 => (some t1086)))))) = some r := h; clear h; replace H := Option.bind_eq_some_iff.mp H; obtain ⟨t1079, A30, H⟩ := H; replace H : ((impl_KeyOf.f k a1_1 a1_2 a1_3 a1_4).bind fun t1080 => ((cmp_Compare_int.f t1079 t1080).bind fun t1081 => ((cmp_Compare_int.f a0_0 a1_0).bind fun t1082 => ((cmp_Or_int.f k (([t1081, t1082] : List Int))).bind fun t1086 => (some t1086))))) = some r := H; have A3 := Aside0.mk A30; clear A30; replace H := Option.bind_eq_some_iff.mp H; obtain ⟨t1080, A40, H⟩ := H; replace H : ((cmp_Compare_int.f t1079 t1080).bind fun t1081 => ((cmp_Compare_int.f a0_0 a1_0).bind fun t1082 => ((cmp_Or_int.f k (([t1081, t1082] : List Int))).bind fun t1086 => (some t1086)))) = some r := H; have A4 := Aside0.mk A40; clear A40; replace H := Option.bind_eq_some_iff.mp H; obtain ⟨t1081, A50, H⟩ := H; replace H : ((cmp_Compare_int.f a0_0 a1_0).bind fun t1082 => ((cmp_Or_int.f k (([t1081, t1082] : List Int))).bind fun t1086 => (some t1086))) = some r := H; have A5 := Aside0.mk A50; clear A50; replace H := Option.bind_eq_some_iff.mp H; obtain ⟨t1082, A60, H⟩ := H; replace H : ((cmp_Or_int.f k (([t1081, t1082] : List Int))).bind fun t1086 => (some t1086)) = some r := H; have A6 := Aside0.mk A60; clear A60; obtain ⟨y1083, hy1083⟩ : ∃ y_ : List Int, y_ = (([t1081, t1082] : List Int)) := ⟨_, rfl⟩
  replace H : ((cmp_Or_int.f k y1083).bind fun t1086 => (some t1086)) = some r := by first | (rw [hy1083]; with_reducible exact H) | (have H2_ := (Option.bind_some _ _).symm.trans H; rw [hy1083]; with_reducible exact H2_) | (have H2_ := (Option.bind_some _ _).symm.trans H; with_reducible exact H2_) | with_reducible exact H | (rw [hy1083]; exact H) | exact H
  have Ny1083 := Aside0.mk hy1083; clear hy1083; replace H := Option.bind_eq_some_iff.mp H; obtain ⟨t1086, A70, H⟩ := H; replace H : (some t1086) = some r := H; have A7 := Aside0.mk A70; clear A70; obtain rfl := Option.some.inj H
  go_enter Try.func148, Try.ntmps148
  try go_wp2_with (first | ((with_reducible refine gate_dst (N := 2) rfl ?_); refine box_event ?hg (N := 2) ?hd (cs := #[.int .i64 a0_0, .int .i64 a0_1, .int .i64 a0_2, .int .i64 a0_3, .int .i64 a0_4]) (t := 34) ?hr ?_; (case hd => rfl); (case hg => rfl); (case hr => first | (go_simp; done) | (go_simp; rfl)); intro gb1077 hg w8 hbox hb; have n0_ := Aside0.mk (below_step (bz HB.out) hb); have n1_ := Aside0.mk (hbox); have n2_ := Aside0.mk ((by rw [hg]; exact (below_size (bz HB.out)) : w.heap.size ≤ gb1077)); have n3_ := Aside0.mk ((by rw [hg]; exact (below_size (bz HB.out)) : w.heap.size ≤ gb1077)); clear HB; have HB := n0_; have BK1077 := n1_; have GW1077 := n2_; have GE1077 := n3_; clear n0_ n1_ n2_ n3_; clear hb hbox hg) | ((with_reducible refine gate_dst (N := 3) rfl ?_); refine box_event ?hg (N := 3) ?hd (cs := #[.int .i64 a1_0, .int .i64 a1_1, .int .i64 a1_2, .int .i64 a1_3, .int .i64 a1_4]) (t := 34) ?hr ?_; (case hd => rfl); (case hg => rfl); (case hr => first | (go_simp; done) | (go_simp; rfl)); intro gb1078 hg w9 hbox hb; have n0_ := Aside0.mk (blk_below (g := gb1077) (o := .cells #[.int .i64 a0_0, .int .i64 a0_1, .int .i64 a0_2, .int .i64 a0_3, .int .i64 a0_4] 34 (0, 0)) (kz BK1077.out) hb); have n1_ := Aside0.mk (below_step (b1 GE1077.out HB.out) hb); have n2_ := Aside0.mk (hbox); have n3_ := Aside0.mk ((by rw [hg]; exact (below_size (b1 GE1077.out HB.out)) : w.heap.size ≤ gb1078)); have n4_ := Aside0.mk ((by rw [hg]; exact (below_size (b1 GE1077.out HB.out)) : w.heap.size ≤ gb1078)); have n5_ := Aside0.mk ((by rw [hg]; exact Nat.ne_of_lt (blk_lt (g := gb1077) (o := .cells #[.int .i64 a0_0, .int .i64 a0_1, .int .i64 a0_2, .int .i64 a0_3, .int .i64 a0_4] 34 (0, 0)) (kz BK1077.out)) : gb1077 ≠ gb1078)); have n6_ := Aside0.mk ((by rw [hg]; exact Nat.ne_of_gt (blk_lt (g := gb1077) (o := .cells #[.int .i64 a0_0, .int .i64 a0_1, .int .i64 a0_2, .int .i64 a0_3, .int .i64 a0_4] 34 (0, 0)) (kz BK1077.out)) : gb1078 ≠ gb1077)); clear BK1077; clear HB; have BK1077 := n0_; have HB := n1_; have BK1078 := n2_; have GW1078 := n3_; have GE1078 := n4_; have NB1077_1078 := n5_; have NB1078_1077 := n6_; clear n0_ n1_ n2_ n3_ n4_ n5_ n6_; clear hb hbox hg))
  have n0_ := Aside0.mk (blk_drew BK1077.out); have n1_ := Aside0.mk (blk_drew BK1078.out); have n2_ := Aside0.mk (below_drew1 HB.out); clear BK1077; clear BK1078; clear HB; have BK1077 := n0_; have BK1078 := n1_; have HB := n2_; clear n0_ n1_ n2_
  refine start_ (n := 15) (S := fun w' => w'.cell? ⟨gb1077, 0, none⟩ = some (.int .i64 a0_0) ∧ w'.cell? ⟨gb1077, 1, none⟩ = some (.int .i64 a0_1) ∧ w'.cell? ⟨gb1077, 2, none⟩ = some (.int .i64 a0_2) ∧ w'.cell? ⟨gb1077, 3, none⟩ = some (.int .i64 a0_3) ∧ w'.cell? ⟨gb1077, 4, none⟩ = some (.int .i64 a0_4) ∧ w'.cell? ⟨gb1078, 0, none⟩ = some (.int .i64 a1_0) ∧ w'.cell? ⟨gb1078, 1, none⟩ = some (.int .i64 a1_1) ∧ w'.cell? ⟨gb1078, 2, none⟩ = some (.int .i64 a1_2) ∧ w'.cell? ⟨gb1078, 3, none⟩ = some (.int .i64 a1_3) ∧ w'.cell? ⟨gb1078, 4, none⟩ = some (.int .i64 a1_4)) (ds := []) #[false, false, false, false, false, false, false, false, false, false, false, false, false, false, false] (by kernel_rfl) rfl rfl ⟨(blk_cell BK1077.out 0).trans rfl, (blk_cell BK1077.out 1).trans rfl, (blk_cell BK1077.out 2).trans rfl, (blk_cell BK1077.out 3).trans rfl, (blk_cell BK1077.out 4).trans rfl, (blk_cell BK1078.out 0).trans rfl, (blk_cell BK1078.out 1).trans rfl, (blk_cell BK1078.out 2).trans rfl, (blk_cell BK1078.out 3).trans rfl, (blk_cell BK1078.out 4).trans rfl⟩ (fun hHeld => ?_); refine with_tabW impl_order.tab1 impl_order.bits1 (fun HT_ HW_ => ?_)
  generalize w9.drew = w10 at BK1077 BK1078 HB hHeld ⊢
  refine pure_ (i := 0) (N := some 5) (v := ?_) (a' := ?_) #[true, false, false, false, false, false, false, false, false, false, false, false, false, false, false] rfl rfl (any_of HT_.out (by kernel_rfl)) (fun _ _ _ h => h) (Or.inl ⟨by rfl, ?_⟩) ?_ ?_; rotate_left
  · intro w'
    go_simp
    with_reducible rfl
  rotate_left
  · exact pz
  refine pure_ (i := 3) (N := some 8) (v := ?_) (a' := ?_) #[true, false, false, true, false, false, false, false, false, false, false, false, false, false, false] rfl rfl (any_of HT_.out (by kernel_rfl)) (fun _ _ _ h => h) (Or.inl ⟨by rfl, ?_⟩) ?_ ?_; rotate_left
  · intro w'
    go_simp
    with_reducible rfl
  rotate_left
  · exact pz
  refine pure_ (i := 7) (N := some 12) (v := ?_) (a' := ?_) #[true, false, false, true, false, false, false, true, false, false, false, false, false, false, false] rfl rfl (any_of HT_.out (by kernel_rfl)) (fun _ _ _ h => h) (Or.inl ⟨by rfl, ?_⟩) ?_ ?_; rotate_left
  · intro w'
    go_simp
    with_reducible rfl
  rotate_left
  · exact pz
  refine pure_ (i := 9) (N := some 14) (v := ?_) (a' := ?_) #[true, false, false, true, false, false, false, true, false, true, false, false, false, false, false] rfl rfl (any_of HT_.out (by kernel_rfl)) (fun _ _ _ h => h) (Or.inl ⟨by rfl, ?_⟩) ?_ ?_; rotate_left
  · intro w'
    go_simp
    with_reducible rfl
  rotate_left
  · exact pz
  refine take_ (i := 1) (N := some 6) (v := ?_) (a' := ?_) #[true, true, false, true, false, false, false, true, false, true, false, false, false, false, false] rfl rfl (take_ofW HT_.out HW_.out (by kernel_rfl)) (fun _ _ _ h => h) (Or.inl ⟨by rfl, ?_⟩) hHeld ?_ ?_; rotate_left
  · rintro w' ⟨s0, s1, s2, s3, s4, s5, s6, s7, s8, s9⟩
    go_simp
    with_reducible rfl
  rotate_left
  · exact pz
  refine take_ (i := 4) (N := some 9) (v := ?_) (a' := ?_) #[true, true, false, true, true, false, false, true, false, true, false, false, false, false, false] rfl rfl (take_ofW HT_.out HW_.out (by kernel_rfl)) (fun _ _ _ h => h) (Or.inl ⟨by rfl, ?_⟩) hHeld ?_ ?_; rotate_left
  · rintro w' ⟨s0, s1, s2, s3, s4, s5, s6, s7, s8, s9⟩
    go_simp
    with_reducible rfl
  rotate_left
  · exact pz
  refine take_ (i := 8) (N := some 13) (v := ?_) (a' := ?_) #[true, true, false, true, true, false, false, true, true, true, false, false, false, false, false] rfl rfl (take_ofW HT_.out HW_.out (by kernel_rfl)) (fun _ _ _ h => h) (Or.inl ⟨by rfl, ?_⟩) hHeld ?_ ?_; rotate_left
  · rintro w' ⟨s0, s1, s2, s3, s4, s5, s6, s7, s8, s9⟩
    go_simp
    with_reducible rfl
  rotate_left
  · exact pz
  refine take_ (i := 10) (N := some 15) (v := ?_) (a' := ?_) #[true, true, false, true, true, false, false, true, true, true, true, false, false, false, false] rfl rfl (take_ofW HT_.out HW_.out (by kernel_rfl)) (fun _ _ _ h => h) (Or.inl ⟨by rfl, ?_⟩) hHeld ?_ ?_; rotate_left
  · rintro w' ⟨s0, s1, s2, s3, s4, s5, s6, s7, s8, s9⟩
    go_simp
    with_reducible rfl
  rotate_left
  · exact pz
  refine one_ (i := 2) (N := some 7) #[true, true, true, true, true, false, false, true, true, true, true, false, false, false, false] rfl rfl (one_of HT_.out (by kernel_rfl)) (by decide) (fun K hK => ?_); refine goes_ Try.func159 (by kernel_rfl) rfl #[.agg #[.int .i64 a0_1, .int .i64 a0_2, .int .i64 a0_3, .int .i64 a0_4]] (by rfl) rfl rfl dz ?_
  with_reducible refine (impl_KeyOf.calls k a0_1 a0_2 a0_3 a0_4 t1079 _ A3.out).mono ?_
  rintro e w11 ⟨rfl, hb⟩
  refine ⟨_, rfl, ?_⟩; have n0_ := Aside0.mk (blk_below (g := gb1077) (o := .cells #[.int .i64 a0_0, .int .i64 a0_1, .int .i64 a0_2, .int .i64 a0_3, .int .i64 a0_4] 34 (0, 0)) (kz BK1077.out) hb); have n1_ := Aside0.mk (blk_below (g := gb1078) (o := .cells #[.int .i64 a1_0, .int .i64 a1_1, .int .i64 a1_2, .int .i64 a1_3, .int .i64 a1_4] 34 (0, 0)) (kz BK1078.out) hb); have n2_ := Aside0.mk (below_step (b2 GE1077.out GE1078.out HB.out) hb); clear BK1077; clear BK1078; clear HB; have BK1077 := n0_; have BK1078 := n1_; have HB := n2_; clear n0_ n1_ n2_
  (try clear hb)
  (try clear hb2)
  (try clear hk)
  (try clear hi)
  refine hK.out _ _ ⟨(blk_cell BK1077.out 0).trans rfl, (blk_cell BK1077.out 1).trans rfl, (blk_cell BK1077.out 2).trans rfl, (blk_cell BK1077.out 3).trans rfl, (blk_cell BK1077.out 4).trans rfl, (blk_cell BK1078.out 0).trans rfl, (blk_cell BK1078.out 1).trans rfl, (blk_cell BK1078.out 2).trans rfl, (blk_cell BK1078.out 3).trans rfl, (blk_cell BK1078.out 4).trans rfl⟩ (fun hHeld => ?_); clear hK K; refine norm_ (a' := ?_) ?_ ?_; rotate_left
  · show Act.put _ (some 7) _ = _
    simp only [Act.put, List.setIfInBounds_toArray, List.set_cons_zero, List.set_cons_succ, i64_w, i32_w]
    rfl
  refine one_ (i := 5) (N := some 10) #[true, true, true, true, true, true, false, true, true, true, true, false, false, false, false] rfl rfl (one_of HT_.out (by kernel_rfl)) (by decide) (fun K hK => ?_); refine goes_ Try.func159 (by kernel_rfl) rfl #[.agg #[.int .i64 a1_1, .int .i64 a1_2, .int .i64 a1_3, .int .i64 a1_4]] (by rfl) rfl rfl dz ?_
  with_reducible refine (impl_KeyOf.calls k a1_1 a1_2 a1_3 a1_4 t1080 _ A4.out).mono ?_
  rintro e w12 ⟨rfl, hb⟩
  refine ⟨_, rfl, ?_⟩; have n0_ := Aside0.mk (blk_below (g := gb1077) (o := .cells #[.int .i64 a0_0, .int .i64 a0_1, .int .i64 a0_2, .int .i64 a0_3, .int .i64 a0_4] 34 (0, 0)) (kz BK1077.out) hb); have n1_ := Aside0.mk (blk_below (g := gb1078) (o := .cells #[.int .i64 a1_0, .int .i64 a1_1, .int .i64 a1_2, .int .i64 a1_3, .int .i64 a1_4] 34 (0, 0)) (kz BK1078.out) hb); have n2_ := Aside0.mk (below_step (b2 GE1077.out GE1078.out HB.out) hb); clear BK1077; clear BK1078; clear HB; have BK1077 := n0_; have BK1078 := n1_; have HB := n2_; clear n0_ n1_ n2_
  (try clear hb)
  (try clear hb2)
  (try clear hk)
  (try clear hi)
  refine hK.out _ _ ⟨(blk_cell BK1077.out 0).trans rfl, (blk_cell BK1077.out 1).trans rfl, (blk_cell BK1077.out 2).trans rfl, (blk_cell BK1077.out 3).trans rfl, (blk_cell BK1077.out 4).trans rfl, (blk_cell BK1078.out 0).trans rfl, (blk_cell BK1078.out 1).trans rfl, (blk_cell BK1078.out 2).trans rfl, (blk_cell BK1078.out 3).trans rfl, (blk_cell BK1078.out 4).trans rfl⟩ (fun hHeld => ?_); clear hK K; refine norm_ (a' := ?_) ?_ ?_; rotate_left
  · show Act.put _ (some 10) _ = _
    simp only [Act.put, List.setIfInBounds_toArray, List.set_cons_zero, List.set_cons_succ, i64_w, i32_w]
    rfl
  refine one_ (i := 6) (N := some 11) #[true, true, true, true, true, true, true, true, true, true, true, false, false, false, false] rfl rfl (one_of HT_.out (by kernel_rfl)) (by decide) (fun K hK => ?_); refine goes_ Try.func142 (by kernel_rfl) rfl #[.int .i64 t1079, .int .i64 t1080] (by rfl) rfl rfl dz ?_
  with_reducible refine (cmp_Compare_int.calls t1079 t1080 t1081 _ A5.out).mono ?_
  rintro e w' ⟨rfl, ⟨nd, rfl⟩⟩
  refine ⟨_, rfl, ?_⟩; refine hK.out _ _ ⟨(blk_cell BK1077.out 0).trans rfl, (blk_cell BK1077.out 1).trans rfl, (blk_cell BK1077.out 2).trans rfl, (blk_cell BK1077.out 3).trans rfl, (blk_cell BK1077.out 4).trans rfl, (blk_cell BK1078.out 0).trans rfl, (blk_cell BK1078.out 1).trans rfl, (blk_cell BK1078.out 2).trans rfl, (blk_cell BK1078.out 3).trans rfl, (blk_cell BK1078.out 4).trans rfl⟩ (fun hHeld => ?_); clear hK K; refine norm_ (a' := ?_) ?_ ?_; rotate_left
  · show Act.put _ (some 11) _ = _
    simp only [Act.put, List.setIfInBounds_toArray, List.set_cons_zero, List.set_cons_succ, i64_w, i32_w]
    rfl
  refine one_ (i := 11) (N := some 16) #[true, true, true, true, true, true, true, true, true, true, true, true, false, false, false] rfl rfl (one_of HT_.out (by kernel_rfl)) (by decide) (fun K hK => ?_); refine goes_ Try.func142 (by kernel_rfl) rfl #[.int .i64 a0_0, .int .i64 a1_0] (by rfl) rfl rfl dz ?_
  with_reducible refine (cmp_Compare_int.calls a0_0 a1_0 t1082 _ A6.out).mono ?_
  rintro e w' ⟨rfl, ⟨nd, rfl⟩⟩
  refine ⟨_, rfl, ?_⟩; refine hK.out _ _ ⟨(blk_cell BK1077.out 0).trans rfl, (blk_cell BK1077.out 1).trans rfl, (blk_cell BK1077.out 2).trans rfl, (blk_cell BK1077.out 3).trans rfl, (blk_cell BK1077.out 4).trans rfl, (blk_cell BK1078.out 0).trans rfl, (blk_cell BK1078.out 1).trans rfl, (blk_cell BK1078.out 2).trans rfl, (blk_cell BK1078.out 3).trans rfl, (blk_cell BK1078.out 4).trans rfl⟩ (fun hHeld => ?_); clear hK K; refine norm_ (a' := ?_) ?_ ?_; rotate_left
  · show Act.put _ (some 16) _ = _
    simp only [Act.put, List.setIfInBounds_toArray, List.set_cons_zero, List.set_cons_succ, i64_w, i32_w]
    rfl
  refine one_ (i := 12) (N := some 17) #[true, true, true, true, true, true, true, true, true, true, true, true, true, false, false] rfl rfl (one_of HT_.out (by kernel_rfl)) (by decide) (fun K hK => ?_)
  refine Kd.R_lit_step (Kd.int .i64) _ 3 ?hg (N := 17) ?hd (xs := ([t1081, t1082] : List Int)) (inner := [.int .i64 t1081, .int .i64 t1082]) (ok := fun _ => True) (okp := fun _ => True) ?hr ?hp (fun _ hk => hk) trivial (Below.refl _ _) (Nat.le_refl _) (by simp) ?_; (case hd => rfl); (case hg => rfl); (case hr => first | (go_simp; done) | (go_simp; rfl)); (case hp => exact (Reps.one (show Kd.M (Kd.int .i64) _ _ _ t1081 [.int .i64 t1081] from rfl) (Reps.one (show Kd.M (Kd.int .i64) _ _ _ t1082 [.int .i64 t1082] from rfl) (Reps.none _ _))))
  intro v1084 w13 ho14 hb hg_ hnew_
  clear hg_ hnew_
  (first | rw [← Ny1083.out] at ho14 | (simp only [Int.reduceToNat] at ho14; rw [← Ny1083.out] at ho14))
  have n0_ := Aside0.mk (Kd.R_lower ho14 (below_size (b2 GE1077.out GE1078.out HB.out))); have n1_ := Aside0.mk (blk_below (g := gb1077) (o := .cells #[.int .i64 a0_0, .int .i64 a0_1, .int .i64 a0_2, .int .i64 a0_3, .int .i64 a0_4] 34 (0, 0)) (kz BK1077.out) hb); have n2_ := Aside0.mk (blk_below (g := gb1078) (o := .cells #[.int .i64 a1_0, .int .i64 a1_1, .int .i64 a1_2, .int .i64 a1_3, .int .i64 a1_4] 34 (0, 0)) (kz BK1078.out) hb); have n3_ := Aside0.mk (below_step (b2 GE1077.out GE1078.out HB.out) hb); clear BK1077; clear BK1078; clear HB; have HO1085 := n0_; have BK1077 := n1_; have BK1078 := n2_; have HB := n3_; clear n0_ n1_ n2_ n3_; clear hb ho14; obtain ⟨Ao15, co15, eo15⟩ := Kd.R_slice HO1085.out
  (first | subst eo15 | (injection eo15 with f1_ f2_ f3_; have f4_ := f1_.symm; have f5_ := f3_.symm; clear f1_ f2_ f3_; subst f4_; subst f5_))
  refine hK.out _ _ ⟨(blk_cell BK1077.out 0).trans rfl, (blk_cell BK1077.out 1).trans rfl, (blk_cell BK1077.out 2).trans rfl, (blk_cell BK1077.out 3).trans rfl, (blk_cell BK1077.out 4).trans rfl, (blk_cell BK1078.out 0).trans rfl, (blk_cell BK1078.out 1).trans rfl, (blk_cell BK1078.out 2).trans rfl, (blk_cell BK1078.out 3).trans rfl, (blk_cell BK1078.out 4).trans rfl⟩ (fun hHeld => ?_); clear hK K; refine norm_ (a' := ?_) ?_ ?_; rotate_left
  · show Act.put _ (some 17) _ = _
    simp only [Act.put, List.setIfInBounds_toArray, List.set_cons_zero, List.set_cons_succ, i64_w, i32_w]
    rfl
  refine one_ (i := 13) (N := some 18) #[true, true, true, true, true, true, true, true, true, true, true, true, true, true, false] rfl rfl (one_of HT_.out (by kernel_rfl)) (by decide) (fun K hK => ?_); refine goes_ Try.func158 (by kernel_rfl) rfl #[.slice Ao15 y1083.length co15] (by rfl) rfl rfl dz ?_
  with_reducible refine (cmp_Or_int.calls k _ _ y1083 t1086 _ ?side1 ?side2 A7.out).mono ?_
  (case side1 => repeat (first | exact (Kd.R_reads' HO1085.out).2.2 | (with_reducible refine Kd.C_alloc ?_ _) | (with_reducible refine Kd.C_drewN ?_ _) | (with_reducible refine Kd.C_drew ?_)))
  (case side2 => exact (Kd.R_reads' HO1085.out).2.1)
  rintro e w' ⟨rfl, ⟨nd, rfl⟩⟩
  refine ⟨_, rfl, ?_⟩; refine hK.out _ _ ⟨(blk_cell BK1077.out 0).trans rfl, (blk_cell BK1077.out 1).trans rfl, (blk_cell BK1077.out 2).trans rfl, (blk_cell BK1077.out 3).trans rfl, (blk_cell BK1077.out 4).trans rfl, (blk_cell BK1078.out 0).trans rfl, (blk_cell BK1078.out 1).trans rfl, (blk_cell BK1078.out 2).trans rfl, (blk_cell BK1078.out 3).trans rfl, (blk_cell BK1078.out 4).trans rfl⟩ (fun hHeld => ?_); clear hK K; refine norm_ (a' := ?_) ?_ ?_; rotate_left
  · show Act.put _ (some 18) _ = _
    simp only [Act.put, List.setIfInBounds_toArray, List.set_cons_zero, List.set_cons_succ, i64_w, i32_w]
    rfl
  refine pure_ (i := 14) (N := some 4) (v := ?_) (a' := ?_) #[true, true, true, true, true, true, true, true, true, true, true, true, true, true, true] rfl rfl (any_of HT_.out (by kernel_rfl)) (fun _ _ _ h => h) (Or.inl ⟨by rfl, ?_⟩) ?_ ?_; rotate_left
  · intro w'
    go_simp
    with_reducible rfl
  rotate_left
  · exact pz
  refine done_ (done_of HT_.out (by kernel_rfl)) ?_
  try go_wp2
  go_ret; exact ⟨ez, b2 GE1077.out GE1078.out HB.out⟩

attribute [local go_sem] max2_int min2_int max_two min_two max_three min_three max_four min_four 
set_option linter.unusedVariables false
set_option linter.unusedSimpArgs false

/-! ### impl_Ahead: function 138 -/
def impl_Ahead.f (k : Nat) (a0_0 : Int) (a0_1 : Int) (a0_2 : Int) (a0_3 : Int) (a0_4 : Int) (a1_0 : Int) (a1_1 : Int) (a1_2 : Int) (a1_3 : Int) (a1_4 : Int) : Option (Bool) := (impl_order.f k a0_0 a0_1 a0_2 a0_3 a0_4 a1_0 a1_1 a1_2 a1_3 a1_4).bind fun t1089 => (some (decide (t1089 < 0)))
theorem impl_Ahead.mono : ∀ a0 a1 a2 a3 a4 a5 a6 a7 a8 a9 k, LeO (impl_Ahead.f k a0 a1 a2 a3 a4 a5 a6 a7 a8 a9) (impl_Ahead.f (k + 1) a0 a1 a2 a3 a4 a5 a6 a7 a8 a9) := by
  intro a0 a1 a2 a3 a4 a5 a6 a7 a8 a9 k
  unfold impl_Ahead.f
  repeat' first | (with_reducible first | exact impl_order.mono _ _ _ _ _ _ _ _ _ _ _ | exact LeO.refl _ | exact LeO.none _ | refine LeO.ite ?_ ?_ | refine LeO.bind ?_ (fun _ => ?_)) | exact impl_order.mono _ _ _ _ _ _ _ _ _ _ _ | exact LeO.none _ | refine LeO.ite ?_ ?_ | refine LeO.bind ?_ (fun _ => ?_)
set_option maxHeartbeats 8000000 in
set_option maxRecDepth 100000 in
theorem impl_Ahead.calls (k : Nat) (a0_0 : Int) (a0_1 : Int) (a0_2 : Int) (a0_3 : Int) (a0_4 : Int) (a1_0 : Int) (a1_1 : Int) (a1_2 : Int) (a1_3 : Int) (a1_4 : Int) (r : Bool) (w : World) (h : impl_Ahead.f k a0_0 a0_1 a0_2 a0_3 a0_4 a1_0 a1_1 a1_2 a1_3 a1_4 = some r) :
    Calls Try.prog 138 #[.agg #[.int .i64 a0_0, .int .i64 a0_1, .int .i64 a0_2, .int .i64 a0_3, .int .i64 a0_4], .agg #[.int .i64 a1_0, .int .i64 a1_1, .int .i64 a1_2, .int .i64 a1_3, .int .i64 a1_4]] w fun e w' => e = .returned (.bool r) ∧ Below w.heap.size w w' := by
  have hu34 := Try.underlying34; have HB := Aside0.mk (Below.refl w.heap.size w); have H : ((impl_order.f k a0_0 a0_1 a0_2 a0_3 a0_4 a1_0 a1_1 a1_2 a1_3 a1_4).bind fun t1089 => (some (decide (t1089 < 0)))) = some r := h; clear h; replace H := Option.bind_eq_some_iff.mp H; obtain ⟨t1089, A30, H⟩ := H; replace H : (some (decide (t1089 < 0))) = some r := H; have A3 := Aside0.mk A30; clear A30; obtain rfl := Option.some.inj H
  go_enter Try.func138, Try.ntmps138
  go_wp2_with (first | ((with_reducible refine gate_dst (N := 2) rfl ?_); refine box_event ?hg (N := 2) ?hd (cs := #[.int .i64 a0_0, .int .i64 a0_1, .int .i64 a0_2, .int .i64 a0_3, .int .i64 a0_4]) (t := 34) ?hr ?_; (case hd => rfl); (case hg => rfl); (case hr => first | (go_simp; done) | (go_simp; rfl)); intro gb1087 hg w4 hbox hb; have n0_ := Aside0.mk (below_step (bz HB.out) hb); have n1_ := Aside0.mk (hbox); have n2_ := Aside0.mk ((by rw [hg]; exact (below_size (bz HB.out)) : w.heap.size ≤ gb1087)); have n3_ := Aside0.mk ((by rw [hg]; exact (below_size (bz HB.out)) : w.heap.size ≤ gb1087)); clear HB; have HB := n0_; have BK1087 := n1_; have GW1087 := n2_; have GE1087 := n3_; clear n0_ n1_ n2_ n3_; clear hb hbox hg) | ((with_reducible refine gate_dst (N := 3) rfl ?_); refine box_event ?hg (N := 3) ?hd (cs := #[.int .i64 a1_0, .int .i64 a1_1, .int .i64 a1_2, .int .i64 a1_3, .int .i64 a1_4]) (t := 34) ?hr ?_; (case hd => rfl); (case hg => rfl); (case hr => first | (go_simp; done) | (go_simp; rfl)); intro gb1088 hg w5 hbox hb; have n0_ := Aside0.mk (blk_below (g := gb1087) (o := .cells #[.int .i64 a0_0, .int .i64 a0_1, .int .i64 a0_2, .int .i64 a0_3, .int .i64 a0_4] 34 (0, 0)) (kz BK1087.out) hb); have n1_ := Aside0.mk (below_step (b1 GE1087.out HB.out) hb); have n2_ := Aside0.mk (hbox); have n3_ := Aside0.mk ((by rw [hg]; exact (below_size (b1 GE1087.out HB.out)) : w.heap.size ≤ gb1088)); have n4_ := Aside0.mk ((by rw [hg]; exact (below_size (b1 GE1087.out HB.out)) : w.heap.size ≤ gb1088)); have n5_ := Aside0.mk ((by rw [hg]; exact Nat.ne_of_lt (blk_lt (g := gb1087) (o := .cells #[.int .i64 a0_0, .int .i64 a0_1, .int .i64 a0_2, .int .i64 a0_3, .int .i64 a0_4] 34 (0, 0)) (kz BK1087.out)) : gb1087 ≠ gb1088)); have n6_ := Aside0.mk ((by rw [hg]; exact Nat.ne_of_gt (blk_lt (g := gb1087) (o := .cells #[.int .i64 a0_0, .int .i64 a0_1, .int .i64 a0_2, .int .i64 a0_3, .int .i64 a0_4] 34 (0, 0)) (kz BK1087.out)) : gb1088 ≠ gb1087)); clear BK1087; clear HB; have BK1087 := n0_; have HB := n1_; have BK1088 := n2_; have GW1088 := n3_; have GE1088 := n4_; have NB1087_1088 := n5_; have NB1088_1087 := n6_; clear n0_ n1_ n2_ n3_ n4_ n5_ n6_; clear hb hbox hg; have hnb6 := NB1087_1088.out; have hnc6 := NB1088_1087.out; have hcz7_0 := fz BK1087.out 0 (.int .i64 a0_0); have hcz7_1 := fz BK1087.out 1 (.int .i64 a0_1); have hcz7_2 := fz BK1087.out 2 (.int .i64 a0_2); have hcz7_3 := fz BK1087.out 3 (.int .i64 a0_3); have hcz7_4 := fz BK1087.out 4 (.int .i64 a0_4); have hfz7_0 := blk_frozen BK1087.out 0; have hfz7_1 := blk_frozen BK1087.out 1; have hfz7_2 := blk_frozen BK1087.out 2; have hfz7_3 := blk_frozen BK1087.out 3; have hfz7_4 := blk_frozen BK1087.out 4; have hcz8_0 := fz BK1088.out 0 (.int .i64 a1_0); have hcz8_1 := fz BK1088.out 1 (.int .i64 a1_1); have hcz8_2 := fz BK1088.out 2 (.int .i64 a1_2); have hcz8_3 := fz BK1088.out 3 (.int .i64 a1_3); have hcz8_4 := fz BK1088.out 4 (.int .i64 a1_4); have hfz8_0 := blk_frozen BK1088.out 0; have hfz8_1 := blk_frozen BK1088.out 1; have hfz8_2 := blk_frozen BK1088.out 2; have hfz8_3 := blk_frozen BK1088.out 3; have hfz8_4 := blk_frozen BK1088.out 4) | ((with_reducible refine gate_callee (f := 148) rfl ?_); refine goesL_ (some 7) rfl rfl Try.func148 (by kernel_rfl) rfl #[.agg #[.int .i64 a0_0, .int .i64 a0_1, .int .i64 a0_2, .int .i64 a0_3, .int .i64 a0_4], .agg #[.int .i64 a1_0, .int .i64 a1_1, .int .i64 a1_2, .int .i64 a1_3, .int .i64 a1_4]] rfl dz ?_; (with_reducible refine (impl_order.calls k a0_0 a0_1 a0_2 a0_3 a0_4 a1_0 a1_1 a1_2 a1_3 a1_4 t1089 _ A3.out).mono ?_); rintro e w9 ⟨rfl, hb⟩; refine ⟨_, rfl, ?_⟩; have n0_ := Aside0.mk (blk_below (g := gb1087) (o := .cells #[.int .i64 a0_0, .int .i64 a0_1, .int .i64 a0_2, .int .i64 a0_3, .int .i64 a0_4] 34 (0, 0)) (kz BK1087.out) hb); have n1_ := Aside0.mk (blk_below (g := gb1088) (o := .cells #[.int .i64 a1_0, .int .i64 a1_1, .int .i64 a1_2, .int .i64 a1_3, .int .i64 a1_4] 34 (0, 0)) (kz BK1088.out) hb); have n2_ := Aside0.mk (below_step (b2 GE1087.out GE1088.out HB.out) hb); clear BK1087; clear BK1088; clear HB; have BK1087 := n0_; have BK1088 := n1_; have HB := n2_; clear n0_ n1_ n2_; (try clear hb); (try clear hb2); (try clear hk); (try clear hi)))
  go_ret; exact ⟨ez, b2 GE1087.out GE1088.out HB.out⟩

attribute [local go_sem] max2_int min2_int max_two min_two max_three min_three max_four min_four 
set_option linter.unusedVariables false
set_option linter.unusedSimpArgs false

/-! ### impl_InOrder: function 107 -/
def impl_InOrder.l0 : Nat → List (S34) → Int → Option (Bool)
  | 0, _, _ => none
  | k + 1, x0, x3 => if x3 < (x0.length : Int) then (if 0 ≤ x3 then (if 0 ≤ (wrap64 (x3 - 1)) then (if (wrap64 (x3 - 1)) < (x0.length : Int) then ((impl_Ahead.f k ((rd_T34 x0 x3).f0) ((rd_T34 x0 x3).f1.f0) ((rd_T34 x0 x3).f1.f1) ((rd_T34 x0 x3).f1.f2) ((rd_T34 x0 x3).f1.f3) ((rd_T34 x0 (wrap64 (x3 - 1))).f0) ((rd_T34 x0 (wrap64 (x3 - 1))).f1.f0) ((rd_T34 x0 (wrap64 (x3 - 1))).f1.f1) ((rd_T34 x0 (wrap64 (x3 - 1))).f1.f2) ((rd_T34 x0 (wrap64 (x3 - 1))).f1.f3)).bind fun t1092 => (if t1092 = true then (some false) else (impl_InOrder.l0 k x0 (wrap64 (x3 + 1))))) else (none)) else (none)) else (none)) else (some true)
def impl_InOrder.f (k : Nat) (l0 : List (S34)) : Option (Bool) := impl_InOrder.l0 k l0 1
theorem impl_InOrder.mono_l : ∀ k, (∀ y0 y1, LeO (impl_InOrder.l0 k y0 y1) (impl_InOrder.l0 (k + 1) y0 y1))
  | 0 => fun _ _ r h => by simp [impl_InOrder.l0] at h
  | k + 1 => by
    have ih0 := impl_InOrder.mono_l k
    · intro y0 y1
      unfold impl_InOrder.l0
      repeat' first | (with_reducible first | exact ih0 _ _ | exact impl_Ahead.mono _ _ _ _ _ _ _ _ _ _ _ | exact LeO.refl _ | exact LeO.none _ | refine LeO.ite ?_ ?_ | refine LeO.bind ?_ (fun _ => ?_)) | exact ih0 _ _ | exact impl_Ahead.mono _ _ _ _ _ _ _ _ _ _ _ | exact LeO.none _ | refine LeO.ite ?_ ?_ | refine LeO.bind ?_ (fun _ => ?_)
theorem impl_InOrder.mono : ∀ a0 k, LeO (impl_InOrder.f k a0) (impl_InOrder.f (k + 1) a0) := by
  intro a0 k
  have ih0 := impl_InOrder.mono_l k; unfold impl_InOrder.f
  repeat' first | (with_reducible first | exact ih0 _ _ | exact impl_Ahead.mono _ _ _ _ _ _ _ _ _ _ _ | exact LeO.refl _ | exact LeO.none _ | refine LeO.ite ?_ ?_ | refine LeO.bind ?_ (fun _ => ?_)) | exact ih0 _ _ | exact impl_Ahead.mono _ _ _ _ _ _ _ _ _ _ _ | exact LeO.none _ | refine LeO.ite ?_ ?_ | refine LeO.bind ?_ (fun _ => ?_)
def impl_InOrder.T4 : Bool × List (List Nat × List Nat) := (true, [([], []), ([], []), ([0, 1], [0, 1]), ([2], [2]), ([], []), ([], []), ([5], [5]), ([4, 6], [4, 6]), ([7], [7]), ([3, 8], [3, 8])])
def impl_InOrder.B4 : List Nat := [0, 0, 3, 7, 0, 0, 32, 112, 240, 511]
theorem impl_InOrder.tab4 : rtab .any (opsOf Try.f107 4) = impl_InOrder.T4 := by kernel_rfl
theorem impl_InOrder.bits4 : waitsOk impl_InOrder.T4.2 impl_InOrder.B4 = true := by kernel_rfl
set_option maxHeartbeats 8000000 in
set_option maxRecDepth 100000 in
theorem impl_InOrder.calls (k : Nat) (A0 : Option Addr) (c0 : Nat) (l0 : List (S34)) (r : Bool) (w : World) (hr0 : Kd.C k34 w A0 l0.length l0) (hc0 : l0.length ≤ c0) (h : impl_InOrder.f k l0 = some r) :
    Calls Try.prog 107 #[.slice A0 l0.length c0] w fun e w' => e = .returned (.bool r) ∧ Below w.heap.size w w' := by
  have hu34 := Try.underlying34; have HR0 := Aside0.mk hr0; have HC0 := Aside0.mk hc0; clear hr0 hc0; have HB := Aside0.mk (Below.refl w.heap.size w); have H : (impl_InOrder.l0 k l0 1) = some r := h; clear h; have H' := Aside0.mk H; clear H
  go_enter Try.func107, Try.ntmps107
  go_wp2
  go_loopg [3] k (fun kq v3 w' => ∃ (x3_1 : Int), v3 = .int .i64 x3_1 ∧ Aside0 (impl_InOrder.l0 kq l0 x3_1 = some r) ∧ Aside0 (kq ≤ k) ∧ Aside0 (Below w.heap.size w w'))
  case atStart => exact ⟨(1), az, H', ⟨Nat.le_refl _⟩, ⟨bz HB.out⟩⟩
  case round =>
    clear H'; (try clear c1); obtain ⟨x3_1, rfl, HA, HK1, HB⟩ := hrel
    cases gk with
    | zero => exact absurd HA.out (by simp [impl_InOrder.l0])
    | succ k1 =>
      have H := HA.out; clear HA
      simp only [impl_InOrder.l0] at H
      by_cases c2 : x3_1 < (l0.length : Int)
      · rw [if_pos c2] at H
        have c2b0 : decide (x3_1 < (l0.length : Int)) = true := decide_eq_true c2; clear c2
        by_cases c3 : 0 ≤ x3_1
        · rw [if_pos c3] at H
          have c3b0 : decide (0 ≤ x3_1) = true := decide_eq_true c3; clear c3; obtain ⟨ji4, hji4⟩ : ∃ j_ : Int, (wrap64 (x3_1 - 1)) = j_ := ⟨_, rfl⟩
          replace H : (if 0 ≤ (ji4) then (if (ji4) < (l0.length : Int) then ((impl_Ahead.f k1 ((rd_T34 l0 x3_1).f0) ((rd_T34 l0 x3_1).f1.f0) ((rd_T34 l0 x3_1).f1.f1) ((rd_T34 l0 x3_1).f1.f2) ((rd_T34 l0 x3_1).f1.f3) ((rd_T34 l0 (ji4)).f0) ((rd_T34 l0 (ji4)).f1.f0) ((rd_T34 l0 (ji4)).f1.f1) ((rd_T34 l0 (ji4)).f1.f2) ((rd_T34 l0 (ji4)).f1.f3)).bind fun t1092 => (if t1092 = true then (some false) else (impl_InOrder.l0 k1 l0 (wrap64 (x3_1 + 1))))) else (none)) else (none)) = some r := by first | (rw [hji4] at H; exact H) | (simp only [hji4] at H ⊢; exact H)
          have hji4w : (IntKind.i64.wrap (x3_1 - 1)) = ji4 := (i64_w _).trans hji4
          by_cases c5 : 0 ≤ (ji4)
          · rw [if_pos c5] at H
            have c5b0 : decide (0 ≤ (ji4)) = true := decide_eq_true c5; clear c5
            by_cases c6 : (ji4) < (l0.length : Int)
            · rw [if_pos c6] at H
              have c6b0 : decide ((ji4) < (l0.length : Int)) = true := decide_eq_true c6; clear c6; replace H := Option.bind_eq_some_iff.mp H; obtain ⟨t1092, A70, H⟩ := H; replace H : (if t1092 = true then (some false) else (impl_InOrder.l0 k1 l0 (wrap64 (x3_1 + 1)))) = some r := H; have A7 := Aside0.mk A70; clear A70
              by_cases c8 : t1092 = true
              · subst c8
                replace H : (some false) = some r := (by rw [if_pos rfl] at H; exact H); obtain rfl := Option.some.inj H
                try go_wp2
                have n0_ := Aside0.mk (below_drew1 HB.out); clear HB; have HB := n0_; clear n0_; have p1090 : 0 ≤ (x3_1 : Int) := of_decide_eq_true uz; have q1090 : x3_1 < (l0.length : Int) := of_decide_eq_true uz; obtain ⟨ad1090, e1090, hx1090_0, hx1090_1, hx1090_2, hx1090_3, hx1090_4⟩ := at_T34 HR0.out x3_1 p1090 q1090; have hw1090_4 := hx1090_4; have hw1090_3 := hx1090_3; have hw1090_2 := hx1090_2; have hw1090_1 := hx1090_1; have hw1090_0 := hx1090_0
                cases e1090
                replace hx1090_0 := cz HB.out hx1090_0; replace hx1090_1 := cz HB.out hx1090_1; replace hx1090_2 := cz HB.out hx1090_2; replace hx1090_3 := cz HB.out hx1090_3; replace hx1090_4 := cz HB.out hx1090_4; replace p1090 := eq_true p1090; replace q1090 := eq_true q1090; have p1091 : 0 ≤ ((ji4) : Int) := of_decide_eq_true uz; have q1091 : (ji4) < (l0.length : Int) := of_decide_eq_true uz; obtain ⟨ad1091, e1091, hx1091_0, hx1091_1, hx1091_2, hx1091_3, hx1091_4⟩ := at_T34 HR0.out (ji4) p1091 q1091; have hw1091_4 := hx1091_4; have hw1091_3 := hx1091_3; have hw1091_2 := hx1091_2; have hw1091_1 := hx1091_1; have hw1091_0 := hx1091_0; obtain rfl : ad1090 = ad1091 := (by injection e1091); replace hx1091_0 := cz HB.out hx1091_0; replace hx1091_1 := cz HB.out hx1091_1; replace hx1091_2 := cz HB.out hx1091_2; replace hx1091_3 := cz HB.out hx1091_3; replace hx1091_4 := cz HB.out hx1091_4; replace p1091 := eq_true p1091; replace q1091 := eq_true q1091
                refine start_ (n := 10) (S := fun w' => w'.cell? (ad1090.add ((x3_1).toNat * 5)) = some (.int .i64 ((rd_T34 l0 x3_1).f0)) ∧ w'.cell? ⟨(ad1090.add ((x3_1).toNat * 5)).block, (ad1090.add ((x3_1).toNat * 5)).off + 1, none⟩ = some (.int .i64 ((rd_T34 l0 x3_1).f1.f0)) ∧ w'.cell? ⟨(ad1090.add ((x3_1).toNat * 5)).block, (ad1090.add ((x3_1).toNat * 5)).off + 2, none⟩ = some (.int .i64 ((rd_T34 l0 x3_1).f1.f1)) ∧ w'.cell? ⟨(ad1090.add ((x3_1).toNat * 5)).block, (ad1090.add ((x3_1).toNat * 5)).off + 3, none⟩ = some (.int .i64 ((rd_T34 l0 x3_1).f1.f2)) ∧ w'.cell? ⟨(ad1090.add ((x3_1).toNat * 5)).block, (ad1090.add ((x3_1).toNat * 5)).off + 4, none⟩ = some (.int .i64 ((rd_T34 l0 x3_1).f1.f3)) ∧ w'.cell? (ad1090.add (((ji4)).toNat * 5)) = some (.int .i64 ((rd_T34 l0 (ji4)).f0)) ∧ w'.cell? ⟨(ad1090.add (((ji4)).toNat * 5)).block, (ad1090.add (((ji4)).toNat * 5)).off + 1, none⟩ = some (.int .i64 ((rd_T34 l0 (ji4)).f1.f0)) ∧ w'.cell? ⟨(ad1090.add (((ji4)).toNat * 5)).block, (ad1090.add (((ji4)).toNat * 5)).off + 2, none⟩ = some (.int .i64 ((rd_T34 l0 (ji4)).f1.f1)) ∧ w'.cell? ⟨(ad1090.add (((ji4)).toNat * 5)).block, (ad1090.add (((ji4)).toNat * 5)).off + 3, none⟩ = some (.int .i64 ((rd_T34 l0 (ji4)).f1.f2)) ∧ w'.cell? ⟨(ad1090.add (((ji4)).toNat * 5)).block, (ad1090.add (((ji4)).toNat * 5)).off + 4, none⟩ = some (.int .i64 ((rd_T34 l0 (ji4)).f1.f3))) (ds := []) #[false, false, false, false, false, false, false, false, false, false] (by kernel_rfl) rfl rfl ⟨(cz HB.out hw1090_0 :), (cz HB.out hw1090_1 :), (cz HB.out hw1090_2 :), (cz HB.out hw1090_3 :), (cz HB.out hw1090_4 :), (cz HB.out hw1091_0 :), (cz HB.out hw1091_1 :), (cz HB.out hw1091_2 :), (cz HB.out hw1091_3 :), (cz HB.out hw1091_4 :)⟩ (fun hHeld => ?_); refine with_tabW impl_InOrder.tab4 impl_InOrder.bits4 (fun HT_ HW_ => ?_)
                generalize wr.drew = w9 at HB hx1090_0 hx1090_1 hx1090_2 hx1090_3 hx1090_4 hx1091_0 hx1091_1 hx1091_2 hx1091_3 hx1091_4 hHeld ⊢
                refine pure_ (i := 0) (N := some 10) (v := ?_) (a' := ?_) #[true, false, false, false, false, false, false, false, false, false] rfl rfl (any_of HT_.out (by kernel_rfl)) (fun _ _ _ h => h) (Or.inl ⟨by rfl, ?_⟩) ?_ ?_; rotate_left
                · intro w'
                  go_simp
                  with_reducible rfl
                rotate_left
                · exact pz
                refine pure_ (i := 1) (N := some 11) (v := ?_) (a' := ?_) #[true, true, false, false, false, false, false, false, false, false] rfl rfl (any_of HT_.out (by kernel_rfl)) (fun _ _ _ h => h) (Or.inl ⟨by rfl, ?_⟩) ?_ ?_; rotate_left
                · intro w'
                  go_simp
                  with_reducible rfl
                rotate_left
                · exact pz
                refine pure_ (i := 2) (N := some 12) (v := ?_) (a' := ?_) #[true, true, true, false, false, false, false, false, false, false] rfl rfl (any_of HT_.out (by kernel_rfl)) (fun _ _ _ h => h) (Or.inl ⟨by rfl, ?_⟩) ?_ ?_; rotate_left
                · intro w'
                  go_simp
                  with_reducible rfl
                rotate_left
                · exact pz
                refine pure_ (i := 4) (N := some 14) (v := ?_) (a' := ?_) #[true, true, true, false, true, false, false, false, false, false] rfl rfl (any_of HT_.out (by kernel_rfl)) (fun _ _ _ h => h) (Or.inl ⟨by rfl, ?_⟩) ?_ ?_; rotate_left
                · intro w'
                  go_simp
                  with_reducible rfl
                rotate_left
                · exact pz
                refine pure_ (i := 5) (N := some 15) (v := ?_) (a' := ?_) #[true, true, true, false, true, true, false, false, false, false] rfl rfl (any_of HT_.out (by kernel_rfl)) (fun _ _ _ h => h) (Or.inl ⟨by rfl, ?_⟩) ?_ ?_; rotate_left
                · intro w'
                  go_simp
                  with_reducible rfl
                rotate_left
                · exact pz
                refine pure_ (i := 6) (N := some 16) (v := ?_) (a' := ?_) #[true, true, true, false, true, true, true, false, false, false] rfl rfl (any_of HT_.out (by kernel_rfl)) (fun _ _ _ h => h) (Or.inl ⟨by rfl, ?_⟩) ?_ ?_; rotate_left
                · intro w'
                  go_simp
                  with_reducible rfl
                rotate_left
                · exact pz
                refine pure_ (i := 7) (N := some 17) (v := ?_) (a' := ?_) #[true, true, true, false, true, true, true, true, false, false] rfl rfl (any_of HT_.out (by kernel_rfl)) (fun _ _ _ h => h) (Or.inl ⟨by rfl, ?_⟩) ?_ ?_; rotate_left
                · intro w'
                  go_simp
                  with_reducible rfl
                rotate_left
                · exact pz
                refine take_ (i := 3) (N := some 13) (v := ?_) (a' := ?_) #[true, true, true, true, true, true, true, true, false, false] rfl rfl (take_ofW HT_.out HW_.out (by kernel_rfl)) (fun _ _ _ h => h) (Or.inl ⟨by rfl, ?_⟩) hHeld ?_ ?_; rotate_left
                · rintro w' ⟨s0, s1, s2, s3, s4, s5, s6, s7, s8, s9⟩
                  go_simp
                  with_reducible rfl
                rotate_left
                · exact pz
                refine take_ (i := 8) (N := some 18) (v := ?_) (a' := ?_) #[true, true, true, true, true, true, true, true, true, false] rfl rfl (take_ofW HT_.out HW_.out (by kernel_rfl)) (fun _ _ _ h => h) (Or.inl ⟨by rfl, ?_⟩) hHeld ?_ ?_; rotate_left
                · rintro w' ⟨s0, s1, s2, s3, s4, s5, s6, s7, s8, s9⟩
                  go_simp
                  with_reducible rfl
                rotate_left
                · exact pz
                refine one_ (i := 9) (N := some 19) #[true, true, true, true, true, true, true, true, true, true] rfl rfl (one_of HT_.out (by kernel_rfl)) (by decide) (fun K hK => ?_); refine goes_ Try.func138 (by kernel_rfl) rfl #[.agg #[.int .i64 ((rd_T34 l0 x3_1).f0), .int .i64 ((rd_T34 l0 x3_1).f1.f0), .int .i64 ((rd_T34 l0 x3_1).f1.f1), .int .i64 ((rd_T34 l0 x3_1).f1.f2), .int .i64 ((rd_T34 l0 x3_1).f1.f3)], .agg #[.int .i64 ((rd_T34 l0 (ji4)).f0), .int .i64 ((rd_T34 l0 (ji4)).f1.f0), .int .i64 ((rd_T34 l0 (ji4)).f1.f1), .int .i64 ((rd_T34 l0 (ji4)).f1.f2), .int .i64 ((rd_T34 l0 (ji4)).f1.f3)]] (by rfl) rfl rfl (by (try simp only [List.map_toArray, List.map_cons, List.map_nil]); first | done | (simp only [hji4]; rfl) | rfl | (simp only [List.length_drop, List.length_take]; rfl)) ?_
                with_reducible refine (impl_Ahead.calls k1 ((rd_T34 l0 x3_1).f0) ((rd_T34 l0 x3_1).f1.f0) ((rd_T34 l0 x3_1).f1.f1) ((rd_T34 l0 x3_1).f1.f2) ((rd_T34 l0 x3_1).f1.f3) ((rd_T34 l0 (ji4)).f0) ((rd_T34 l0 (ji4)).f1.f0) ((rd_T34 l0 (ji4)).f1.f1) ((rd_T34 l0 (ji4)).f1.f2) ((rd_T34 l0 (ji4)).f1.f3) true _ A7.out).mono ?_
                rintro e w10 ⟨rfl, hb⟩
                refine ⟨_, rfl, ?_⟩; have n0_ := Aside0.mk (below_step (bz HB.out) hb); clear HB; have HB := n0_; clear n0_
                (try clear hb)
                (try clear hb2)
                (try clear hk)
                (try clear hi)
                refine hK.out _ _ ⟨(cz HB.out hw1090_0 :), (cz HB.out hw1090_1 :), (cz HB.out hw1090_2 :), (cz HB.out hw1090_3 :), (cz HB.out hw1090_4 :), (cz HB.out hw1091_0 :), (cz HB.out hw1091_1 :), (cz HB.out hw1091_2 :), (cz HB.out hw1091_3 :), (cz HB.out hw1091_4 :)⟩ (fun hHeld => ?_); clear hK K; refine norm_ (a' := ?_) ?_ ?_; rotate_left
                · show Act.put _ (some 19) _ = _
                  simp only [Act.put, List.setIfInBounds_toArray, List.set_cons_zero, List.set_cons_succ, i64_w, i32_w]
                  rfl
                refine done_ (done_of HT_.out (by kernel_rfl)) ?_
                try go_wp2
                go_ret; exact ⟨by first | rfl | (simp [errW_none, errW_some] <;> rfl) | (simp only [← hji4]; first | rfl | (simp [errW_none, errW_some] <;> rfl)) | (simp [*, errW_none, errW_some] <;> rfl), bz HB.out⟩
              · replace c8 := Bool.eq_false_iff.mpr c8
                subst c8; replace H : (impl_InOrder.l0 k1 l0 (wrap64 (x3_1 + 1))) = some r := (by rw [if_neg (show ¬ (false = true) by decide)] at H; exact H); have H' := Aside0.mk H; clear H
                try go_wp2
                have n0_ := Aside0.mk (below_drew1 HB.out); clear HB; have HB := n0_; clear n0_; have p1090 : 0 ≤ (x3_1 : Int) := of_decide_eq_true uz; have q1090 : x3_1 < (l0.length : Int) := of_decide_eq_true uz; obtain ⟨ad1090, e1090, hx1090_0, hx1090_1, hx1090_2, hx1090_3, hx1090_4⟩ := at_T34 HR0.out x3_1 p1090 q1090; have hw1090_4 := hx1090_4; have hw1090_3 := hx1090_3; have hw1090_2 := hx1090_2; have hw1090_1 := hx1090_1; have hw1090_0 := hx1090_0
                cases e1090
                replace hx1090_0 := cz HB.out hx1090_0; replace hx1090_1 := cz HB.out hx1090_1; replace hx1090_2 := cz HB.out hx1090_2; replace hx1090_3 := cz HB.out hx1090_3; replace hx1090_4 := cz HB.out hx1090_4; replace p1090 := eq_true p1090; replace q1090 := eq_true q1090; have p1091 : 0 ≤ ((ji4) : Int) := of_decide_eq_true uz; have q1091 : (ji4) < (l0.length : Int) := of_decide_eq_true uz; obtain ⟨ad1091, e1091, hx1091_0, hx1091_1, hx1091_2, hx1091_3, hx1091_4⟩ := at_T34 HR0.out (ji4) p1091 q1091; have hw1091_4 := hx1091_4; have hw1091_3 := hx1091_3; have hw1091_2 := hx1091_2; have hw1091_1 := hx1091_1; have hw1091_0 := hx1091_0; obtain rfl : ad1090 = ad1091 := (by injection e1091); replace hx1091_0 := cz HB.out hx1091_0; replace hx1091_1 := cz HB.out hx1091_1; replace hx1091_2 := cz HB.out hx1091_2; replace hx1091_3 := cz HB.out hx1091_3; replace hx1091_4 := cz HB.out hx1091_4; replace p1091 := eq_true p1091; replace q1091 := eq_true q1091
                refine start_ (n := 10) (S := fun w' => w'.cell? (ad1090.add ((x3_1).toNat * 5)) = some (.int .i64 ((rd_T34 l0 x3_1).f0)) ∧ w'.cell? ⟨(ad1090.add ((x3_1).toNat * 5)).block, (ad1090.add ((x3_1).toNat * 5)).off + 1, none⟩ = some (.int .i64 ((rd_T34 l0 x3_1).f1.f0)) ∧ w'.cell? ⟨(ad1090.add ((x3_1).toNat * 5)).block, (ad1090.add ((x3_1).toNat * 5)).off + 2, none⟩ = some (.int .i64 ((rd_T34 l0 x3_1).f1.f1)) ∧ w'.cell? ⟨(ad1090.add ((x3_1).toNat * 5)).block, (ad1090.add ((x3_1).toNat * 5)).off + 3, none⟩ = some (.int .i64 ((rd_T34 l0 x3_1).f1.f2)) ∧ w'.cell? ⟨(ad1090.add ((x3_1).toNat * 5)).block, (ad1090.add ((x3_1).toNat * 5)).off + 4, none⟩ = some (.int .i64 ((rd_T34 l0 x3_1).f1.f3)) ∧ w'.cell? (ad1090.add (((ji4)).toNat * 5)) = some (.int .i64 ((rd_T34 l0 (ji4)).f0)) ∧ w'.cell? ⟨(ad1090.add (((ji4)).toNat * 5)).block, (ad1090.add (((ji4)).toNat * 5)).off + 1, none⟩ = some (.int .i64 ((rd_T34 l0 (ji4)).f1.f0)) ∧ w'.cell? ⟨(ad1090.add (((ji4)).toNat * 5)).block, (ad1090.add (((ji4)).toNat * 5)).off + 2, none⟩ = some (.int .i64 ((rd_T34 l0 (ji4)).f1.f1)) ∧ w'.cell? ⟨(ad1090.add (((ji4)).toNat * 5)).block, (ad1090.add (((ji4)).toNat * 5)).off + 3, none⟩ = some (.int .i64 ((rd_T34 l0 (ji4)).f1.f2)) ∧ w'.cell? ⟨(ad1090.add (((ji4)).toNat * 5)).block, (ad1090.add (((ji4)).toNat * 5)).off + 4, none⟩ = some (.int .i64 ((rd_T34 l0 (ji4)).f1.f3))) (ds := []) #[false, false, false, false, false, false, false, false, false, false] (by kernel_rfl) rfl rfl ⟨(cz HB.out hw1090_0 :), (cz HB.out hw1090_1 :), (cz HB.out hw1090_2 :), (cz HB.out hw1090_3 :), (cz HB.out hw1090_4 :), (cz HB.out hw1091_0 :), (cz HB.out hw1091_1 :), (cz HB.out hw1091_2 :), (cz HB.out hw1091_3 :), (cz HB.out hw1091_4 :)⟩ (fun hHeld => ?_); refine with_tabW impl_InOrder.tab4 impl_InOrder.bits4 (fun HT_ HW_ => ?_)
                generalize wr.drew = w11 at HB hx1090_0 hx1090_1 hx1090_2 hx1090_3 hx1090_4 hx1091_0 hx1091_1 hx1091_2 hx1091_3 hx1091_4 hHeld ⊢
                refine pure_ (i := 0) (N := some 10) (v := ?_) (a' := ?_) #[true, false, false, false, false, false, false, false, false, false] rfl rfl (any_of HT_.out (by kernel_rfl)) (fun _ _ _ h => h) (Or.inl ⟨by rfl, ?_⟩) ?_ ?_; rotate_left
                · intro w'
                  go_simp
                  with_reducible rfl
                rotate_left
                · exact pz
                refine pure_ (i := 1) (N := some 11) (v := ?_) (a' := ?_) #[true, true, false, false, false, false, false, false, false, false] rfl rfl (any_of HT_.out (by kernel_rfl)) (fun _ _ _ h => h) (Or.inl ⟨by rfl, ?_⟩) ?_ ?_; rotate_left
                · intro w'
                  go_simp
                  with_reducible rfl
                rotate_left
                · exact pz
                refine pure_ (i := 2) (N := some 12) (v := ?_) (a' := ?_) #[true, true, true, false, false, false, false, false, false, false] rfl rfl (any_of HT_.out (by kernel_rfl)) (fun _ _ _ h => h) (Or.inl ⟨by rfl, ?_⟩) ?_ ?_; rotate_left
                · intro w'
                  go_simp
                  with_reducible rfl
                rotate_left
                · exact pz
                refine pure_ (i := 4) (N := some 14) (v := ?_) (a' := ?_) #[true, true, true, false, true, false, false, false, false, false] rfl rfl (any_of HT_.out (by kernel_rfl)) (fun _ _ _ h => h) (Or.inl ⟨by rfl, ?_⟩) ?_ ?_; rotate_left
                · intro w'
                  go_simp
                  with_reducible rfl
                rotate_left
                · exact pz
                refine pure_ (i := 5) (N := some 15) (v := ?_) (a' := ?_) #[true, true, true, false, true, true, false, false, false, false] rfl rfl (any_of HT_.out (by kernel_rfl)) (fun _ _ _ h => h) (Or.inl ⟨by rfl, ?_⟩) ?_ ?_; rotate_left
                · intro w'
                  go_simp
                  with_reducible rfl
                rotate_left
                · exact pz
                refine pure_ (i := 6) (N := some 16) (v := ?_) (a' := ?_) #[true, true, true, false, true, true, true, false, false, false] rfl rfl (any_of HT_.out (by kernel_rfl)) (fun _ _ _ h => h) (Or.inl ⟨by rfl, ?_⟩) ?_ ?_; rotate_left
                · intro w'
                  go_simp
                  with_reducible rfl
                rotate_left
                · exact pz
                refine pure_ (i := 7) (N := some 17) (v := ?_) (a' := ?_) #[true, true, true, false, true, true, true, true, false, false] rfl rfl (any_of HT_.out (by kernel_rfl)) (fun _ _ _ h => h) (Or.inl ⟨by rfl, ?_⟩) ?_ ?_; rotate_left
                · intro w'
                  go_simp
                  with_reducible rfl
                rotate_left
                · exact pz
                refine take_ (i := 3) (N := some 13) (v := ?_) (a' := ?_) #[true, true, true, true, true, true, true, true, false, false] rfl rfl (take_ofW HT_.out HW_.out (by kernel_rfl)) (fun _ _ _ h => h) (Or.inl ⟨by rfl, ?_⟩) hHeld ?_ ?_; rotate_left
                · rintro w' ⟨s0, s1, s2, s3, s4, s5, s6, s7, s8, s9⟩
                  go_simp
                  with_reducible rfl
                rotate_left
                · exact pz
                refine take_ (i := 8) (N := some 18) (v := ?_) (a' := ?_) #[true, true, true, true, true, true, true, true, true, false] rfl rfl (take_ofW HT_.out HW_.out (by kernel_rfl)) (fun _ _ _ h => h) (Or.inl ⟨by rfl, ?_⟩) hHeld ?_ ?_; rotate_left
                · rintro w' ⟨s0, s1, s2, s3, s4, s5, s6, s7, s8, s9⟩
                  go_simp
                  with_reducible rfl
                rotate_left
                · exact pz
                refine one_ (i := 9) (N := some 19) #[true, true, true, true, true, true, true, true, true, true] rfl rfl (one_of HT_.out (by kernel_rfl)) (by decide) (fun K hK => ?_); refine goes_ Try.func138 (by kernel_rfl) rfl #[.agg #[.int .i64 ((rd_T34 l0 x3_1).f0), .int .i64 ((rd_T34 l0 x3_1).f1.f0), .int .i64 ((rd_T34 l0 x3_1).f1.f1), .int .i64 ((rd_T34 l0 x3_1).f1.f2), .int .i64 ((rd_T34 l0 x3_1).f1.f3)], .agg #[.int .i64 ((rd_T34 l0 (ji4)).f0), .int .i64 ((rd_T34 l0 (ji4)).f1.f0), .int .i64 ((rd_T34 l0 (ji4)).f1.f1), .int .i64 ((rd_T34 l0 (ji4)).f1.f2), .int .i64 ((rd_T34 l0 (ji4)).f1.f3)]] (by rfl) rfl rfl (by (try simp only [List.map_toArray, List.map_cons, List.map_nil]); first | done | (simp only [hji4]; rfl) | rfl | (simp only [List.length_drop, List.length_take]; rfl)) ?_
                with_reducible refine (impl_Ahead.calls k1 ((rd_T34 l0 x3_1).f0) ((rd_T34 l0 x3_1).f1.f0) ((rd_T34 l0 x3_1).f1.f1) ((rd_T34 l0 x3_1).f1.f2) ((rd_T34 l0 x3_1).f1.f3) ((rd_T34 l0 (ji4)).f0) ((rd_T34 l0 (ji4)).f1.f0) ((rd_T34 l0 (ji4)).f1.f1) ((rd_T34 l0 (ji4)).f1.f2) ((rd_T34 l0 (ji4)).f1.f3) false _ A7.out).mono ?_
                rintro e w12 ⟨rfl, hb⟩
                refine ⟨_, rfl, ?_⟩; have n0_ := Aside0.mk (below_step (bz HB.out) hb); clear HB; have HB := n0_; clear n0_
                (try clear hb)
                (try clear hb2)
                (try clear hk)
                (try clear hi)
                refine hK.out _ _ ⟨(cz HB.out hw1090_0 :), (cz HB.out hw1090_1 :), (cz HB.out hw1090_2 :), (cz HB.out hw1090_3 :), (cz HB.out hw1090_4 :), (cz HB.out hw1091_0 :), (cz HB.out hw1091_1 :), (cz HB.out hw1091_2 :), (cz HB.out hw1091_3 :), (cz HB.out hw1091_4 :)⟩ (fun hHeld => ?_); clear hK K; refine norm_ (a' := ?_) ?_ ?_; rotate_left
                · show Act.put _ (some 19) _ = _
                  simp only [Act.put, List.setIfInBounds_toArray, List.set_cons_zero, List.set_cons_succ, i64_w, i32_w]
                  rfl
                refine done_ (done_of HT_.out (by kernel_rfl)) ?_
                try go_wp2
                go_roundg k1
                case measure => have := HK1.out; omega
                case rel => exact ⟨(wrap64 (x3_1 + 1)), az, H', ⟨by have := HK1.out; omega⟩, ⟨bz HB.out⟩⟩
            · rw [if_neg c6] at H
              exact absurd H (by simp)
          · rw [if_neg c5] at H
            exact absurd H (by simp)
        · rw [if_neg c3] at H
          exact absurd H (by simp)
      · rw [if_neg c2] at H
        have c2b0 : decide (x3_1 < (l0.length : Int)) = false := decide_eq_false c2; clear c2; obtain rfl := Option.some.inj H; go_wp2; go_ret; exact ⟨ez, bz HB.out⟩

end Go.Proofs.Ytngjaajcdbodeaa.All
