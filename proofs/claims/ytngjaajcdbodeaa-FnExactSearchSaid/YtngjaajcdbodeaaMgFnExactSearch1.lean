/- The texts on which the row FnExactSearch rests, part 1: contracts of the functions that it reaches and plain laws of what they compute. No condition. -/
import Derived.Test.YtngjaajcdbodeaaProg
import Derived.Below
import Derived.Deep.Draws
import Derived.Deep.AppendLies
import Derived.Maps.AppendAt
import Derived.OwnWalk
import Derived.Laws.BytesArg
import Derived.Laws.MakeOwn
import Derived.Laws.OwnMore
import Derived.Deep.OwnRows
import Derived.Tactics
import Derived.Lib.ConvBytes
import Derived.Laws.Slices
import Derived.WalkKit
import Derived.KernelRfl
import Derived.RowKit3
import Derived.Deep.LoopGhost
import Derived.Deep.QuietTactic
import Derived.BigQuiet
import Derived.WideLaws
import Derived.Deep.DeepCutAuto
import Derived.Deep.CutBlock
import Derived.Deep.RegionHeld3
import Derived.Laws.Rows
import Derived.Lib.AppendStr
import Derived.ArgAppend
import Derived.Laws.IdiomCopy
import Derived.OrdersHeld
import Derived.Laws.BitsLemmas
import Derived.RowKit
import Derived.Test.YtngjaajcdbodeaaMgFnExactSearchW1
namespace Go.Proofs.Ytngjaajcdbodeaa.All
open Go.RowKit Go.Proofs.YtngjaajcdbodeaaW.PrintWords Go.Proofs.YtngjaajcdbodeaaW.PrintLast Go.Proofs.YtngjaajcdbodeaaW.PrintMore
attribute [local go_sem] max2_int min2_int max_two min_two max_three min_three max_four min_four   -- for this text's walks alone
set_option linter.unusedVariables false
set_option linter.unusedSimpArgs false



def errW : Option Int → Value
  | none => .nilIface
  | some c => .iface 0 (.int .i64 c)
theorem errW_none : errW none = .nilIface := rfl
theorem errW_some (c : Int) : errW (some c) = .iface 0 (.int .i64 c) := rfl

theorem info3 : (Try.prog.info? 3).map (fun i => (i.zero, i.size, i.bytes)) = some (some (.int .i64 0), 1, 8) := by kernel_rfl
theorem info32 : (Try.prog.info? 32).map (fun i => (i.zero, i.size, i.bytes)) = some (some (.agg #[(.int .i64 0), (.int .i64 0), (.int .i64 0), (.int .i64 0)]), 4, 32) := by kernel_rfl
theorem info34 : (Try.prog.info? 34).map (fun i => (i.zero, i.size, i.bytes)) = some (some (.agg #[(.int .i64 0), (.int .i64 0), (.int .i64 0), (.int .i64 0), (.int .i64 0)]), 5, 40) := by kernel_rfl
theorem info90 : (Try.prog.info? 90).map (fun i => (i.zero, i.size, i.bytes)) = some (some (.agg #[(.bool false), (.bool false), (.slice none 0 0)]), 3, 40) := by kernel_rfl
theorem info103 : (Try.prog.info? 103).map (fun i => (i.zero, i.size, i.bytes)) = some (some (.agg #[(.int .i64 0), (.int .i64 0), (.int .i64 0), (.int .i64 0), (.int .i64 0)]), 5, 40) := by kernel_rfl
-- the values' own types
/-! #### struct type 24 -/
structure S24 where
  f0 : Int
  f1 : Int
  f2 : Int
  f3 : Int
def z24 : S24 := ⟨(0 : Int), (0 : Int), (0 : Int), (0 : Int)⟩
def k24 : Kd S24 := Kd.iso (Kd.pair (Kd.int .i64) (Kd.pair (Kd.int .i64) (Kd.pair (Kd.int .i64) (Kd.int .i64)))) (fun x : S24 => (x.f0, x.f1, x.f2, x.f3))
theorem k24_open {w : World} {x : S24} {cs : List Value} (h : k24.K w x cs) : cs = [.int .i64 x.f0, .int .i64 x.f1, .int .i64 x.f2, .int .i64 x.f3] := by
  obtain ⟨_, _, rfl, rfl, ⟨_, _, rfl, rfl, ⟨_, _, rfl, rfl, rfl⟩⟩⟩ := h
  exact rfl
theorem k24_openM {w : World} {base : Nat} {ok : Nat → Prop} {x : S24} {cs : List Value} (h : k24.M w base ok x cs) : cs = [.int .i64 x.f0, .int .i64 x.f1, .int .i64 x.f2, .int .i64 x.f3] := by
  obtain ⟨_, _, rfl, rfl, ⟨_, _, rfl, rfl, ⟨_, _, rfl, rfl, rfl⟩⟩⟩ := h
  exact rfl
theorem k24_mk (w : World) (x : S24)  : k24.K w x [.int .i64 x.f0, .int .i64 x.f1, .int .i64 x.f2, .int .i64 x.f3] := ⟨[.int .i64 x.f0], [.int .i64 x.f1, .int .i64 x.f2, .int .i64 x.f3], rfl, rfl, ⟨[.int .i64 x.f1], [.int .i64 x.f2, .int .i64 x.f3], rfl, rfl, ⟨[.int .i64 x.f2], [.int .i64 x.f3], rfl, rfl, rfl⟩⟩⟩
theorem k24_mkM (w : World) (base : Nat) (ok : Nat → Prop) (x : S24)  : k24.M w base ok x [.int .i64 x.f0, .int .i64 x.f1, .int .i64 x.f2, .int .i64 x.f3] := ⟨[.int .i64 x.f0], [.int .i64 x.f1, .int .i64 x.f2, .int .i64 x.f3], rfl, rfl, ⟨[.int .i64 x.f1], [.int .i64 x.f2, .int .i64 x.f3], rfl, rfl, ⟨[.int .i64 x.f2], [.int .i64 x.f3], rfl, rfl, rfl⟩⟩⟩
theorem k24_mkF (W : World) (ok : Nat → Prop) (x : S24) : Kd.FK k24 W ok x [.int .i64 x.f0, .int .i64 x.f1, .int .i64 x.f2, .int .i64 x.f3] := fun W2 _ => k24_mk W2 x
def rd_T24 (xs : List S24) (i : Int) : S24 := xs.getD i.toNat z24
theorem at_T24 {w : World} {A : Option Addr} {n : Nat} {xs : List S24} (h : Kd.C k24 w A n xs) (i : Int) (h0 : 0 ≤ i) (h1 : i < n) : ∃ ad , A = some ad ∧ w.cell? (ad.add (i.toNat * 4)) = some (.int .i64 (rd_T24 xs i).f0) ∧ w.cell? ⟨(ad.add (i.toNat * 4)).block, (ad.add (i.toNat * 4)).off + 1, none⟩ = some (.int .i64 (rd_T24 xs i).f1) ∧ w.cell? ⟨(ad.add (i.toNat * 4)).block, (ad.add (i.toNat * 4)).off + 2, none⟩ = some (.int .i64 (rd_T24 xs i).f2) ∧ w.cell? ⟨(ad.add (i.toNat * 4)).block, (ad.add (i.toNat * 4)).off + 3, none⟩ = some (.int .i64 (rd_T24 xs i).f3) := by
  obtain ⟨ad, c, e, _, hK, hc0⟩ := Kd.C_get h z24 i h0 h1
  have hc : ∀ j u, c[j]? = some u → w.cell? (ad.add (i.toNat * 4 + j)) = some u := hc0
  obtain rfl := k24_open hK
  exact ⟨ad, e, hc 0 _ rfl, by rw [← add_field _ _ 1 (by omega)]; exact hc 1 _ rfl, by rw [← add_field _ _ 2 (by omega)]; exact hc 2 _ rfl, by rw [← add_field _ _ 3 (by omega)]; exact hc 3 _ rfl⟩

/-! #### struct type 26 -/
structure S26 where
  f0 : Int
  f1 : S24
def z26 : S26 := ⟨(0 : Int), z24⟩
def k26 : Kd S26 := Kd.iso (Kd.pair (Kd.int .i64) k24) (fun x : S26 => (x.f0, x.f1))
theorem k26_open {w : World} {x : S26} {cs : List Value} (h : k26.K w x cs) : cs = [.int .i64 x.f0, .int .i64 x.f1.f0, .int .i64 x.f1.f1, .int .i64 x.f1.f2, .int .i64 x.f1.f3] := by
  obtain ⟨_, _, rfl, rfl, s1⟩ := h
  obtain rfl := k24_open s1
  exact rfl
theorem k26_openM {w : World} {base : Nat} {ok : Nat → Prop} {x : S26} {cs : List Value} (h : k26.M w base ok x cs) : cs = [.int .i64 x.f0, .int .i64 x.f1.f0, .int .i64 x.f1.f1, .int .i64 x.f1.f2, .int .i64 x.f1.f3] := by
  obtain ⟨_, _, rfl, rfl, s1⟩ := h
  obtain rfl := k24_openM s1
  exact rfl
theorem k26_mk (w : World) (x : S26)  : k26.K w x [.int .i64 x.f0, .int .i64 x.f1.f0, .int .i64 x.f1.f1, .int .i64 x.f1.f2, .int .i64 x.f1.f3] := ⟨[.int .i64 x.f0], [.int .i64 x.f1.f0, .int .i64 x.f1.f1, .int .i64 x.f1.f2, .int .i64 x.f1.f3], rfl, rfl, (k24_mk w x.f1 )⟩
theorem k26_mkM (w : World) (base : Nat) (ok : Nat → Prop) (x : S26)  : k26.M w base ok x [.int .i64 x.f0, .int .i64 x.f1.f0, .int .i64 x.f1.f1, .int .i64 x.f1.f2, .int .i64 x.f1.f3] := ⟨[.int .i64 x.f0], [.int .i64 x.f1.f0, .int .i64 x.f1.f1, .int .i64 x.f1.f2, .int .i64 x.f1.f3], rfl, rfl, (k24_mkM w base ok x.f1 )⟩
theorem k26_mkF (W : World) (ok : Nat → Prop) (x : S26) : Kd.FK k26 W ok x [.int .i64 x.f0, .int .i64 x.f1.f0, .int .i64 x.f1.f1, .int .i64 x.f1.f2, .int .i64 x.f1.f3] := fun W2 _ => k26_mk W2 x
def rd_T26 (xs : List S26) (i : Int) : S26 := xs.getD i.toNat z26
theorem at_T26 {w : World} {A : Option Addr} {n : Nat} {xs : List S26} (h : Kd.C k26 w A n xs) (i : Int) (h0 : 0 ≤ i) (h1 : i < n) : ∃ ad , A = some ad ∧ w.cell? (ad.add (i.toNat * 5)) = some (.int .i64 (rd_T26 xs i).f0) ∧ w.cell? ⟨(ad.add (i.toNat * 5)).block, (ad.add (i.toNat * 5)).off + 1, none⟩ = some (.int .i64 (rd_T26 xs i).f1.f0) ∧ w.cell? ⟨(ad.add (i.toNat * 5)).block, (ad.add (i.toNat * 5)).off + 2, none⟩ = some (.int .i64 (rd_T26 xs i).f1.f1) ∧ w.cell? ⟨(ad.add (i.toNat * 5)).block, (ad.add (i.toNat * 5)).off + 3, none⟩ = some (.int .i64 (rd_T26 xs i).f1.f2) ∧ w.cell? ⟨(ad.add (i.toNat * 5)).block, (ad.add (i.toNat * 5)).off + 4, none⟩ = some (.int .i64 (rd_T26 xs i).f1.f3) := by
  obtain ⟨ad, c, e, _, hK, hc0⟩ := Kd.C_get h z26 i h0 h1
  have hc : ∀ j u, c[j]? = some u → w.cell? (ad.add (i.toNat * 5 + j)) = some u := hc0
  obtain rfl := k26_open hK
  exact ⟨ad, e, hc 0 _ rfl, by rw [← add_field _ _ 1 (by omega)]; exact hc 1 _ rfl, by rw [← add_field _ _ 2 (by omega)]; exact hc 2 _ rfl, by rw [← add_field _ _ 3 (by omega)]; exact hc 3 _ rfl, by rw [← add_field _ _ 4 (by omega)]; exact hc 4 _ rfl⟩

/-! #### struct type 32 -/
structure S32 where
  f0 : Int
  f1 : Int
  f2 : Int
  f3 : Int
def z32 : S32 := ⟨(0 : Int), (0 : Int), (0 : Int), (0 : Int)⟩
def k32 : Kd S32 := Kd.iso (Kd.pair (Kd.int .i64) (Kd.pair (Kd.int .i64) (Kd.pair (Kd.int .i64) (Kd.int .i64)))) (fun x : S32 => (x.f0, x.f1, x.f2, x.f3))
theorem k32_open {w : World} {x : S32} {cs : List Value} (h : k32.K w x cs) : cs = [.int .i64 x.f0, .int .i64 x.f1, .int .i64 x.f2, .int .i64 x.f3] := by
  obtain ⟨_, _, rfl, rfl, ⟨_, _, rfl, rfl, ⟨_, _, rfl, rfl, rfl⟩⟩⟩ := h
  exact rfl
theorem k32_openM {w : World} {base : Nat} {ok : Nat → Prop} {x : S32} {cs : List Value} (h : k32.M w base ok x cs) : cs = [.int .i64 x.f0, .int .i64 x.f1, .int .i64 x.f2, .int .i64 x.f3] := by
  obtain ⟨_, _, rfl, rfl, ⟨_, _, rfl, rfl, ⟨_, _, rfl, rfl, rfl⟩⟩⟩ := h
  exact rfl
theorem k32_mk (w : World) (x : S32)  : k32.K w x [.int .i64 x.f0, .int .i64 x.f1, .int .i64 x.f2, .int .i64 x.f3] := ⟨[.int .i64 x.f0], [.int .i64 x.f1, .int .i64 x.f2, .int .i64 x.f3], rfl, rfl, ⟨[.int .i64 x.f1], [.int .i64 x.f2, .int .i64 x.f3], rfl, rfl, ⟨[.int .i64 x.f2], [.int .i64 x.f3], rfl, rfl, rfl⟩⟩⟩
theorem k32_mkM (w : World) (base : Nat) (ok : Nat → Prop) (x : S32)  : k32.M w base ok x [.int .i64 x.f0, .int .i64 x.f1, .int .i64 x.f2, .int .i64 x.f3] := ⟨[.int .i64 x.f0], [.int .i64 x.f1, .int .i64 x.f2, .int .i64 x.f3], rfl, rfl, ⟨[.int .i64 x.f1], [.int .i64 x.f2, .int .i64 x.f3], rfl, rfl, ⟨[.int .i64 x.f2], [.int .i64 x.f3], rfl, rfl, rfl⟩⟩⟩
theorem k32_mkF (W : World) (ok : Nat → Prop) (x : S32) : Kd.FK k32 W ok x [.int .i64 x.f0, .int .i64 x.f1, .int .i64 x.f2, .int .i64 x.f3] := fun W2 _ => k32_mk W2 x
def rd_T32 (xs : List S32) (i : Int) : S32 := xs.getD i.toNat z32
theorem at_T32 {w : World} {A : Option Addr} {n : Nat} {xs : List S32} (h : Kd.C k32 w A n xs) (i : Int) (h0 : 0 ≤ i) (h1 : i < n) : ∃ ad , A = some ad ∧ w.cell? (ad.add (i.toNat * 4)) = some (.int .i64 (rd_T32 xs i).f0) ∧ w.cell? ⟨(ad.add (i.toNat * 4)).block, (ad.add (i.toNat * 4)).off + 1, none⟩ = some (.int .i64 (rd_T32 xs i).f1) ∧ w.cell? ⟨(ad.add (i.toNat * 4)).block, (ad.add (i.toNat * 4)).off + 2, none⟩ = some (.int .i64 (rd_T32 xs i).f2) ∧ w.cell? ⟨(ad.add (i.toNat * 4)).block, (ad.add (i.toNat * 4)).off + 3, none⟩ = some (.int .i64 (rd_T32 xs i).f3) := by
  obtain ⟨ad, c, e, _, hK, hc0⟩ := Kd.C_get h z32 i h0 h1
  have hc : ∀ j u, c[j]? = some u → w.cell? (ad.add (i.toNat * 4 + j)) = some u := hc0
  obtain rfl := k32_open hK
  exact ⟨ad, e, hc 0 _ rfl, by rw [← add_field _ _ 1 (by omega)]; exact hc 1 _ rfl, by rw [← add_field _ _ 2 (by omega)]; exact hc 2 _ rfl, by rw [← add_field _ _ 3 (by omega)]; exact hc 3 _ rfl⟩

/-! #### struct type 34 -/
structure S34 where
  f0 : Int
  f1 : S32
def z34 : S34 := ⟨(0 : Int), z32⟩
def k34 : Kd S34 := Kd.iso (Kd.pair (Kd.int .i64) k32) (fun x : S34 => (x.f0, x.f1))
theorem k34_open {w : World} {x : S34} {cs : List Value} (h : k34.K w x cs) : cs = [.int .i64 x.f0, .int .i64 x.f1.f0, .int .i64 x.f1.f1, .int .i64 x.f1.f2, .int .i64 x.f1.f3] := by
  obtain ⟨_, _, rfl, rfl, s1⟩ := h
  obtain rfl := k32_open s1
  exact rfl
theorem k34_openM {w : World} {base : Nat} {ok : Nat → Prop} {x : S34} {cs : List Value} (h : k34.M w base ok x cs) : cs = [.int .i64 x.f0, .int .i64 x.f1.f0, .int .i64 x.f1.f1, .int .i64 x.f1.f2, .int .i64 x.f1.f3] := by
  obtain ⟨_, _, rfl, rfl, s1⟩ := h
  obtain rfl := k32_openM s1
  exact rfl
theorem k34_mk (w : World) (x : S34)  : k34.K w x [.int .i64 x.f0, .int .i64 x.f1.f0, .int .i64 x.f1.f1, .int .i64 x.f1.f2, .int .i64 x.f1.f3] := ⟨[.int .i64 x.f0], [.int .i64 x.f1.f0, .int .i64 x.f1.f1, .int .i64 x.f1.f2, .int .i64 x.f1.f3], rfl, rfl, (k32_mk w x.f1 )⟩
theorem k34_mkM (w : World) (base : Nat) (ok : Nat → Prop) (x : S34)  : k34.M w base ok x [.int .i64 x.f0, .int .i64 x.f1.f0, .int .i64 x.f1.f1, .int .i64 x.f1.f2, .int .i64 x.f1.f3] := ⟨[.int .i64 x.f0], [.int .i64 x.f1.f0, .int .i64 x.f1.f1, .int .i64 x.f1.f2, .int .i64 x.f1.f3], rfl, rfl, (k32_mkM w base ok x.f1 )⟩
theorem k34_mkF (W : World) (ok : Nat → Prop) (x : S34) : Kd.FK k34 W ok x [.int .i64 x.f0, .int .i64 x.f1.f0, .int .i64 x.f1.f1, .int .i64 x.f1.f2, .int .i64 x.f1.f3] := fun W2 _ => k34_mk W2 x
def rd_T34 (xs : List S34) (i : Int) : S34 := xs.getD i.toNat z34
theorem at_T34 {w : World} {A : Option Addr} {n : Nat} {xs : List S34} (h : Kd.C k34 w A n xs) (i : Int) (h0 : 0 ≤ i) (h1 : i < n) : ∃ ad , A = some ad ∧ w.cell? (ad.add (i.toNat * 5)) = some (.int .i64 (rd_T34 xs i).f0) ∧ w.cell? ⟨(ad.add (i.toNat * 5)).block, (ad.add (i.toNat * 5)).off + 1, none⟩ = some (.int .i64 (rd_T34 xs i).f1.f0) ∧ w.cell? ⟨(ad.add (i.toNat * 5)).block, (ad.add (i.toNat * 5)).off + 2, none⟩ = some (.int .i64 (rd_T34 xs i).f1.f1) ∧ w.cell? ⟨(ad.add (i.toNat * 5)).block, (ad.add (i.toNat * 5)).off + 3, none⟩ = some (.int .i64 (rd_T34 xs i).f1.f2) ∧ w.cell? ⟨(ad.add (i.toNat * 5)).block, (ad.add (i.toNat * 5)).off + 4, none⟩ = some (.int .i64 (rd_T34 xs i).f1.f3) := by
  obtain ⟨ad, c, e, _, hK, hc0⟩ := Kd.C_get h z34 i h0 h1
  have hc : ∀ j u, c[j]? = some u → w.cell? (ad.add (i.toNat * 5 + j)) = some u := hc0
  obtain rfl := k34_open hK
  exact ⟨ad, e, hc 0 _ rfl, by rw [← add_field _ _ 1 (by omega)]; exact hc 1 _ rfl, by rw [← add_field _ _ 2 (by omega)]; exact hc 2 _ rfl, by rw [← add_field _ _ 3 (by omega)]; exact hc 3 _ rfl, by rw [← add_field _ _ 4 (by omega)]; exact hc 4 _ rfl⟩

/-! #### struct type 122 -/
structure S122 where
  f0 : Int
  f1 : S24
def z122 : S122 := ⟨(0 : Int), z24⟩
def k122 : Kd S122 := Kd.iso (Kd.pair (Kd.int .i64) k24) (fun x : S122 => (x.f0, x.f1))
theorem k122_open {w : World} {x : S122} {cs : List Value} (h : k122.K w x cs) : cs = [.int .i64 x.f0, .int .i64 x.f1.f0, .int .i64 x.f1.f1, .int .i64 x.f1.f2, .int .i64 x.f1.f3] := by
  obtain ⟨_, _, rfl, rfl, s1⟩ := h
  obtain rfl := k24_open s1
  exact rfl
theorem k122_openM {w : World} {base : Nat} {ok : Nat → Prop} {x : S122} {cs : List Value} (h : k122.M w base ok x cs) : cs = [.int .i64 x.f0, .int .i64 x.f1.f0, .int .i64 x.f1.f1, .int .i64 x.f1.f2, .int .i64 x.f1.f3] := by
  obtain ⟨_, _, rfl, rfl, s1⟩ := h
  obtain rfl := k24_openM s1
  exact rfl
theorem k122_mk (w : World) (x : S122)  : k122.K w x [.int .i64 x.f0, .int .i64 x.f1.f0, .int .i64 x.f1.f1, .int .i64 x.f1.f2, .int .i64 x.f1.f3] := ⟨[.int .i64 x.f0], [.int .i64 x.f1.f0, .int .i64 x.f1.f1, .int .i64 x.f1.f2, .int .i64 x.f1.f3], rfl, rfl, (k24_mk w x.f1 )⟩
theorem k122_mkM (w : World) (base : Nat) (ok : Nat → Prop) (x : S122)  : k122.M w base ok x [.int .i64 x.f0, .int .i64 x.f1.f0, .int .i64 x.f1.f1, .int .i64 x.f1.f2, .int .i64 x.f1.f3] := ⟨[.int .i64 x.f0], [.int .i64 x.f1.f0, .int .i64 x.f1.f1, .int .i64 x.f1.f2, .int .i64 x.f1.f3], rfl, rfl, (k24_mkM w base ok x.f1 )⟩
theorem k122_mkF (W : World) (ok : Nat → Prop) (x : S122) : Kd.FK k122 W ok x [.int .i64 x.f0, .int .i64 x.f1.f0, .int .i64 x.f1.f1, .int .i64 x.f1.f2, .int .i64 x.f1.f3] := fun W2 _ => k122_mk W2 x
def rd_T122 (xs : List S122) (i : Int) : S122 := xs.getD i.toNat z122
theorem at_T122 {w : World} {A : Option Addr} {n : Nat} {xs : List S122} (h : Kd.C k122 w A n xs) (i : Int) (h0 : 0 ≤ i) (h1 : i < n) : ∃ ad , A = some ad ∧ w.cell? (ad.add (i.toNat * 5)) = some (.int .i64 (rd_T122 xs i).f0) ∧ w.cell? ⟨(ad.add (i.toNat * 5)).block, (ad.add (i.toNat * 5)).off + 1, none⟩ = some (.int .i64 (rd_T122 xs i).f1.f0) ∧ w.cell? ⟨(ad.add (i.toNat * 5)).block, (ad.add (i.toNat * 5)).off + 2, none⟩ = some (.int .i64 (rd_T122 xs i).f1.f1) ∧ w.cell? ⟨(ad.add (i.toNat * 5)).block, (ad.add (i.toNat * 5)).off + 3, none⟩ = some (.int .i64 (rd_T122 xs i).f1.f2) ∧ w.cell? ⟨(ad.add (i.toNat * 5)).block, (ad.add (i.toNat * 5)).off + 4, none⟩ = some (.int .i64 (rd_T122 xs i).f1.f3) := by
  obtain ⟨ad, c, e, _, hK, hc0⟩ := Kd.C_get h z122 i h0 h1
  have hc : ∀ j u, c[j]? = some u → w.cell? (ad.add (i.toNat * 5 + j)) = some u := hc0
  obtain rfl := k122_open hK
  exact ⟨ad, e, hc 0 _ rfl, by rw [← add_field _ _ 1 (by omega)]; exact hc 1 _ rfl, by rw [← add_field _ _ 2 (by omega)]; exact hc 2 _ rfl, by rw [← add_field _ _ 3 (by omega)]; exact hc 3 _ rfl, by rw [← add_field _ _ 4 (by omega)]; exact hc 4 _ rfl⟩

def rd_L7 (xs : List (List S122)) (i : Int) : (List S122) := xs.getD i.toNat ([] : List S122)
theorem at_L7 {w : World} {A : Option Addr} {n : Nat} {xs : List (List S122)} (h : Kd.C (Kd.slice 122 k122) w A n xs) (i : Int) (h0 : 0 ≤ i) (h1 : i < n) : ∃ ad A0 c0, A = some ad ∧ w.cell? (ad.add i.toNat) = some (.slice A0 (rd_L7 xs i).length c0) ∧ (rd_L7 xs i).length ≤ c0 ∧ k122.C w A0 (rd_L7 xs i).length (rd_L7 xs i) := by
  obtain ⟨ad, c, e, _, hK, hc0⟩ := Kd.C_get h ([] : List S122) i h0 h1
  have hc : ∀ j u, c[j]? = some u → w.cell? (ad.add (i.toNat * 1 + j)) = some u := hc0
  obtain ⟨A0, c0, rfl, l0, g0⟩ := hK
  exact ⟨ad, A0, c0, e, by have hq := hc 0 _ rfl; rwa [Nat.mul_one, Nat.add_zero] at hq, l0, g0⟩

/-! #### struct type 44 -/
structure S44 where
  f0 : Bool
  f1 : (List S122)
def z44 : S44 := ⟨false, ([] : List S122)⟩
def k44 : Kd S44 := Kd.iso (Kd.pair Kd.bool (Kd.slice 122 k122)) (fun x : S44 => (x.f0, x.f1))
theorem k44_open {w : World} {x : S44} {cs : List Value} (h : k44.K w x cs) : ∃ A1 c1, cs = [.bool x.f0, .slice A1 x.f1.length c1] ∧ x.f1.length ≤ c1 ∧ k122.C w A1 x.f1.length x.f1 := by
  obtain ⟨_, _, rfl, rfl, ⟨A1, c1, rfl, l1, g1⟩⟩ := h
  exact ⟨A1, c1, rfl, l1, g1⟩
theorem k44_openM {w : World} {base : Nat} {ok : Nat → Prop} {x : S44} {cs : List Value} (h : k44.M w base ok x cs) : ∃ v1, cs = [.bool x.f0, v1] ∧ k122.R 122 w base ok v1 x.f1 := by
  obtain ⟨_, _, rfl, rfl, ⟨v1, rfl, g1⟩⟩ := h
  exact ⟨v1, rfl, g1⟩
theorem k44_mk (w : World) (x : S44) {A1 : Option Addr} {c1 : Nat} (l1 : x.f1.length ≤ c1) (g1 : k122.C w A1 x.f1.length x.f1) : k44.K w x [.bool x.f0, .slice A1 x.f1.length c1] := ⟨[.bool x.f0], [.slice A1 x.f1.length c1], rfl, rfl, ⟨A1, c1, rfl, l1, g1⟩⟩
theorem k44_mkM (w : World) (base : Nat) (ok : Nat → Prop) (x : S44) {v1 : Value} (g1 : k122.R 122 w base ok v1 x.f1) : k44.M w base ok x [.bool x.f0, v1] := ⟨[.bool x.f0], [v1], rfl, rfl, ⟨v1, rfl, g1⟩⟩
theorem k44_openF {W : World} {ok : Nat → Prop} {x : S44} {cs : List Value} (h : Kd.FK k44 W ok x cs) : ∃ A1 c1, cs = [.bool x.f0, .slice A1 x.f1.length c1] ∧ x.f1.length ≤ c1 ∧ Kd.F k122 W ok A1 x.f1.length x.f1 := by
  obtain ⟨A1, c1, rfl, l1, _⟩ := k44_open (Kd.FK_now h)
  exact ⟨A1, c1, rfl, l1, (fun W' hW => by obtain ⟨A1_, c1_, he, l1_, g1_⟩ := k44_open (h W' hW); injection (Option.some.inj (show some (Value.slice A1 x.f1.length c1) = some (Value.slice A1_ x.f1.length c1_) from congrArg (fun l => l[1]?) he)) with ha_ _ _; rw [ha_]; exact g1_)⟩
theorem k44_mkF (W : World) (ok : Nat → Prop) (x : S44) {A1 : Option Addr} {c1 : Nat} (l1 : x.f1.length ≤ c1) (g1 : Kd.F k122 W ok A1 x.f1.length x.f1) : Kd.FK k44 W ok x [.bool x.f0, .slice A1 x.f1.length c1] := fun W2 hW => k44_mk W2 x l1 (g1 W2 hW)
def rd_T44 (xs : List S44) (i : Int) : S44 := xs.getD i.toNat z44
theorem at_T44 {w : World} {A : Option Addr} {n : Nat} {xs : List S44} (h : Kd.C k44 w A n xs) (i : Int) (h0 : 0 ≤ i) (h1 : i < n) : ∃ ad A1 c1, A = some ad ∧ w.cell? (ad.add (i.toNat * 2)) = some (.bool (rd_T44 xs i).f0) ∧ w.cell? ⟨(ad.add (i.toNat * 2)).block, (ad.add (i.toNat * 2)).off + 1, none⟩ = some (.slice A1 (rd_T44 xs i).f1.length c1) ∧ (rd_T44 xs i).f1.length ≤ c1 ∧ k122.C w A1 (rd_T44 xs i).f1.length (rd_T44 xs i).f1 := by
  obtain ⟨ad, c, e, _, hK, hc0⟩ := Kd.C_get h z44 i h0 h1
  have hc : ∀ j u, c[j]? = some u → w.cell? (ad.add (i.toNat * 2 + j)) = some u := hc0
  obtain ⟨A1, c1, rfl, l1, g1⟩ := k44_open hK
  exact ⟨ad, A1, c1, e, hc 0 _ rfl, by rw [← add_field _ _ 1 (by omega)]; exact hc 1 _ rfl, l1, g1⟩

/-! #### struct type 118 -/
structure S118 where
  f0 : Bool
  f1 : S44
def z118 : S118 := ⟨false, z44⟩
def k118 : Kd S118 := Kd.iso (Kd.pair Kd.bool k44) (fun x : S118 => (x.f0, x.f1))
theorem k118_open {w : World} {x : S118} {cs : List Value} (h : k118.K w x cs) : ∃ A2 c2, cs = [.bool x.f0, .bool x.f1.f0, .slice A2 x.f1.f1.length c2] ∧ x.f1.f1.length ≤ c2 ∧ k122.C w A2 x.f1.f1.length x.f1.f1 := by
  obtain ⟨_, _, rfl, rfl, s1⟩ := h
  obtain ⟨A2, c2, rfl, l2, g2⟩ := k44_open s1
  exact ⟨A2, c2, rfl, l2, g2⟩
theorem k118_openM {w : World} {base : Nat} {ok : Nat → Prop} {x : S118} {cs : List Value} (h : k118.M w base ok x cs) : ∃ v2, cs = [.bool x.f0, .bool x.f1.f0, v2] ∧ k122.R 122 w base ok v2 x.f1.f1 := by
  obtain ⟨_, _, rfl, rfl, s1⟩ := h
  obtain ⟨v2, rfl, g2⟩ := k44_openM s1
  exact ⟨v2, rfl, g2⟩
theorem k118_mk (w : World) (x : S118) {A2 : Option Addr} {c2 : Nat} (l2 : x.f1.f1.length ≤ c2) (g2 : k122.C w A2 x.f1.f1.length x.f1.f1) : k118.K w x [.bool x.f0, .bool x.f1.f0, .slice A2 x.f1.f1.length c2] := ⟨[.bool x.f0], [.bool x.f1.f0, .slice A2 x.f1.f1.length c2], rfl, rfl, (k44_mk w x.f1 l2 g2)⟩
theorem k118_mkM (w : World) (base : Nat) (ok : Nat → Prop) (x : S118) {v2 : Value} (g2 : k122.R 122 w base ok v2 x.f1.f1) : k118.M w base ok x [.bool x.f0, .bool x.f1.f0, v2] := ⟨[.bool x.f0], [.bool x.f1.f0, v2], rfl, rfl, (k44_mkM w base ok x.f1 g2)⟩
theorem k118_openF {W : World} {ok : Nat → Prop} {x : S118} {cs : List Value} (h : Kd.FK k118 W ok x cs) : ∃ A2 c2, cs = [.bool x.f0, .bool x.f1.f0, .slice A2 x.f1.f1.length c2] ∧ x.f1.f1.length ≤ c2 ∧ Kd.F k122 W ok A2 x.f1.f1.length x.f1.f1 := by
  obtain ⟨A2, c2, rfl, l2, _⟩ := k118_open (Kd.FK_now h)
  exact ⟨A2, c2, rfl, l2, (fun W' hW => by obtain ⟨A2_, c2_, he, l2_, g2_⟩ := k118_open (h W' hW); injection (Option.some.inj (show some (Value.slice A2 x.f1.f1.length c2) = some (Value.slice A2_ x.f1.f1.length c2_) from congrArg (fun l => l[2]?) he)) with ha_ _ _; rw [ha_]; exact g2_)⟩
theorem k118_mkF (W : World) (ok : Nat → Prop) (x : S118) {A2 : Option Addr} {c2 : Nat} (l2 : x.f1.f1.length ≤ c2) (g2 : Kd.F k122 W ok A2 x.f1.f1.length x.f1.f1) : Kd.FK k118 W ok x [.bool x.f0, .bool x.f1.f0, .slice A2 x.f1.f1.length c2] := fun W2 hW => k118_mk W2 x l2 (g2 W2 hW)
def rd_T118 (xs : List S118) (i : Int) : S118 := xs.getD i.toNat z118
theorem at_T118 {w : World} {A : Option Addr} {n : Nat} {xs : List S118} (h : Kd.C k118 w A n xs) (i : Int) (h0 : 0 ≤ i) (h1 : i < n) : ∃ ad A2 c2, A = some ad ∧ w.cell? (ad.add (i.toNat * 3)) = some (.bool (rd_T118 xs i).f0) ∧ w.cell? ⟨(ad.add (i.toNat * 3)).block, (ad.add (i.toNat * 3)).off + 1, none⟩ = some (.bool (rd_T118 xs i).f1.f0) ∧ w.cell? ⟨(ad.add (i.toNat * 3)).block, (ad.add (i.toNat * 3)).off + 2, none⟩ = some (.slice A2 (rd_T118 xs i).f1.f1.length c2) ∧ (rd_T118 xs i).f1.f1.length ≤ c2 ∧ k122.C w A2 (rd_T118 xs i).f1.f1.length (rd_T118 xs i).f1.f1 := by
  obtain ⟨ad, c, e, _, hK, hc0⟩ := Kd.C_get h z118 i h0 h1
  have hc : ∀ j u, c[j]? = some u → w.cell? (ad.add (i.toNat * 3 + j)) = some u := hc0
  obtain ⟨A2, c2, rfl, l2, g2⟩ := k118_open hK
  exact ⟨ad, A2, c2, e, hc 0 _ rfl, by rw [← add_field _ _ 1 (by omega)]; exact hc 1 _ rfl, by rw [← add_field _ _ 2 (by omega)]; exact hc 2 _ rfl, l2, g2⟩

/-! #### struct type 103 -/
structure S103 where
  f0 : Int
  f1 : S32
def z103 : S103 := ⟨(0 : Int), z32⟩
def k103 : Kd S103 := Kd.iso (Kd.pair (Kd.int .i64) k32) (fun x : S103 => (x.f0, x.f1))
theorem k103_open {w : World} {x : S103} {cs : List Value} (h : k103.K w x cs) : cs = [.int .i64 x.f0, .int .i64 x.f1.f0, .int .i64 x.f1.f1, .int .i64 x.f1.f2, .int .i64 x.f1.f3] := by
  obtain ⟨_, _, rfl, rfl, s1⟩ := h
  obtain rfl := k32_open s1
  exact rfl
theorem k103_openM {w : World} {base : Nat} {ok : Nat → Prop} {x : S103} {cs : List Value} (h : k103.M w base ok x cs) : cs = [.int .i64 x.f0, .int .i64 x.f1.f0, .int .i64 x.f1.f1, .int .i64 x.f1.f2, .int .i64 x.f1.f3] := by
  obtain ⟨_, _, rfl, rfl, s1⟩ := h
  obtain rfl := k32_openM s1
  exact rfl
theorem k103_mk (w : World) (x : S103)  : k103.K w x [.int .i64 x.f0, .int .i64 x.f1.f0, .int .i64 x.f1.f1, .int .i64 x.f1.f2, .int .i64 x.f1.f3] := ⟨[.int .i64 x.f0], [.int .i64 x.f1.f0, .int .i64 x.f1.f1, .int .i64 x.f1.f2, .int .i64 x.f1.f3], rfl, rfl, (k32_mk w x.f1 )⟩
theorem k103_mkM (w : World) (base : Nat) (ok : Nat → Prop) (x : S103)  : k103.M w base ok x [.int .i64 x.f0, .int .i64 x.f1.f0, .int .i64 x.f1.f1, .int .i64 x.f1.f2, .int .i64 x.f1.f3] := ⟨[.int .i64 x.f0], [.int .i64 x.f1.f0, .int .i64 x.f1.f1, .int .i64 x.f1.f2, .int .i64 x.f1.f3], rfl, rfl, (k32_mkM w base ok x.f1 )⟩
theorem k103_mkF (W : World) (ok : Nat → Prop) (x : S103) : Kd.FK k103 W ok x [.int .i64 x.f0, .int .i64 x.f1.f0, .int .i64 x.f1.f1, .int .i64 x.f1.f2, .int .i64 x.f1.f3] := fun W2 _ => k103_mk W2 x
def rd_T103 (xs : List S103) (i : Int) : S103 := xs.getD i.toNat z103
theorem at_T103 {w : World} {A : Option Addr} {n : Nat} {xs : List S103} (h : Kd.C k103 w A n xs) (i : Int) (h0 : 0 ≤ i) (h1 : i < n) : ∃ ad , A = some ad ∧ w.cell? (ad.add (i.toNat * 5)) = some (.int .i64 (rd_T103 xs i).f0) ∧ w.cell? ⟨(ad.add (i.toNat * 5)).block, (ad.add (i.toNat * 5)).off + 1, none⟩ = some (.int .i64 (rd_T103 xs i).f1.f0) ∧ w.cell? ⟨(ad.add (i.toNat * 5)).block, (ad.add (i.toNat * 5)).off + 2, none⟩ = some (.int .i64 (rd_T103 xs i).f1.f1) ∧ w.cell? ⟨(ad.add (i.toNat * 5)).block, (ad.add (i.toNat * 5)).off + 3, none⟩ = some (.int .i64 (rd_T103 xs i).f1.f2) ∧ w.cell? ⟨(ad.add (i.toNat * 5)).block, (ad.add (i.toNat * 5)).off + 4, none⟩ = some (.int .i64 (rd_T103 xs i).f1.f3) := by
  obtain ⟨ad, c, e, _, hK, hc0⟩ := Kd.C_get h z103 i h0 h1
  have hc : ∀ j u, c[j]? = some u → w.cell? (ad.add (i.toNat * 5 + j)) = some u := hc0
  obtain rfl := k103_open hK
  exact ⟨ad, e, hc 0 _ rfl, by rw [← add_field _ _ 1 (by omega)]; exact hc 1 _ rfl, by rw [← add_field _ _ 2 (by omega)]; exact hc 2 _ rfl, by rw [← add_field _ _ 3 (by omega)]; exact hc 3 _ rfl, by rw [← add_field _ _ 4 (by omega)]; exact hc 4 _ rfl⟩

def rd_L11 (xs : List (List S103)) (i : Int) : (List S103) := xs.getD i.toNat ([] : List S103)
theorem at_L11 {w : World} {A : Option Addr} {n : Nat} {xs : List (List S103)} (h : Kd.C (Kd.slice 103 k103) w A n xs) (i : Int) (h0 : 0 ≤ i) (h1 : i < n) : ∃ ad A0 c0, A = some ad ∧ w.cell? (ad.add i.toNat) = some (.slice A0 (rd_L11 xs i).length c0) ∧ (rd_L11 xs i).length ≤ c0 ∧ k103.C w A0 (rd_L11 xs i).length (rd_L11 xs i) := by
  obtain ⟨ad, c, e, _, hK, hc0⟩ := Kd.C_get h ([] : List S103) i h0 h1
  have hc : ∀ j u, c[j]? = some u → w.cell? (ad.add (i.toNat * 1 + j)) = some u := hc0
  obtain ⟨A0, c0, rfl, l0, g0⟩ := hK
  exact ⟨ad, A0, c0, e, by have hq := hc 0 _ rfl; rwa [Nat.mul_one, Nat.add_zero] at hq, l0, g0⟩

/-! #### struct type 54 -/
structure S54 where
  f0 : Bool
  f1 : (List S103)
def z54 : S54 := ⟨false, ([] : List S103)⟩
def k54 : Kd S54 := Kd.iso (Kd.pair Kd.bool (Kd.slice 103 k103)) (fun x : S54 => (x.f0, x.f1))
theorem k54_open {w : World} {x : S54} {cs : List Value} (h : k54.K w x cs) : ∃ A1 c1, cs = [.bool x.f0, .slice A1 x.f1.length c1] ∧ x.f1.length ≤ c1 ∧ k103.C w A1 x.f1.length x.f1 := by
  obtain ⟨_, _, rfl, rfl, ⟨A1, c1, rfl, l1, g1⟩⟩ := h
  exact ⟨A1, c1, rfl, l1, g1⟩
theorem k54_openM {w : World} {base : Nat} {ok : Nat → Prop} {x : S54} {cs : List Value} (h : k54.M w base ok x cs) : ∃ v1, cs = [.bool x.f0, v1] ∧ k103.R 103 w base ok v1 x.f1 := by
  obtain ⟨_, _, rfl, rfl, ⟨v1, rfl, g1⟩⟩ := h
  exact ⟨v1, rfl, g1⟩
theorem k54_mk (w : World) (x : S54) {A1 : Option Addr} {c1 : Nat} (l1 : x.f1.length ≤ c1) (g1 : k103.C w A1 x.f1.length x.f1) : k54.K w x [.bool x.f0, .slice A1 x.f1.length c1] := ⟨[.bool x.f0], [.slice A1 x.f1.length c1], rfl, rfl, ⟨A1, c1, rfl, l1, g1⟩⟩
theorem k54_mkM (w : World) (base : Nat) (ok : Nat → Prop) (x : S54) {v1 : Value} (g1 : k103.R 103 w base ok v1 x.f1) : k54.M w base ok x [.bool x.f0, v1] := ⟨[.bool x.f0], [v1], rfl, rfl, ⟨v1, rfl, g1⟩⟩
theorem k54_openF {W : World} {ok : Nat → Prop} {x : S54} {cs : List Value} (h : Kd.FK k54 W ok x cs) : ∃ A1 c1, cs = [.bool x.f0, .slice A1 x.f1.length c1] ∧ x.f1.length ≤ c1 ∧ Kd.F k103 W ok A1 x.f1.length x.f1 := by
  obtain ⟨A1, c1, rfl, l1, _⟩ := k54_open (Kd.FK_now h)
  exact ⟨A1, c1, rfl, l1, (fun W' hW => by obtain ⟨A1_, c1_, he, l1_, g1_⟩ := k54_open (h W' hW); injection (Option.some.inj (show some (Value.slice A1 x.f1.length c1) = some (Value.slice A1_ x.f1.length c1_) from congrArg (fun l => l[1]?) he)) with ha_ _ _; rw [ha_]; exact g1_)⟩
theorem k54_mkF (W : World) (ok : Nat → Prop) (x : S54) {A1 : Option Addr} {c1 : Nat} (l1 : x.f1.length ≤ c1) (g1 : Kd.F k103 W ok A1 x.f1.length x.f1) : Kd.FK k54 W ok x [.bool x.f0, .slice A1 x.f1.length c1] := fun W2 hW => k54_mk W2 x l1 (g1 W2 hW)
def rd_T54 (xs : List S54) (i : Int) : S54 := xs.getD i.toNat z54
theorem at_T54 {w : World} {A : Option Addr} {n : Nat} {xs : List S54} (h : Kd.C k54 w A n xs) (i : Int) (h0 : 0 ≤ i) (h1 : i < n) : ∃ ad A1 c1, A = some ad ∧ w.cell? (ad.add (i.toNat * 2)) = some (.bool (rd_T54 xs i).f0) ∧ w.cell? ⟨(ad.add (i.toNat * 2)).block, (ad.add (i.toNat * 2)).off + 1, none⟩ = some (.slice A1 (rd_T54 xs i).f1.length c1) ∧ (rd_T54 xs i).f1.length ≤ c1 ∧ k103.C w A1 (rd_T54 xs i).f1.length (rd_T54 xs i).f1 := by
  obtain ⟨ad, c, e, _, hK, hc0⟩ := Kd.C_get h z54 i h0 h1
  have hc : ∀ j u, c[j]? = some u → w.cell? (ad.add (i.toNat * 2 + j)) = some u := hc0
  obtain ⟨A1, c1, rfl, l1, g1⟩ := k54_open hK
  exact ⟨ad, A1, c1, e, hc 0 _ rfl, by rw [← add_field _ _ 1 (by omega)]; exact hc 1 _ rfl, l1, g1⟩

/-! #### struct type 90 -/
structure S90 where
  f0 : Bool
  f1 : S54
def z90 : S90 := ⟨false, z54⟩
def k90 : Kd S90 := Kd.iso (Kd.pair Kd.bool k54) (fun x : S90 => (x.f0, x.f1))
theorem k90_open {w : World} {x : S90} {cs : List Value} (h : k90.K w x cs) : ∃ A2 c2, cs = [.bool x.f0, .bool x.f1.f0, .slice A2 x.f1.f1.length c2] ∧ x.f1.f1.length ≤ c2 ∧ k103.C w A2 x.f1.f1.length x.f1.f1 := by
  obtain ⟨_, _, rfl, rfl, s1⟩ := h
  obtain ⟨A2, c2, rfl, l2, g2⟩ := k54_open s1
  exact ⟨A2, c2, rfl, l2, g2⟩
theorem k90_openM {w : World} {base : Nat} {ok : Nat → Prop} {x : S90} {cs : List Value} (h : k90.M w base ok x cs) : ∃ v2, cs = [.bool x.f0, .bool x.f1.f0, v2] ∧ k103.R 103 w base ok v2 x.f1.f1 := by
  obtain ⟨_, _, rfl, rfl, s1⟩ := h
  obtain ⟨v2, rfl, g2⟩ := k54_openM s1
  exact ⟨v2, rfl, g2⟩
theorem k90_mk (w : World) (x : S90) {A2 : Option Addr} {c2 : Nat} (l2 : x.f1.f1.length ≤ c2) (g2 : k103.C w A2 x.f1.f1.length x.f1.f1) : k90.K w x [.bool x.f0, .bool x.f1.f0, .slice A2 x.f1.f1.length c2] := ⟨[.bool x.f0], [.bool x.f1.f0, .slice A2 x.f1.f1.length c2], rfl, rfl, (k54_mk w x.f1 l2 g2)⟩
theorem k90_mkM (w : World) (base : Nat) (ok : Nat → Prop) (x : S90) {v2 : Value} (g2 : k103.R 103 w base ok v2 x.f1.f1) : k90.M w base ok x [.bool x.f0, .bool x.f1.f0, v2] := ⟨[.bool x.f0], [.bool x.f1.f0, v2], rfl, rfl, (k54_mkM w base ok x.f1 g2)⟩
theorem k90_openF {W : World} {ok : Nat → Prop} {x : S90} {cs : List Value} (h : Kd.FK k90 W ok x cs) : ∃ A2 c2, cs = [.bool x.f0, .bool x.f1.f0, .slice A2 x.f1.f1.length c2] ∧ x.f1.f1.length ≤ c2 ∧ Kd.F k103 W ok A2 x.f1.f1.length x.f1.f1 := by
  obtain ⟨A2, c2, rfl, l2, _⟩ := k90_open (Kd.FK_now h)
  exact ⟨A2, c2, rfl, l2, (fun W' hW => by obtain ⟨A2_, c2_, he, l2_, g2_⟩ := k90_open (h W' hW); injection (Option.some.inj (show some (Value.slice A2 x.f1.f1.length c2) = some (Value.slice A2_ x.f1.f1.length c2_) from congrArg (fun l => l[2]?) he)) with ha_ _ _; rw [ha_]; exact g2_)⟩
theorem k90_mkF (W : World) (ok : Nat → Prop) (x : S90) {A2 : Option Addr} {c2 : Nat} (l2 : x.f1.f1.length ≤ c2) (g2 : Kd.F k103 W ok A2 x.f1.f1.length x.f1.f1) : Kd.FK k90 W ok x [.bool x.f0, .bool x.f1.f0, .slice A2 x.f1.f1.length c2] := fun W2 hW => k90_mk W2 x l2 (g2 W2 hW)
def rd_T90 (xs : List S90) (i : Int) : S90 := xs.getD i.toNat z90
theorem at_T90 {w : World} {A : Option Addr} {n : Nat} {xs : List S90} (h : Kd.C k90 w A n xs) (i : Int) (h0 : 0 ≤ i) (h1 : i < n) : ∃ ad A2 c2, A = some ad ∧ w.cell? (ad.add (i.toNat * 3)) = some (.bool (rd_T90 xs i).f0) ∧ w.cell? ⟨(ad.add (i.toNat * 3)).block, (ad.add (i.toNat * 3)).off + 1, none⟩ = some (.bool (rd_T90 xs i).f1.f0) ∧ w.cell? ⟨(ad.add (i.toNat * 3)).block, (ad.add (i.toNat * 3)).off + 2, none⟩ = some (.slice A2 (rd_T90 xs i).f1.f1.length c2) ∧ (rd_T90 xs i).f1.f1.length ≤ c2 ∧ k103.C w A2 (rd_T90 xs i).f1.f1.length (rd_T90 xs i).f1.f1 := by
  obtain ⟨ad, c, e, _, hK, hc0⟩ := Kd.C_get h z90 i h0 h1
  have hc : ∀ j u, c[j]? = some u → w.cell? (ad.add (i.toNat * 3 + j)) = some u := hc0
  obtain ⟨A2, c2, rfl, l2, g2⟩ := k90_open hK
  exact ⟨ad, A2, c2, e, hc 0 _ rfl, by rw [← add_field _ _ 1 (by omega)]; exact hc 1 _ rfl, by rw [← add_field _ _ 2 (by omega)]; exact hc 2 _ rfl, l2, g2⟩

end Go.Proofs.Ytngjaajcdbodeaa.All

/- Short names for the steps that printed texts repeat. No condition. -/
namespace Go.Proofs.Ytngjaajcdbodeaa.Sq
open Go.RowKit Go.Proofs.YtngjaajcdbodeaaW.PrintWords Go.Proofs.YtngjaajcdbodeaaW.PrintLast Go.Proofs.YtngjaajcdbodeaaW.PrintMore
set_option linter.unusedVariables false

theorem az {p : Prop} (h : p := by first | rfl | (simp; done) | (simp [*]; done)) : p := h
theorem ez {p : Prop} (h : p := by first | rfl | (simp [errW_none, errW_some] <;> rfl) | (simp [*, errW_none, errW_some] <;> rfl)) : p := h
theorem lz {p : Prop} (h : p := by first | omega | exact Nat.le_refl _) : p := h
theorem dz {p : Prop} (h : p := by (try simp only [List.map_toArray, List.map_cons, List.map_nil]); first | done | rfl | (simp only [List.length_drop, List.length_take]; rfl)) : p := h
theorem uz {p : Prop} (h : p := by first | (with_reducible assumption) | assumption) : p := h
theorem pz {p : Prop} (h : p := by simp only [Act.put, List.setIfInBounds_toArray, List.set_cons_zero, List.set_cons_succ, i64_w, i32_w]; rfl) : p := h
theorem bz {p q : Prop} (x : p) (h : p → q := by intro y; repeat (first | (with_reducible first | exact y | apply below_alloc | apply pw_below_drewN | apply below_drew1) | exact y)) : q := h x
theorem b1 {p q s : Prop} (z : s) (x : p) (h : s → p → q := by intro z1 y; repeat (first | (with_reducible first | exact y | apply below_alloc | apply pw_below_drewN | apply below_drew1 | refine below_set ?_ z1) | exact y)) : q := h z x
theorem b2 {p q s t : Prop} (z : s) (z2 : t) (x : p) (h : s → t → p → q := by intro z1 z2 y; repeat (first | (with_reducible first | exact y | apply below_alloc | apply pw_below_drewN | apply below_drew1 | refine below_set ?_ z1 | refine below_set ?_ z2) | exact y)) : q := h z z2 x
theorem kz {p q : Prop} (x : p) (h : p → q := by intro y; (with_reducible repeat (first | refine blk_drewN ?_ _ | refine blk_drew ?_ | refine blk_alloc ?_ _)); exact y) : q := h x
theorem rz {p q : Prop} (x : p) (h : p → q := by intro y; (with_reducible repeat (first | apply Kd.R_alloc | apply Kd.R_drewN | apply Kd.R_drew)); exact y) : q := h x
theorem sz {p q s : Prop} (z : s) (x : p) (h : s → p → q := by intro a b; repeat (first | exact (Kd.C_below a b) | (with_reducible refine Kd.C_alloc ?_ _) | (with_reducible refine Kd.C_drewN ?_ _) | (with_reducible refine Kd.C_drew ?_))) : q := h z x
theorem cz {w w' : World} {a : Addr} {v : Value} (hb : Below w.heap.size w w') (h : w.cell? a = some v) : w'.cell? a = some v := (hb.cell (World.block_lt_of_cell? w _ h)).trans h
theorem fz {w : World} {g : Nat} {cs : Array Value} {t : TypeId} (h : w.heap[g]? = some (.cells cs t (0, 0))) (i : Nat) (v : Value) (e : cs[i]? = some v := by rfl) : w.cell? ⟨g, i, none⟩ = some v := (blk_cell h i).trans e

end Go.Proofs.Ytngjaajcdbodeaa.Sq

namespace Go.Proofs.Ytngjaajcdbodeaa.All
open Go.RowKit Go.Proofs.YtngjaajcdbodeaaW.PrintWords Go.Proofs.YtngjaajcdbodeaaW.PrintLast Go.Proofs.YtngjaajcdbodeaaW.PrintMore Go.Proofs.Ytngjaajcdbodeaa.Sq
attribute [local go_sem] max2_int min2_int max_two min_two max_three min_three max_four min_four 
set_option linter.unusedVariables false
set_option linter.unusedSimpArgs false

/-! ### laws_toBox: function 48 -/
def laws_toBox.f (a0_0 : Int) (a0_1 : Int) (a0_2 : Int) (a0_3 : Int) : Option (Int × Int × Int × Int) := some (a0_0, a0_1, a0_2, a0_3)
set_option maxHeartbeats 8000000 in
set_option maxRecDepth 100000 in
theorem laws_toBox.calls (a0_0 : Int) (a0_1 : Int) (a0_2 : Int) (a0_3 : Int) (r1 : Int) (r2 : Int) (r3 : Int) (r4 : Int) (w : World) (h : laws_toBox.f a0_0 a0_1 a0_2 a0_3 = some (r1, r2, r3, r4)) :
    Calls Try.prog 48 #[.agg #[.int .i64 a0_0, .int .i64 a0_1, .int .i64 a0_2, .int .i64 a0_3]] w fun e w' => e = .returned (.agg #[.int .i64 r1, .int .i64 r2, .int .i64 r3, .int .i64 r4]) ∧ Below w.heap.size w w' := by
  have hu24 := Try.underlying24; have hu32 := Try.underlying32; have HB := Aside0.mk (Below.refl w.heap.size w); have H : (some (a0_0, a0_1, a0_2, a0_3)) = some (r1, r2, r3, r4) := h; clear h
  simp only [Option.some.injEq, Prod.mk.injEq] at H
  obtain ⟨rfl, rfl, rfl, rfl⟩ := H
  go_enter Try.func48, Try.ntmps48
  go_wp2_with (first | ((with_reducible refine gate_dst (N := 1) rfl ?_); refine box_event ?hg (N := 1) ?hd (cs := #[.int .i64 a0_0, .int .i64 a0_1, .int .i64 a0_2, .int .i64 a0_3]) (t := 24) ?hr ?_; (case hd => rfl); (case hg => rfl); (case hr => first | (go_simp; done) | (go_simp; rfl)); intro gb150 hg w2 hbox hb; have n0_ := Aside0.mk (below_step (bz HB.out) hb); have n1_ := Aside0.mk (hbox); have n2_ := Aside0.mk ((by rw [hg]; exact (below_size (bz HB.out)) : w.heap.size ≤ gb150)); have n3_ := Aside0.mk ((by rw [hg]; exact (below_size (bz HB.out)) : w.heap.size ≤ gb150)); clear HB; have HB := n0_; have BK150 := n1_; have GW150 := n2_; have GE150 := n3_; clear n0_ n1_ n2_ n3_; clear hb hbox hg) | ((with_reducible refine gate_dst (N := 2) rfl ?_); refine box_event ?hg (N := 2) ?hd (cs := #[.int .i64 0, .int .i64 0, .int .i64 0, .int .i64 0]) (t := 32) ?hr ?_; (case hd => rfl); (case hg => rfl); (case hr => first | (go_simp; done) | (go_simp; rfl)); intro gb151 hg w3 hbox hb; have n0_ := Aside0.mk (blk_below (g := gb150) (o := .cells #[.int .i64 a0_0, .int .i64 a0_1, .int .i64 a0_2, .int .i64 a0_3] 24 (0, 0)) (kz BK150.out) hb); have n1_ := Aside0.mk (below_step (b1 GE150.out HB.out) hb); have n2_ := Aside0.mk (hbox); have n3_ := Aside0.mk ((by rw [hg]; exact (below_size (b1 GE150.out HB.out)) : w.heap.size ≤ gb151)); have n4_ := Aside0.mk ((by rw [hg]; exact (below_size (b1 GE150.out HB.out)) : w.heap.size ≤ gb151)); have n5_ := Aside0.mk ((by rw [hg]; exact Nat.ne_of_lt (blk_lt (g := gb150) (o := .cells #[.int .i64 a0_0, .int .i64 a0_1, .int .i64 a0_2, .int .i64 a0_3] 24 (0, 0)) (kz BK150.out)) : gb150 ≠ gb151)); have n6_ := Aside0.mk ((by rw [hg]; exact Nat.ne_of_gt (blk_lt (g := gb150) (o := .cells #[.int .i64 a0_0, .int .i64 a0_1, .int .i64 a0_2, .int .i64 a0_3] 24 (0, 0)) (kz BK150.out)) : gb151 ≠ gb150)); clear BK150; clear HB; have BK150 := n0_; have HB := n1_; have BK151 := n2_; have GW151 := n3_; have GE151 := n4_; have NB150_151 := n5_; have NB151_150 := n6_; clear n0_ n1_ n2_ n3_ n4_ n5_ n6_; clear hb hbox hg) | ((with_reducible refine gate_dst (N := 3) rfl ?_); refine box_event ?hg (N := 3) ?hd (cs := #[.int .i64 0, .int .i64 0, .int .i64 0, .int .i64 0]) (t := 32) ?hr ?_; (case hd => rfl); (case hg => rfl); (case hr => first | (go_simp; done) | (go_simp; rfl)); intro gb152 hg w4 hbox hb; have n0_ := Aside0.mk (blk_below (g := gb150) (o := .cells #[.int .i64 a0_0, .int .i64 a0_1, .int .i64 a0_2, .int .i64 a0_3] 24 (0, 0)) (kz BK150.out) hb); have n1_ := Aside0.mk (blk_below (g := gb151) (o := .cells #[.int .i64 0, .int .i64 0, .int .i64 0, .int .i64 0] 32 (0, 0)) (kz BK151.out) hb); have n2_ := Aside0.mk (below_step (b2 GE150.out GE151.out HB.out) hb); have n3_ := Aside0.mk (hbox); have n4_ := Aside0.mk ((by rw [hg]; exact (below_size (b2 GE150.out GE151.out HB.out)) : w.heap.size ≤ gb152)); have n5_ := Aside0.mk ((by rw [hg]; exact (below_size (b2 GE150.out GE151.out HB.out)) : w.heap.size ≤ gb152)); have n6_ := Aside0.mk ((by rw [hg]; exact Nat.ne_of_lt (blk_lt (g := gb150) (o := .cells #[.int .i64 a0_0, .int .i64 a0_1, .int .i64 a0_2, .int .i64 a0_3] 24 (0, 0)) (kz BK150.out)) : gb150 ≠ gb152)); have n7_ := Aside0.mk ((by rw [hg]; exact Nat.ne_of_gt (blk_lt (g := gb150) (o := .cells #[.int .i64 a0_0, .int .i64 a0_1, .int .i64 a0_2, .int .i64 a0_3] 24 (0, 0)) (kz BK150.out)) : gb152 ≠ gb150)); have n8_ := Aside0.mk ((by rw [hg]; exact Nat.ne_of_lt (blk_lt (g := gb151) (o := .cells #[.int .i64 0, .int .i64 0, .int .i64 0, .int .i64 0] 32 (0, 0)) (kz BK151.out)) : gb151 ≠ gb152)); have n9_ := Aside0.mk ((by rw [hg]; exact Nat.ne_of_gt (blk_lt (g := gb151) (o := .cells #[.int .i64 0, .int .i64 0, .int .i64 0, .int .i64 0] 32 (0, 0)) (kz BK151.out)) : gb152 ≠ gb151)); clear BK150; clear BK151; clear HB; have BK150 := n0_; have BK151 := n1_; have HB := n2_; have BK152 := n3_; have GW152 := n4_; have GE152 := n5_; have NB150_152 := n6_; have NB152_150 := n7_; have NB151_152 := n8_; have NB152_151 := n9_; clear n0_ n1_ n2_ n3_ n4_ n5_ n6_ n7_ n8_ n9_; clear hb hbox hg; have hnb5 := NB150_151.out; have hnc5 := NB151_150.out; have hnb6 := NB150_152.out; have hnc6 := NB152_150.out; have hcz7_0 := fz BK150.out 0 (.int .i64 a0_0); have hcz7_1 := fz BK150.out 1 (.int .i64 a0_1); have hcz7_2 := fz BK150.out 2 (.int .i64 a0_2); have hcz7_3 := fz BK150.out 3 (.int .i64 a0_3); have hfz7_0 := blk_frozen BK150.out 0; have hfz7_1 := blk_frozen BK150.out 1; have hfz7_2 := blk_frozen BK150.out 2; have hfz7_3 := blk_frozen BK150.out 3; have hnb8 := NB152_151.out; have hnc8 := NB151_152.out; have hcz9_0 := fz BK152.out 0 (.int .i64 0); have hcz9_1 := fz BK152.out 1 (.int .i64 0); have hcz9_2 := fz BK152.out 2 (.int .i64 0); have hcz9_3 := fz BK152.out 3 (.int .i64 0); have hfz9_0 := blk_frozen BK152.out 0; have hfz9_1 := blk_frozen BK152.out 1; have hfz9_2 := blk_frozen BK152.out 2; have hfz9_3 := blk_frozen BK152.out 3; have hcz10_0 := fz BK151.out 0 (.int .i64 0); have hcz10_1 := fz BK151.out 1 (.int .i64 0); have hcz10_2 := fz BK151.out 2 (.int .i64 0); have hcz10_3 := fz BK151.out 3 (.int .i64 0); have hfz10_0 := blk_frozen BK151.out 0; have hfz10_1 := blk_frozen BK151.out 1; have hfz10_2 := blk_frozen BK151.out 2; have hfz10_3 := blk_frozen BK151.out 3))
  refine bodyPost_ret (results_cell_row rfl _ _ gb151 32 #[.int .i64 a0_0, .int .i64 a0_1, .int .i64 a0_2, .int .i64 a0_3] (0, 0) _ rfl (by (with_reducible repeat (first | refine blk_drewN ?_ _ | refine blk_drew ?_ | refine blk_alloc ?_ _)); refine blk_put (cs := #[.int .i64 a0_0, .int .i64 a0_1, .int .i64 a0_2, .int .i64 0]) ?_ 3 _ rfl; (with_reducible repeat (first | refine blk_drewN ?_ _ | refine blk_drew ?_ | refine blk_alloc ?_ _)); refine blk_put (cs := #[.int .i64 a0_0, .int .i64 a0_1, .int .i64 0, .int .i64 0]) ?_ 2 _ rfl; (with_reducible repeat (first | refine blk_drewN ?_ _ | refine blk_drew ?_ | refine blk_alloc ?_ _)); refine blk_put (cs := #[.int .i64 a0_0, .int .i64 0, .int .i64 0, .int .i64 0]) ?_ 1 _ rfl; (with_reducible repeat (first | refine blk_drewN ?_ _ | refine blk_drew ?_ | refine blk_alloc ?_ _)); refine blk_put (cs := #[.int .i64 0, .int .i64 0, .int .i64 0, .int .i64 0]) ?_ 0 _ rfl; (with_reducible repeat (first | refine blk_drewN ?_ _ | refine blk_drew ?_ | refine blk_alloc ?_ _)); refine blk_far ?_ NB151_152.out _; (with_reducible repeat (first | refine blk_drewN ?_ _ | refine blk_drew ?_ | refine blk_alloc ?_ _)); refine blk_far ?_ NB151_152.out _; (with_reducible repeat (first | refine blk_drewN ?_ _ | refine blk_drew ?_ | refine blk_alloc ?_ _)); refine blk_far ?_ NB151_152.out _; (with_reducible repeat (first | refine blk_drewN ?_ _ | refine blk_drew ?_ | refine blk_alloc ?_ _)); refine blk_far ?_ NB151_152.out _; (with_reducible repeat (first | refine blk_drewN ?_ _ | refine blk_drew ?_ | refine blk_alloc ?_ _)); exact BK151.out) Try.underlying32 rfl (by kernel_rfl)) rfl ?_; exact ⟨ez, by repeat (first | (with_reducible first | exact HB.out | apply below_alloc | apply pw_below_drewN | apply below_drew1 | refine below_set ?_ GE150.out | refine below_set ?_ GE151.out | refine below_set ?_ GE152.out) | exact HB.out)⟩

end Go.Proofs.Ytngjaajcdbodeaa.All

/- Plain laws of the printed functions: rounds, and the types. No condition. -/
namespace Go.Proofs.Ytngjaajcdbodeaa.Pure
open Go.RowKit Go.Proofs.Ytngjaajcdbodeaa.All Go.Proofs.YtngjaajcdbodeaaW.PrintWords Go.Proofs.YtngjaajcdbodeaaW.PrintLast Go.Proofs.Ytngjaajcdbodeaa.Sq
set_option linter.unusedVariables false

/-- With enough rounds g answers r. -/
def Evn {α : Type} (g : Nat → Option α) (r : α) : Prop := ∃ K, ∀ k, K ≤ k → g k = some r
theorem Evn.const {α : Type} {g : Nat → Option α} {r : α} (h : ∀ k, g k = some r) : Evn g r := ⟨0, fun k _ => h k⟩
theorem Evn.ret {α : Type} (r : α) : Evn (fun _ => some r) r := ⟨0, fun _ _ => rfl⟩
theorem Evn.bind {α β : Type} {g : Nat → Option α} {f : Nat → α → Option β} {a : α} {r : β} (h : Evn g a) (k : Evn (fun k => f k a) r) : Evn (fun k => (g k).bind (f k)) r := by
  obtain ⟨K, hK⟩ := h; obtain ⟨L, hL⟩ := k; refine ⟨K + L, fun k hk => ?_⟩
  show (g k).bind (f k) = some r
  rw [hK k (by omega)]; exact hL k (by omega)
theorem Evn.step {α : Type} {g g' : Nat → Option α} {r : α} (h : ∀ k, g (k + 1) = g' k) (k : Evn g' r) : Evn g r := by
  obtain ⟨L, hL⟩ := k; refine ⟨L + 1, fun k hk => ?_⟩; obtain ⟨m, rfl⟩ : ∃ m, k = m + 1 := ⟨k - 1, by omega⟩; rw [h m]; exact hL m (by omega)
theorem Evn.pos {α : Type} {c : Prop} [Decidable c] {g g' : Nat → Option α} {r : α} (hc : c) (h : Evn g r) : Evn (fun k => if c then g k else g' k) r := by
  obtain ⟨L, hL⟩ := h; exact ⟨L, fun k hk => by show (if c then g k else g' k) = some r; rw [if_pos hc]; exact hL k hk⟩
theorem Evn.neg {α : Type} {c : Prop} [Decidable c] {g g' : Nat → Option α} {r : α} (hc : ¬ c) (h : Evn g' r) : Evn (fun k => if c then g k else g' k) r := by
  obtain ⟨L, hL⟩ := h; exact ⟨L, fun k hk => by show (if c then g k else g' k) = some r; rw [if_neg hc]; exact hL k hk⟩
theorem Evn.congr {α : Type} {g g' : Nat → Option α} {r : α} (h : ∀ k, g k = g' k) (k : Evn g' r) : Evn g r := by
  obtain ⟨L, hL⟩ := k; exact ⟨L, fun k hk => by rw [h k]; exact hL k hk⟩
theorem Evn.some_k {α : Type} {g : Nat → Option α} {r : α} (h : Evn g r) : ∃ k, g k = some r := ⟨_, h.choose_spec _ (Nat.le_refl _)⟩
theorem Evn.same {α : Type} {g g' : Nat → Option α} {r : α} (h : Evn g r) (he : ∀ k, g k = g' k) : Evn g' r := Evn.congr (fun k => (he k).symm) h

abbrev LBx := S24
abbrev Bx := S32
abbrev LEn := S122
abbrev En := S103
abbrev LIt := S26
abbrev It := S34


end Go.Proofs.Ytngjaajcdbodeaa.Pure

namespace Go.Proofs.Ytngjaajcdbodeaa.All
open Go.RowKit Go.Proofs.YtngjaajcdbodeaaW.PrintWords Go.Proofs.YtngjaajcdbodeaaW.PrintLast Go.Proofs.YtngjaajcdbodeaaW.PrintMore Go.Proofs.Ytngjaajcdbodeaa.Sq
attribute [local go_sem] max2_int min2_int max_two min_two max_three min_three max_four min_four 
set_option linter.unusedVariables false
set_option linter.unusedSimpArgs false

/-! ### spec_l7Has: function 87 -/
def spec_l7Has.l0 : Nat → List Int → Int → Int → Option (Bool)
  | 0, _, _, _ => none
  | k + 1, x0, x1, x5 => if x5 < (x0.length : Int) then (if 0 ≤ x5 then (if (rd x0 x5) = x1 then (some true) else (spec_l7Has.l0 k x0 x1 (wrap64 (x5 + 1)))) else (none)) else (some false)
def spec_l7Has.f (k : Nat) (l0 : List Int) (a1 : Int) : Option (Bool) := spec_l7Has.l0 k l0 a1 0
theorem spec_l7Has.mono_l : ∀ k, (∀ y0 y1 y2, LeO (spec_l7Has.l0 k y0 y1 y2) (spec_l7Has.l0 (k + 1) y0 y1 y2))
  | 0 => fun _ _ _ r h => by simp [spec_l7Has.l0] at h
  | k + 1 => by
    have ih0 := spec_l7Has.mono_l k
    · intro y0 y1 y2
      unfold spec_l7Has.l0
      repeat' first | (with_reducible first | exact ih0 _ _ _ | exact LeO.refl _ | exact LeO.none _ | refine LeO.ite ?_ ?_ | refine LeO.bind ?_ (fun _ => ?_)) | exact ih0 _ _ _ | exact LeO.none _ | refine LeO.ite ?_ ?_ | refine LeO.bind ?_ (fun _ => ?_)
theorem spec_l7Has.mono : ∀ a0 a1 k, LeO (spec_l7Has.f k a0 a1) (spec_l7Has.f (k + 1) a0 a1) := by
  intro a0 a1 k
  have ih0 := spec_l7Has.mono_l k; unfold spec_l7Has.f
  repeat' first | (with_reducible first | exact ih0 _ _ _ | exact LeO.refl _ | exact LeO.none _ | refine LeO.ite ?_ ?_ | refine LeO.bind ?_ (fun _ => ?_)) | exact ih0 _ _ _ | exact LeO.none _ | refine LeO.ite ?_ ?_ | refine LeO.bind ?_ (fun _ => ?_)
set_option maxHeartbeats 8000000 in
set_option maxRecDepth 100000 in
theorem spec_l7Has.calls (k : Nat) (A0 : Option Addr) (c0 : Nat) (l0 : List Int) (a1 : Int) (r : Bool) (w : World) (hr0 : Kd.C (Kd.int .i64) w A0 l0.length l0) (hc0 : l0.length ≤ c0) (h : spec_l7Has.f k l0 a1 = some r) :
    Calls Try.prog 87 #[.slice A0 l0.length c0, .int .i64 a1] w fun e w' => e = .returned (.bool r) ∧ Drawn0 w w' := by
  have HR0 := Aside0.mk hr0; have HC0 := Aside0.mk hc0; clear hr0 hc0; have H : (spec_l7Has.l0 k l0 a1 0) = some r := h; clear h; have H' := Aside0.mk H; clear H
  go_enter Try.func87, Try.ntmps87
  go_wp2
  go_loopg [5] k (fun kq v5 w' => ∃ (x5_1 : Int), v5 = .int .i64 x5_1 ∧ Aside0 (spec_l7Has.l0 kq l0 a1 x5_1 = some r) ∧ Aside0 (kq ≤ k) ∧ Drawn0 w w')
  case atStart => exact ⟨(0), az, H', ⟨Nat.le_refl _⟩, by repeat (first | exact Drawn0.refl _ | apply Drawn0.step)⟩
  case round =>
    clear H'; (try clear p2); obtain ⟨x5_1, rfl, HA, HK1, ⟨m1, rfl⟩⟩ := hrel
    cases gk with
    | zero => exact absurd HA.out (by simp [spec_l7Has.l0])
    | succ k1 =>
      have H := HA.out; clear HA
      simp only [spec_l7Has.l0] at H
      by_cases c3 : x5_1 < (l0.length : Int)
      · rw [if_pos c3] at H
        have c3b0 : decide (x5_1 < (l0.length : Int)) = true := decide_eq_true c3; clear c3
        by_cases c4 : 0 ≤ x5_1
        · rw [if_pos c4] at H
          have c4b0 : decide (0 ≤ x5_1) = true := decide_eq_true c4; clear c4
          by_cases c5 : (rd l0 x5_1) = a1
          · rw [if_pos c5] at H
            have c5b0 : ((rd l0 x5_1) == a1) = true := beq_iff_eq.mpr c5; have c5b1 : ((rd l0 x5_1) != a1) = false := bne_eq_false_iff_eq.mpr c5; clear c5; obtain rfl := Option.some.inj H; have p567 : 0 ≤ (x5_1 : Int) := of_decide_eq_true uz; have q567 : x5_1 < (l0.length : Int) := of_decide_eq_true uz; obtain ⟨ad567, e567, hx567_0⟩ := Kd.at_int HR0.out x5_1 p567 q567
            cases e567
            replace p567 := eq_true p567; replace q567 := eq_true q567; go_wp2; go_ret; exact ⟨by first | rfl | (simp; done) | (simp [*]; done), by repeat (first | exact Drawn0.refl _ | apply Drawn0.step)⟩
          · rw [if_neg c5] at H
            have c5b0 : ((rd l0 x5_1) == a1) = false := beq_eq_false_iff_ne.mpr c5; have c5b1 : ((rd l0 x5_1) != a1) = true := bne_iff_ne.mpr c5; have H' := Aside0.mk H; clear H; have p567 : 0 ≤ (x5_1 : Int) := of_decide_eq_true uz; have q567 : x5_1 < (l0.length : Int) := of_decide_eq_true uz; obtain ⟨ad567, e567, hx567_0⟩ := Kd.at_int HR0.out x5_1 p567 q567
            cases e567
            replace p567 := eq_true p567; replace q567 := eq_true q567; go_wp2; go_roundg k1
            case measure => have := HK1.out; omega
            case rel => exact ⟨(wrap64 (x5_1 + 1)), az, H', ⟨by have := HK1.out; omega⟩, by repeat (first | exact Drawn0.refl _ | apply Drawn0.step)⟩
        · rw [if_neg c4] at H
          exact absurd H (by simp)
      · rw [if_neg c3] at H
        have c3b0 : decide (x5_1 < (l0.length : Int)) = false := decide_eq_false c3; clear c3; obtain rfl := Option.some.inj H; go_wp2; go_ret; exact ⟨by first | rfl | (simp; done) | (simp [*]; done), by repeat (first | exact Drawn0.refl _ | apply Drawn0.step)⟩

attribute [local go_sem] max2_int min2_int max_two min_two max_three min_three max_four min_four 
set_option linter.unusedVariables false
set_option linter.unusedSimpArgs false

/-! ### spec_l1In: function 72 -/
def spec_l1In.f (a0 : Int) (a1 : Int) (a2 : Int) : Option (Bool) := if a0 ≥ a1 then (some (decide (a0 ≤ a2))) else (some false)
set_option maxHeartbeats 8000000 in
set_option maxRecDepth 100000 in
theorem spec_l1In.calls (a0 : Int) (a1 : Int) (a2 : Int) (r : Bool) (w : World) (h : spec_l1In.f a0 a1 a2 = some r) :
    Calls Try.prog 72 #[.int .i64 a0, .int .i64 a1, .int .i64 a2] w fun e w' => e = .returned (.bool r) ∧ Drawn0 w w' := by
  have H : (if a0 ≥ a1 then (some (decide (a0 ≤ a2))) else (some false)) = some r := h; clear h
  by_cases c4 : a0 ≥ a1
  · rw [if_pos c4] at H
    have c4b0 : decide (a1 ≤ a0) = true := decide_eq_true c4; clear c4; obtain rfl := Option.some.inj H
    go_enter Try.func72, Try.ntmps72
    go_wp2; go_ret; exact ⟨by first | rfl | (simp; done) | (simp [*]; done), by repeat (first | exact Drawn0.refl _ | apply Drawn0.step)⟩
  · rw [if_neg c4] at H
    have c4b0 : decide (a1 ≤ a0) = false := decide_eq_false c4; clear c4; obtain rfl := Option.some.inj H
    go_enter Try.func72, Try.ntmps72
    go_wp2; go_ret; exact ⟨by first | rfl | (simp; done) | (simp [*]; done), by repeat (first | exact Drawn0.refl _ | apply Drawn0.step)⟩

end Go.Proofs.Ytngjaajcdbodeaa.All

/- The pages that are reached from a page: the model of both walks over a book, and the reference's walk comes to it. No condition. -/
namespace Go.Proofs.Ytngjaajcdbodeaa.All
open Go.RowKit Go.Proofs.YtngjaajcdbodeaaW.PrintWords Go.Proofs.YtngjaajcdbodeaaW.PrintLast Go.Proofs.YtngjaajcdbodeaaW.PrintMore Go.Proofs.Ytngjaajcdbodeaa.Sq
set_option linter.unusedVariables false
set_option linter.unusedSimpArgs false

/-- Page i is there and used. -/
def pgOk (ps : List S90) (i : Int) : Prop := 0 ≤ i ∧ i < (ps.length : Int) ∧ (rd_T90 ps i).f0 = true
instance (ps : List S90) (i : Int) : Decidable (pgOk ps i) := inferInstanceAs (Decidable (_ ∧ _ ∧ _))
mutual
/-- What is reached from page i on, behind out; at most k steps deep. -/
def walkM : Nat → List S90 → Int → List Int → Option (List Int)
  | 0, _, _, _ => none
  | k + 1, ps, i, out => if pgOk ps i then (if out.length < 17592186044415 then (if i ∈ out then some out else walkL k ps (rd_T90 ps i).f1.f0 (rd_T90 ps i).f1.f1 (out ++ [i]) 0) else none) else some out
def walkL : Nat → List S90 → Bool → List S103 → List Int → Int → Option (List Int)
  | 0, _, _, _, _, _ => none
  | k + 1, ps, b, es, out, x => if x < (es.length : Int) then (if b = true then some out else if 0 ≤ x then (walkM k ps (rd_T103 es x).f0 out).bind fun o => walkL k ps b es o (wrap64 (x + 1)) else none) else some out
end
theorem walk_mono : ∀ k, (∀ ps i out, LeO (walkM k ps i out) (walkM (k + 1) ps i out)) ∧ (∀ ps b es out x, LeO (walkL k ps b es out x) (walkL (k + 1) ps b es out x))
  | 0 => ⟨fun _ _ _ r h => by simp [walkM] at h, fun _ _ _ _ _ r h => by simp [walkL] at h⟩
  | k + 1 => by
    obtain ⟨h1, h2⟩ := walk_mono k; refine ⟨fun ps i out => ?_, fun ps b es out x => ?_⟩
    · rw [walkM, walkM]
      exact LeO.ite (LeO.ite (LeO.ite (LeO.refl _) (h2 _ _ _ _ _)) (LeO.refl _)) (LeO.refl _)
    · rw [walkL, walkL]
      exact LeO.ite (LeO.ite (LeO.refl _) (LeO.ite (LeO.bind (h1 _ _ _) (fun _ => h2 _ _ _ _ _)) (LeO.refl _))) (LeO.refl _)

/-- The reference asks whether a number is among others. -/
theorem has_f (l : List Int) (n : Int) (hl : l.length ≤ 4611686018427387904) : ∃ k, spec_l7Has.f k l n = some (decide (n ∈ l)) := by
  have key : ∀ d i, i + d = l.length → (∀ j, j < i → l.getD j 0 ≠ n) → ∃ k, spec_l7Has.l0 k l n (i : Int) = some (decide (n ∈ l)) := by
    intro d
    induction d with
    | zero =>
      intro i hi hno
      refine ⟨1, ?_⟩; rw [spec_l7Has.l0, if_neg (by omega)]
      congr 1
      symm
      rw [decide_eq_false_iff_not]
      intro hm
      obtain ⟨j, hj, e⟩ := List.getElem_of_mem hm; refine hno j (by omega) ?_; rw [List.getD_eq_getElem?_getD, List.getElem?_eq_getElem hj]; exact e
    | succ d ih =>
      intro i hi hno
      have hil : i < l.length := by omega
      have hrd : rd l (i : Int) = l.getD i 0 := rfl
      by_cases he : l.getD i 0 = n
      · refine ⟨1, ?_⟩
        rw [spec_l7Has.l0, if_pos (by omega), if_pos (by omega), hrd, if_pos he]
        congr 1
        symm
        rw [decide_eq_true_iff]; rw [List.getD_eq_getElem?_getD, List.getElem?_eq_getElem hil] at he; rw [← he]; exact List.getElem_mem hil
      · obtain ⟨k, hk⟩ := ih (i + 1) (by omega) (fun j hj => by
          rcases Nat.lt_or_ge j i with h | h
          · exact hno j h
          · have : j = i := by omega
            subst this
            exact he)
        refine ⟨k + 1, ?_⟩
        have hw : wrap64 ((i : Int) + 1) = ((i + 1 : Nat) : Int) := by
          unfold wrap64
          omega
        rw [spec_l7Has.l0, if_pos (by omega), if_pos (by omega), hrd, if_neg he, hw]; exact hk
  exact key l.length 0 (by omega) (fun j hj => absurd hj (Nat.not_lt_zero _))
theorem in_range (n : Nat) (hn : n ≤ 9223372036854775807) (i : Int) : spec_l1In.f i 0 ((n : Int) - 1) = some (decide (0 ≤ i ∧ i < (n : Int))) := by
  unfold spec_l1In.f
  by_cases h : i ≥ 0
  · rw [if_pos h]
    congr 1
    rw [decide_eq_decide]
    omega
  · rw [if_neg h]
    congr 1
    symm
    rw [decide_eq_false_iff_not]
    omega

theorem hinfoInt : (Try.prog.info? 3).map (fun i => (i.zero, i.size, i.bytes)) = some (some (.int .i64 0), 1, 8) := by kernel_rfl

theorem ow_of {u v1 : Value} {lo mid : Nat} (hlo : lo ≤ mid) (h : v1.ownBlock = u.ownBlock ∨ ∃ b, v1.ownBlock = some b ∧ mid ≤ b) : ∀ k, some k = v1.ownBlock → some k = u.ownBlock ∨ lo ≤ k := by
  intro k hk
  rcases h with h | ⟨b, hb, hlt⟩
  · exact .inl (hk.trans h)
  · rw [hb] at hk
    injection hk with hk
    rw [hk]; exact .inr (Nat.le_trans hlo hlt)

/-- What the reference's walk leaves: the row, and all that stood is as it was but for the row that was handed over. -/
def WalkPost (w0 w : World) (v : Value) (r : List Int) (e : Ending) (w' : World) : Prop :=
  ∃ v', e = .returned v' ∧ Kd.R (Kd.int .i64) 3 w' w0.heap.size (fun _ => True) v' r ∧ Below w0.heap.size w0 w' ∧ Kept w w' (fun k => some k = v.ownBlock) ∧ (∀ k, some k = v'.ownBlock → some k = v.ownBlock ∨ w.heap.size ≤ k)
def WalkSaid (w0 : World) (A : Option Addr) (c : Nat) (ps : List S90) (k : Nat) : Prop :=
  ∀ (root i : Int) (v : Value) (xs r : List Int) (w : World), Below w0.heap.size w0 w → Kd.R (Kd.int .i64) 3 w w0.heap.size (fun _ => True) v xs → walkM k ps i xs = some r →
    Calls Try.prog 124 #[.agg #[.int .i64 root, .slice A ps.length c], .int .i64 i, v] w (WalkPost w0 w v r)

set_option maxHeartbeats 8000000 in
set_option maxRecDepth 100000 in
/-- Where page i is not there, or not used. -/
theorem walk_out (w0 : World) (A : Option Addr) (c : Nat) (ps : List S90) (hr0 : Kd.C k90 w0 A ps.length ps) (hc0 : ps.length ≤ c)
    (root i : Int) (v : Value) (xs : List Int) (w : World) (hb : Below w0.heap.size w0 w) (hv : Kd.R (Kd.int .i64) 3 w w0.heap.size (fun _ => True) v xs) (hno : ¬ pgOk ps i) :
    Calls Try.prog 124 #[.agg #[.int .i64 root, .slice A ps.length c], .int .i64 i, v] w (WalkPost w0 w v xs) := by
  have HR := Aside0.mk hr0; have HB := Aside0.mk hb; have HO := Aside0.mk hv; have hmax : ps.length ≤ 9223372036854775807 := hr0.2.1; have HIN := Aside0.mk (in_range ps.length hmax i); have HNO := Aside0.mk hno; clear hr0 hc0 hb hv hno; obtain ⟨Av, cv, ev⟩ := Kd.R_slice HO.out; subst ev; have hu1 := Try.underlying90; have hu2 := Try.underlying49
  by_cases hin : 0 ≤ i ∧ i < (ps.length : Int)
  · obtain ⟨h0, h1⟩ := hin
    have hus : (rd_T90 ps i).f0 = false := by
      cases hu : (rd_T90 ps i).f0 with
      | false => rfl
      | true => exact absurd ⟨h0, h1, hu⟩ HNO.out
    rw [decide_eq_true (show 0 ≤ i ∧ i < (ps.length : Int) from ⟨h0, h1⟩)] at HIN; obtain ⟨ad, A2, c2, e2, hx0, hx1, hx2, _, _⟩ := at_T90 (Kd.C_below HR.out HB.out) i h0 h1; subst e2; rw [hus] at hx0; clear hus hx1 hx2
    go_enter Try.func124, Try.ntmps124
    go_wp2_with (first
      | ((with_reducible refine gate_dst (N := 3) rfl ?_); refine box_event ?hg (N := 3) ?hd (cs := #[.int .i64 root, .slice (some ad) ps.length c]) (t := 49) ?hr ?_; (case hd => rfl); (case hg => rfl); (case hr => first | (go_simp; done) | (go_simp; rfl)); intro g3 hg w3 hbox hb3; replace hx0 := (hb3.cell (World.block_lt_of_cell? w _ hx0)).trans hx0; have hk1 : w3.cell? ⟨g3, 1, none⟩ = some (.slice (some ad) ps.length c) := (blk_cell hbox 1).trans rfl; have HW3 := Aside0.mk hb3; clear hb3 hg hbox)
      | (go_at_call 72; refine (spec_l1In.calls _ _ _ _ _ HIN.out).mono ?_; rintro e w' ⟨rfl, ⟨⟨n, rfl⟩⟩⟩))
    go_ret; exact ⟨_, rfl, Kd.R_below HO.out (pw_below_drewN HW3.out _), pw_below_drewN (below_step HB.out HW3.out) _, (Kept.of_below (pw_below_drewN HW3.out _) _), fun k hk => .inl hk⟩
  · rw [decide_eq_false hin] at HIN
    go_enter Try.func124, Try.ntmps124
    go_wp2_with (first
      | ((with_reducible refine gate_dst (N := 3) rfl ?_); refine box_event ?hg (N := 3) ?hd (cs := #[.int .i64 root, .slice A ps.length c]) (t := 49) ?hr ?_; (case hd => rfl); (case hg => rfl); (case hr => first | (go_simp; done) | (go_simp; rfl)); intro g3 hg w3 hbox hb3; have hk1 : w3.cell? ⟨g3, 1, none⟩ = some (.slice A ps.length c) := (blk_cell hbox 1).trans rfl; have HW3 := Aside0.mk hb3; clear hb3 hg hbox)
      | (go_at_call 72; refine (spec_l1In.calls _ _ _ _ _ HIN.out).mono ?_; rintro e w' ⟨rfl, ⟨⟨n, rfl⟩⟩⟩))
    go_ret; exact ⟨_, rfl, Kd.R_below HO.out (pw_below_drewN HW3.out _), pw_below_drewN (below_step HB.out HW3.out) _, (Kept.of_below (pw_below_drewN HW3.out _) _), fun k hk => .inl hk⟩

set_option maxHeartbeats 8000000 in
set_option maxRecDepth 100000 in
/-- Where page i is among those that were reached. -/
theorem walk_met (w0 : World) (A : Option Addr) (c : Nat) (ps : List S90) (hr0 : Kd.C k90 w0 A ps.length ps) (hc0 : ps.length ≤ c)
    (root i : Int) (v : Value) (xs : List Int) (w : World) (hb : Below w0.heap.size w0 w) (hv : Kd.R (Kd.int .i64) 3 w w0.heap.size (fun _ => True) v xs) (hyes : pgOk ps i) (q : Nat) (hin : spec_l7Has.f q xs i = some true) :
    Calls Try.prog 124 #[.agg #[.int .i64 root, .slice A ps.length c], .int .i64 i, v] w (WalkPost w0 w v xs) := by
  have HR := Aside0.mk hr0; have HB := Aside0.mk hb; have HO := Aside0.mk hv; have hmax : ps.length ≤ 9223372036854775807 := hr0.2.1; have HIN := Aside0.mk (in_range ps.length hmax i); have HH := Aside0.mk hin; clear hr0 hc0 hb hv hin; obtain ⟨Av, cv, ev⟩ := Kd.R_slice HO.out; subst ev; obtain ⟨_, hvc, hvC⟩ := Kd.R_reads' HO.out; have HVC := Aside0.mk hvC; have HVL := Aside0.mk hvc; clear hvC hvc; have hu1 := Try.underlying90; have hu2 := Try.underlying49; obtain ⟨h0, h1, hus⟩ := hyes; rw [decide_eq_true (show 0 ≤ i ∧ i < (ps.length : Int) from ⟨h0, h1⟩)] at HIN; obtain ⟨ad, A2, c2, e2, hx0, hx1, hx2, _, _⟩ := at_T90 (Kd.C_below HR.out HB.out) i h0 h1; subst e2; rw [hus] at hx0; clear hus hx1 hx2
  go_enter Try.func124, Try.ntmps124
  go_wp2_with (first
    | ((with_reducible refine gate_dst (N := 3) rfl ?_); refine box_event ?hg (N := 3) ?hd (cs := #[.int .i64 root, .slice (some ad) ps.length c]) (t := 49) ?hr ?_; (case hd => rfl); (case hg => rfl); (case hr => first | (go_simp; done) | (go_simp; rfl)); intro g3 hg w3 hbox hb3; replace hx0 := (hb3.cell (World.block_lt_of_cell? w _ hx0)).trans hx0; have hk1 : w3.cell? ⟨g3, 1, none⟩ = some (.slice (some ad) ps.length c) := (blk_cell hbox 1).trans rfl; have HW3 := Aside0.mk hb3; clear hb3 hg hbox)
    | (go_at_call 72; refine (spec_l1In.calls _ _ _ _ _ HIN.out).mono ?_; rintro e w' ⟨rfl, ⟨⟨n, rfl⟩⟩⟩)
    | (go_at_call 87; refine (spec_l7Has.calls q _ _ xs i true _ (Kd.C_drewN (Kd.C_below HVC.out HW3.out) _) HVL.out HH.out).mono ?_; rintro e w' ⟨rfl, ⟨⟨n2, rfl⟩⟩⟩))
  go_ret; exact ⟨_, rfl, Kd.R_below HO.out (pw_below_drewN HW3.out _), pw_below_drewN (below_step HB.out HW3.out) _, (Kept.of_below (pw_below_drewN HW3.out _) _), fun k hk => .inl hk⟩

set_option maxHeartbeats 16000000 in
set_option maxRecDepth 100000 in
/-- Where page i is new. -/
theorem walk_new (w0 : World) (A : Option Addr) (c : Nat) (ps : List S90) (hr0 : Kd.C k90 w0 A ps.length ps) (hc0 : ps.length ≤ c) (k : Nat) (ih : ∀ k', k' ≤ k → WalkSaid w0 A c ps k')
    (root i : Int) (v : Value) (xs r : List Int) (w : World) (hb : Below w0.heap.size w0 w) (hv : Kd.R (Kd.int .i64) 3 w w0.heap.size (fun _ => True) v xs) (hyes : pgOk ps i) (q : Nat) (hin : spec_l7Has.f q xs i = some false)
    (hlen : xs.length < 17592186044415) (h : walkL k ps (rd_T90 ps i).f1.f0 (rd_T90 ps i).f1.f1 (xs ++ [i]) 0 = some r) :
    Calls Try.prog 124 #[.agg #[.int .i64 root, .slice A ps.length c], .int .i64 i, v] w (WalkPost w0 w v r) := by
  have HR := Aside0.mk hr0; have HCC := Aside0.mk hc0; have HB := Aside0.mk hb; have HO := Aside0.mk hv; have IH := Aside0.mk ih; have HLEN := Aside0.mk hlen; have hmax : ps.length ≤ 9223372036854775807 := hr0.2.1; have HIN := Aside0.mk (in_range ps.length hmax i); have HH := Aside0.mk hin; have H' := Aside0.mk h; clear hr0 hc0 hb hv hin ih hlen h; obtain ⟨Av, cv, ev⟩ := Kd.R_slice HO.out; subst ev; obtain ⟨_, hvc, hvC⟩ := Kd.R_reads' HO.out; have HVC := Aside0.mk hvC; have HVL := Aside0.mk hvc; clear hvC hvc; have hu1 := Try.underlying90; have hu2 := Try.underlying49; have hu3 := Try.underlying54; obtain ⟨h0, h1, hus⟩ := hyes; rw [decide_eq_true (show 0 ≤ i ∧ i < (ps.length : Int) from ⟨h0, h1⟩)] at HIN; obtain ⟨ad, A2, c2, e2, hz0, hz1, hz2, hl2, hC2⟩ := at_T90 HR.out i h0 h1; subst e2; rw [hus] at hz0; clear hus; have HC2 := Aside0.mk hC2; have HL2 := Aside0.mk hl2; have HZ0 := Aside0.mk hz0; have HZ1 := Aside0.mk hz1; have HZ2 := Aside0.mk hz2; have hx0 := (HB.out.cell (World.block_lt_of_cell? w0 _ hz0)).trans hz0; clear hC2 hl2 hz0 hz1 hz2; obtain ⟨bl, hbl⟩ : ∃ b : Bool, b = (rd_T90 ps i).f1.f0 := ⟨_, rfl⟩; obtain ⟨es, hes⟩ : ∃ l : List S103, l = (rd_T90 ps i).f1.f1 := ⟨_, rfl⟩; rw [← hbl] at HZ1 H'; rw [← hes] at HZ2 H' HC2 HL2; clear hbl hes
  go_enter Try.func124, Try.ntmps124
  go_wp2_with (first
    | ((with_reducible refine gate_dst (N := 3) rfl ?_); refine box_event ?hg (N := 3) ?hd (cs := #[.int .i64 root, .slice (some ad) ps.length c]) (t := 49) ?hr ?_; (case hd => rfl); (case hg => rfl); (case hr => first | (go_simp; done) | (go_simp; rfl)); intro g3 hg w3 hbox hb3; replace hx0 := (hb3.cell (World.block_lt_of_cell? w _ hx0)).trans hx0; have hk1 : w3.cell? ⟨g3, 1, none⟩ = some (.slice (some ad) ps.length c) := (blk_cell hbox 1).trans rfl; have HW3 := Aside0.mk hb3; have BK3 := Aside0.mk hbox; have GW3 := Aside0.mk (by rw [hg]; exact Nat.le_refl _ : w.heap.size ≤ g3); clear hb3 hg hbox)
    | (go_at_call 72; refine (spec_l1In.calls _ _ _ _ _ HIN.out).mono ?_; rintro e w' ⟨rfl, ⟨⟨n, rfl⟩⟩⟩)
    | (go_at_call 87; refine (spec_l7Has.calls q _ _ xs i false _ (Kd.C_drewN (Kd.C_below HVC.out HW3.out) _) HVL.out HH.out).mono ?_; rintro e w' ⟨rfl, ⟨⟨n2, rfl⟩⟩⟩)
    | ((with_reducible refine gate_builtin (b := .append) (xs := #[.tmp 31, .tmp 33]) rfl ?_); at_builtin; refine Kd.R_append (Kd.int .i64) (w0 := w0) w0.heap.size rfl (.tmp 31) (.tmp 33) 64 3 (.int .i64 0) 8 rfl Try.underlying64 hinfoInt rfl (by decide) (by omega) (.slice Av xs.length cv) xs i [.int .i64 i] (fun _ => True) (fun _ => False) rfl rfl rfl (fun _ hk => hk.elim) (fun _ _ => trivial) (Kd.R_below HO.out (pw_below_drewN HW3.out _)) (pw_below_drewN (below_step HB.out HW3.out) _) (Nat.le_trans HB.out.size HW3.out.size) (by have := HLEN.out; omega) ?_; intro v5 w5 ho5 hb5 hg5 hat5; have HO5 := Aside0.mk ho5; have HB5 := Aside0.mk hb5; have BK5 := Aside0.mk (blk_grown (blk_drewN BK3.out _) hg5 (fun e => by have := Kd.R_lt HO.out g3 e.symm; have := GW3.out; omega)); have KP5 := Aside0.mk (Kept.of_grown hg5 (Kept.of_below (pw_below_drewN HW3.out _) (fun k => some k = (Value.slice Av xs.length cv).ownBlock)) (fun _ hk => .inl hk.symm)); have OW5 := Aside0.mk (ow_of (Nat.le_trans HW3.out.size (Nat.le_refl _)) hat5); replace hx0 := (hb5.cell (World.block_lt_of_cell? w0 _ HZ0.out)).trans HZ0.out; have hx1 := (hb5.cell (World.block_lt_of_cell? w0 _ HZ1.out)).trans HZ1.out; have hx2 := (hb5.cell (World.block_lt_of_cell? w0 _ HZ2.out)).trans HZ2.out; replace hk1 : w5.cell? ⟨g3, 1, none⟩ = some (.slice (some ad) ps.length c) := (blk_cell BK5.out 1).trans rfl; clear ho5 hb5 hg5 hat5 BK3)
    | ((with_reducible refine gate_dst (N := 7) rfl ?_); refine box_event ?hg (N := 7) ?hd (cs := #[.bool false, .slice none 0 0]) (t := 54) ?hr ?_; (case hd => rfl); (case hg => rfl); (case hr => first | (go_simp; done) | (go_simp; rfl)); intro g7 hg w7 hbox hb7; replace hx0 := (hb7.cell (World.block_lt_of_cell? _ _ hx0)).trans hx0; replace hx1 := (hb7.cell (World.block_lt_of_cell? _ _ hx1)).trans hx1; replace hx2 := (hb7.cell (World.block_lt_of_cell? _ _ hx2)).trans hx2; have hs0 : w7.cell? ⟨g7, 0, none⟩ = some (.bool false) := (blk_cell hbox 0).trans rfl; have hs1 : w7.cell? ⟨g7, 1, none⟩ = some (.slice none 0 0) := (blk_cell hbox 1).trans rfl; have hf0 := blk_frozen hbox 0; have hf1 := blk_frozen hbox 1; have HW7 := Aside0.mk hb7; have BK7 := Aside0.mk hbox; have GW7 := Aside0.mk hg; clear hb7 hg hbox)
    | ((with_reducible refine gate_store (t := 54) (p := 7) rfl ?_); refine store_event (t := 54) (p := 7) (v := ?vo8) (w1 := ((w7.setCell ⟨g7, 0, none⟩ (.bool bl)).setCell ⟨g7, 1, none⟩ (.slice A2 es.length c2))) ?hg ?ho ?hn ?hr ?_; (case ho => rfl); (case hg => rfl); (case hn => rfl); (case hr => first | (go_simp; done) | (go_simp; rfl)); intro w8 hw; have hb8 : Below w5.heap.size w5 w8 := by rw [hw]; exact below_set (below_set HW7.out (Nat.le_of_eq GW7.out.symm)) (Nat.le_of_eq GW7.out.symm)
       have n0_ := Aside0.mk (Kd.R_below HO5.out hb8); have n1_ := Aside0.mk (blk_below BK5.out hb8); have n2_ := Aside0.mk (show w8.heap[g7]? = some (.cells #[.bool bl, .slice A2 es.length c2] 54 (0, 0)) from by rw [hw]; exact blk_put (blk_put BK7.out 0 _ rfl) 1 _ rfl); have n3_ := Aside0.mk (below_step HB5.out hb8); have n4_ := Aside0.mk (Kept.below KP5.out hb8); clear HO5 BK5 BK7 HB5 KP5 hw hb8 HW7 GW7 hx0 hx1 hx2 hs0 hs1 hf0 hf1 hk1; have HO := n0_; have BK3 := n1_; have BK7 := n2_; have HBW := n3_; have KP := n4_
       clear n0_ n1_ n2_ n3_ n4_))
  go_loopg [2, 8] k (fun kq v2 v8 w' => ∃ (o : List Int) (x : Int), v8 = .int .i64 x ∧ Aside0 (walkL kq ps bl es o x = some r) ∧ Aside0 (kq ≤ k) ∧ Aside0 (Kd.R (Kd.int .i64) 3 w' w0.heap.size (fun _ => True) v2 o) ∧ Aside0 (w'.heap[g3]? = some (.cells #[.int .i64 root, .slice (some ad) ps.length c] 49 (0, 0))) ∧ Aside0 (w'.heap[g7]? = some (.cells #[.bool bl, .slice A2 es.length c2] 54 (0, 0))) ∧ Aside0 (Below w0.heap.size w0 w') ∧ Aside0 (Kept w w' (fun k => some k = (Value.slice Av xs.length cv).ownBlock)) ∧ Aside0 (∀ k, some k = v2.ownBlock → some k = (Value.slice Av xs.length cv).ownBlock ∨ w.heap.size ≤ k))
  case atStart => exact ⟨xs ++ [i], 0, rfl, H', ⟨Nat.le_refl _⟩, HO, BK3, BK7, HBW, KP, OW5⟩
  case round =>
    clear H' HO BK3 BK7 HBW KP OW5; obtain ⟨o, x, rfl, HA, HK1, HO, BK3, BK7, HBW, KP, OW⟩ := hrel
    cases gk with
    | zero => exact absurd HA.out (by simp [walkL])
    | succ k1 =>
      have H := HA.out; clear HA; rw [walkL] at H; have hk0 : wr.cell? ⟨g7, 0, none⟩ = some (.bool bl) := (blk_cell BK7.out 0).trans rfl; have hk1 : wr.cell? ⟨g7, 1, none⟩ = some (.slice A2 es.length c2) := (blk_cell BK7.out 1).trans rfl; obtain ⟨Ao, co, eo⟩ := Kd.R_slice HO.out; subst eo
      by_cases c1 : x < (es.length : Int)
      · rw [if_pos c1] at H
        have c1b : decide (x < (es.length : Int)) = true := decide_eq_true c1
        cases bl with
        | true =>
          rw [if_pos rfl] at H; obtain rfl := Option.some.inj H; go_wp2; go_ret; exact ⟨_, rfl, HO.out, HBW.out, KP.out, OW.out⟩
        | false =>
          rw [if_neg (by decide)] at H
          by_cases c2b : 0 ≤ x
          · rw [if_pos c2b] at H
            obtain ⟨o2, h2, H⟩ := Option.bind_eq_some_iff.mp H; have H2 := Aside0.mk h2; have H' := Aside0.mk H; clear H h2
            try go_wp2
            obtain ⟨ad2, e2, hy0, -, -, -, -⟩ := at_T103 HC2.out x c2b c1; subst e2; have HY0 := Aside0.mk hy0; replace hy0 := (HBW.out.cell (World.block_lt_of_cell? w0 _ hy0)).trans hy0; have p290 := eq_true c1; have q290 := eq_true c2b; refine start_ (n := 10) (S := fun w' => w'.cell? ⟨g3, 0, none⟩ = some (.int .i64 root) ∧ w'.cell? ⟨g3, 1, none⟩ = some (.slice (some ad) ps.length c) ∧ w'.cell? ⟨g7, 1, none⟩ = some (.slice (some ad2) es.length c2) ∧ w'.cell? (ad2.add (x.toNat * 5)) = some (.int .i64 (rd_T103 es x).f0)) (ds := []) #[false, false, false, false, false, false, false, false, false, false] (by kernel_rfl) rfl rfl ⟨(blk_cell BK3.out 0).trans rfl, (blk_cell BK3.out 1).trans rfl, (blk_cell BK7.out 1).trans rfl, hy0⟩ (fun hHeld => ?_); have n0_ := Aside0.mk (Kd.R_drew HO.out); have n1_ := Aside0.mk (blk_drew BK3.out); have n2_ := Aside0.mk (blk_drew BK7.out); have n3_ := Aside0.mk (below_drew1 HBW.out); have n4_ := Aside0.mk (KP.out.drew); clear HO BK3 BK7 HBW KP hk0 hk1 hy0
            generalize wr.drew = w15 at n0_ n1_ n2_ n3_ n4_ hHeld ⊢
            refine pure_ (i := 1) (N := some 54) (v := ?_) (a' := ?_) #[false, true, false, false, false, false, false, false, false, false] rfl rfl (by kernel_rfl) (fun _ _ _ h => h) (Or.inl ⟨by rfl, ?_⟩) ?_ ?_; rotate_left
            · intro w'
              go_simp
              with_reducible rfl
            rotate_left
            · exact pz
            refine pure_ (i := 3) (N := some 56) (v := ?_) (a' := ?_) #[false, true, false, true, false, false, false, false, false, false] rfl rfl (by kernel_rfl) (fun _ _ _ h => h) (Or.inl ⟨by rfl, ?_⟩) ?_ ?_; rotate_left
            · intro w'
              go_simp
              with_reducible rfl
            rotate_left
            · exact pz
            refine pure_ (i := 7) (N := some 60) (v := ?_) (a' := ?_) #[false, true, false, true, false, false, false, true, false, false] rfl rfl (by kernel_rfl) (fun _ _ _ h => h) (Or.inl ⟨by rfl, ?_⟩) ?_ ?_; rotate_left
            · intro w'
              go_simp
              with_reducible rfl
            rotate_left
            · exact pz
            refine take_ (i := 0) (N := some 53) (v := ?_) (a' := ?_) #[true, true, false, true, false, false, false, true, false, false] rfl rfl (by kernel_rfl) (fun _ _ _ h => h) (Or.inl ⟨by rfl, ?_⟩) hHeld ?_ ?_; rotate_left
            · rintro w' ⟨s0, s1, s2, s3⟩
              go_simp
              with_reducible rfl
            rotate_left
            · exact pz
            refine take_ (i := 2) (N := some 55) (v := ?_) (a' := ?_) #[true, true, true, true, false, false, false, true, false, false] rfl rfl (by kernel_rfl) (fun _ _ _ h => h) (Or.inl ⟨by rfl, ?_⟩) hHeld ?_ ?_; rotate_left
            · rintro w' ⟨s0, s1, s2, s3⟩
              go_simp
              with_reducible rfl
            rotate_left
            · exact pz
            refine pure_ (i := 4) (N := some 57) (v := ?_) (a' := ?_) #[true, true, true, true, true, false, false, true, false, false] rfl rfl (by kernel_rfl) (fun _ _ _ h => h) (Or.inl ⟨by rfl, ?_⟩) ?_ ?_; rotate_left
            · intro w'
              go_simp
              with_reducible rfl
            rotate_left
            · exact pz
            refine pure_ (i := 5) (N := some 58) (v := ?_) (a' := ?_) #[true, true, true, true, true, true, false, true, false, false] rfl rfl (by kernel_rfl) (fun _ _ _ h => h) (Or.inl ⟨by rfl, ?_⟩) ?_ ?_; rotate_left
            · intro w'
              go_simp
              with_reducible rfl
            rotate_left
            · exact pz
            refine take_ (i := 6) (N := some 59) (v := ?_) (a' := ?_) #[true, true, true, true, true, true, true, true, false, false] rfl rfl (by kernel_rfl) (fun _ _ _ h => h) (Or.inl ⟨by rfl, ?_⟩) hHeld ?_ ?_; rotate_left
            · rintro w' ⟨s0, s1, s2, s3⟩
              go_simp
              with_reducible rfl
            rotate_left
            · exact pz
            refine one_ (i := 8) (N := some 61) #[true, true, true, true, true, true, true, true, true, false] rfl rfl (by kernel_rfl) (by decide) (fun K hK => ?_); refine call_ 124 #[.agg #[.int .i64 root, .slice (some ad) ps.length c], .int .i64 (rd_T103 es x).f0, .slice Ao o.length co] (by rfl) rfl (by first | (go_simp; done) | (go_simp; rfl)) ?_; refine (IH.out k1 (by have := HK1.out; omega) root _ _ o o2 _ n3_.out n0_.out H2.out).mono ?_
            rintro e w16 ⟨v16, rfl, ho, hb, hk, hw⟩
            refine ⟨v16, rfl, ?_⟩; have BK3 := Aside0.mk ((hk.2 _ (blk_lt n1_.out) (fun e => Kd.R_ne n0_.out n1_.out (by decide) e)).trans n1_.out); have BK7 := Aside0.mk ((hk.2 _ (blk_lt n2_.out) (fun e => Kd.R_ne n0_.out n2_.out (by decide) e)).trans n2_.out); have KP := Aside0.mk (Kept.then_ n4_.out hk (fun k e => OW.out k e)); have OW2 := Aside0.mk (show ∀ k, some k = v16.ownBlock → some k = (Value.slice Av xs.length cv).ownBlock ∨ w.heap.size ≤ k from fun k e => (hw k e).elim (fun h => OW.out k h) (fun h => .inr (Nat.le_trans n4_.out.1 h))); have HO := Aside0.mk ho; have HBW := Aside0.mk hb; have hy0 := hHeld.2.2.2; clear n0_ n1_ n2_ n3_ n4_ ho hb hk hw OW; refine hK.out _ _ ⟨(blk_cell BK3.out 0).trans rfl, (blk_cell BK3.out 1).trans rfl, (blk_cell BK7.out 1).trans rfl, (HBW.out.cell (World.block_lt_of_cell? w0 _ HY0.out)).trans HY0.out⟩ (fun hHeld => ?_); refine norm_ (a' := ?_) ?_ ?_; rotate_left
            · exact pz
            refine pure_ (i := 9) (N := some 2) (v := ?_) (a' := ?_) #[true, true, true, true, true, true, true, true, true, true] rfl rfl (by kernel_rfl) (fun _ _ _ h => h) (Or.inl ⟨by rfl, ?_⟩) ?_ ?_; rotate_left
            · intro w'
              go_simp
              with_reducible rfl
            rotate_left
            · exact pz
            refine done_ (by kernel_rfl) ?_; go_wp2; go_roundg k1
            case measure => have := HK1.out; omega
            case rel => exact ⟨o2, wrap64 (x + 1), rfl, H', ⟨by have := HK1.out; omega⟩, HO, BK3, BK7, HBW, KP, OW2⟩
          · rw [if_neg c2b] at H
            exact absurd H (by simp)
      · rw [if_neg c1] at H
        have c1b : decide (x < (es.length : Int)) = false := decide_eq_false c1; obtain rfl := Option.some.inj H; go_wp2; go_ret; exact ⟨_, rfl, HO.out, HBW.out, KP.out, OW.out⟩

theorem spec_walk (w0 : World) (A : Option Addr) (c : Nat) (ps : List S90) (hr0 : Kd.C k90 w0 A ps.length ps) (hc0 : ps.length ≤ c) : ∀ k k', k' ≤ k → WalkSaid w0 A c ps k'
  | 0, k', hk => by
    obtain rfl : k' = 0 := by omega
    intro root i v xs r w _ _ h
    simp [walkM] at h
  | k + 1, k', hk => by
    rcases Nat.lt_or_ge k' (k + 1) with hlt | hge
    · exact spec_walk w0 A c ps hr0 hc0 k k' (by omega)
    obtain rfl : k' = k + 1 := by omega
    intro root i v xs r w hb hv h
    rw [walkM] at h
    by_cases h1 : pgOk ps i
    · rw [if_pos h1] at h
      by_cases h3 : xs.length < 17592186044415
      · rw [if_pos h3] at h
        obtain ⟨q, hq⟩ := has_f xs i (by omega)
        by_cases h2 : i ∈ xs
        · rw [if_pos h2] at h
          obtain rfl := Option.some.inj h; rw [decide_eq_true h2] at hq; exact walk_met w0 A c ps hr0 hc0 root i v xs w hb hv h1 q hq
        · rw [if_neg h2] at h
          rw [decide_eq_false h2] at hq; exact walk_new w0 A c ps hr0 hc0 k (fun k' hk' => spec_walk w0 A c ps hr0 hc0 k k' hk') root i v xs r w hb hv h1 q hq h3 h
      · rw [if_neg h3] at h
        exact absurd h (by simp)
    · rw [if_neg h1] at h
      obtain rfl := Option.some.inj h; exact walk_out w0 A c ps hr0 hc0 root i v xs w hb hv h1

/-- The reference's Reach. -/
def spec_Reach.f (k : Nat) (a0_0 : Int) (l0_1 : List S90) : Option (List Int) := walkM k l0_1 a0_0 []
theorem spec_Reach.mono : ∀ a0 a1 k, LeO (spec_Reach.f k a0 a1) (spec_Reach.f (k + 1) a0 a1) := fun a0 a1 k => (walk_mono k).1 _ _ _
set_option maxHeartbeats 8000000 in
set_option maxRecDepth 100000 in
theorem spec_Reach.calls (k : Nat) (a0_0 : Int) (A0_1 : Option Addr) (c0_1 : Nat) (l0_1 : List (S90)) (r : List Int) (w : World) (hr0_1 : Kd.C k90 w A0_1 l0_1.length l0_1) (hc0_1 : l0_1.length ≤ c0_1) (h : spec_Reach.f k a0_0 l0_1 = some r) :
    Calls Try.prog 85 #[.agg #[.int .i64 a0_0, .slice A0_1 l0_1.length c0_1]] w fun e w' => ∃ v0_ : Value, e = .returned (v0_) ∧ Kd.R (Kd.int .i64) 3 w' w.heap.size (fun _ => True) v0_ r ∧ Below w.heap.size w w' := by
  have HS := Aside0.mk (spec_walk w A0_1 c0_1 l0_1 hr0_1 hc0_1 k k (Nat.le_refl _)); have H' := Aside0.mk h; clear hr0_1 hc0_1 h; have hu2 := Try.underlying49
  go_enter Try.func85, Try.ntmps85
  go_wp2_with (first
    | ((with_reducible refine gate_dst (N := 1) rfl ?_); refine box_event ?hg (N := 1) ?hd (cs := #[.int .i64 a0_0, .slice A0_1 l0_1.length c0_1]) (t := 49) ?hr ?_; (case hd => rfl); (case hg => rfl); (case hr => first | (go_simp; done) | (go_simp; rfl)); intro g1 hg w1 hbox hb1; have hk0 : w1.cell? ⟨g1, 0, none⟩ = some (.int .i64 a0_0) := (blk_cell hbox 0).trans rfl; have hk1 : w1.cell? ⟨g1, 1, none⟩ = some (.slice A0_1 l0_1.length c0_1) := (blk_cell hbox 1).trans rfl; have HW1 := Aside0.mk hb1; clear hb1 hg hbox)
    | ((with_reducible refine gate_dst (N := 6) rfl ?_); refine Kd.R_lit (Kd.int .i64) _ 3 ?hg (N := 6) ?hd (xs := ([] : List Int)) (inner := []) (ok := fun _ => True) (okp := fun _ => True) ?hr ?hp (fun _ hk => hk) trivial (Below.refl _ _) (Nat.le_refl _) (by simp) ?_; (case hd => rfl); (case hg => rfl); (case hr => first | (go_simp; done) | (go_simp; rfl)); (case hp => exact (Reps.none _ _)); intro v6 w6 ho6 hb6 hg6 hn6; have HO6 := Aside0.mk ho6; have HB6 := Aside0.mk hb6; clear ho6 hb6 hg6 hn6)
    | (go_at_call 124; refine (HS.out a0_0 a0_0 _ [] r _ (below_step HW1.out HB6.out) (Kd.R_lower HO6.out HW1.out.size) H'.out).mono ?_; rintro e w7 ⟨v7, rfl, ho, hb, -, -⟩))
  go_ret; exact ⟨_, rfl, ho, hb⟩

end Go.Proofs.Ytngjaajcdbodeaa.All

namespace Go.Proofs.Ytngjaajcdbodeaa.All
open Go.RowKit Go.Proofs.YtngjaajcdbodeaaW.PrintWords Go.Proofs.YtngjaajcdbodeaaW.PrintLast Go.Proofs.YtngjaajcdbodeaaW.PrintMore Go.Proofs.Ytngjaajcdbodeaa.Sq
attribute [local go_sem] max2_int min2_int max_two min_two max_three min_three max_four min_four 
set_option linter.unusedVariables false
set_option linter.unusedSimpArgs false

/-! ### spec_BoxOk: function 111 -/
def spec_BoxOk.f (a0_0 : Int) (a0_1 : Int) (a0_2 : Int) (a0_3 : Int) : Option (Bool) := (spec_l1In.f a0_0 0 255).bind fun t102 => (if t102 = true then ((spec_l1In.f a0_1 0 255).bind fun t103 => (if t103 = true then ((spec_l1In.f a0_2 a0_0 255).bind fun t104 => (if t104 = true then ((spec_l1In.f a0_3 a0_1 255).bind fun t105 => (some t105)) else (some false))) else (some false))) else (some false))
set_option maxHeartbeats 8000000 in
set_option maxRecDepth 100000 in
theorem spec_BoxOk.calls (a0_0 : Int) (a0_1 : Int) (a0_2 : Int) (a0_3 : Int) (r : Bool) (w : World) (h : spec_BoxOk.f a0_0 a0_1 a0_2 a0_3 = some r) :
    Calls Try.prog 111 #[.agg #[.int .i64 a0_0, .int .i64 a0_1, .int .i64 a0_2, .int .i64 a0_3]] w fun e w' => e = .returned (.bool r) ∧ Below w.heap.size w w' := by
  have hu32 := Try.underlying32; have HB := Aside0.mk (Below.refl w.heap.size w); have H : ((spec_l1In.f a0_0 0 255).bind fun t102 => (if t102 = true then ((spec_l1In.f a0_1 0 255).bind fun t103 => (if t103 = true then ((spec_l1In.f a0_2 a0_0 255).bind fun t104 => (if t104 = true then ((spec_l1In.f a0_3 a0_1 255).bind fun t105 => (some t105)) else (some false))) else (some false))) else (some false))) = some r := h; clear h; replace H := Option.bind_eq_some_iff.mp H; obtain ⟨t102, A20, H⟩ := H; replace H : (if t102 = true then ((spec_l1In.f a0_1 0 255).bind fun t103 => (if t103 = true then ((spec_l1In.f a0_2 a0_0 255).bind fun t104 => (if t104 = true then ((spec_l1In.f a0_3 a0_1 255).bind fun t105 => (some t105)) else (some false))) else (some false))) else (some false)) = some r := H; have A2 := Aside0.mk A20; clear A20
  by_cases c3 : t102 = true
  · subst c3
    replace H : ((spec_l1In.f a0_1 0 255).bind fun t103 => (if t103 = true then ((spec_l1In.f a0_2 a0_0 255).bind fun t104 => (if t104 = true then ((spec_l1In.f a0_3 a0_1 255).bind fun t105 => (some t105)) else (some false))) else (some false))) = some r := (by rw [if_pos rfl] at H; exact H); replace H := Option.bind_eq_some_iff.mp H; obtain ⟨t103, A40, H⟩ := H; replace H : (if t103 = true then ((spec_l1In.f a0_2 a0_0 255).bind fun t104 => (if t104 = true then ((spec_l1In.f a0_3 a0_1 255).bind fun t105 => (some t105)) else (some false))) else (some false)) = some r := H; have A4 := Aside0.mk A40; clear A40
    by_cases c5 : t103 = true
    · subst c5
      replace H : ((spec_l1In.f a0_2 a0_0 255).bind fun t104 => (if t104 = true then ((spec_l1In.f a0_3 a0_1 255).bind fun t105 => (some t105)) else (some false))) = some r := (by rw [if_pos rfl] at H; exact H); replace H := Option.bind_eq_some_iff.mp H; obtain ⟨t104, A60, H⟩ := H; replace H : (if t104 = true then ((spec_l1In.f a0_3 a0_1 255).bind fun t105 => (some t105)) else (some false)) = some r := H; have A6 := Aside0.mk A60; clear A60
      by_cases c7 : t104 = true
      · subst c7
        replace H : ((spec_l1In.f a0_3 a0_1 255).bind fun t105 => (some t105)) = some r := (by rw [if_pos rfl] at H; exact H); replace H := Option.bind_eq_some_iff.mp H; obtain ⟨t105, A80, H⟩ := H; replace H : (some t105) = some r := H; have A8 := Aside0.mk A80; clear A80; obtain rfl := Option.some.inj H
        go_enter Try.func111, Try.ntmps111
        go_wp2_with (first | ((with_reducible refine gate_dst (N := 1) rfl ?_); refine box_event ?hg (N := 1) ?hd (cs := #[.int .i64 a0_0, .int .i64 a0_1, .int .i64 a0_2, .int .i64 a0_3]) (t := 32) ?hr ?_; (case hd => rfl); (case hg => rfl); (case hr => first | (go_simp; done) | (go_simp; rfl)); intro gb101 hg w9 hbox hb; have n0_ := Aside0.mk (below_step (bz HB.out) hb); have n1_ := Aside0.mk (hbox); have n2_ := Aside0.mk ((by rw [hg]; exact (below_size (bz HB.out)) : w.heap.size ≤ gb101)); have n3_ := Aside0.mk ((by rw [hg]; exact (below_size (bz HB.out)) : w.heap.size ≤ gb101)); clear HB; have HB := n0_; have BK101 := n1_; have GW101 := n2_; have GE101 := n3_; clear n0_ n1_ n2_ n3_; clear hb hbox hg; have hcz10_0 := fz BK101.out 0 (.int .i64 a0_0); have hcz10_1 := fz BK101.out 1 (.int .i64 a0_1); have hcz10_2 := fz BK101.out 2 (.int .i64 a0_2); have hcz10_3 := fz BK101.out 3 (.int .i64 a0_3); have hfz10_0 := blk_frozen BK101.out 0; have hfz10_1 := blk_frozen BK101.out 1; have hfz10_2 := blk_frozen BK101.out 2; have hfz10_3 := blk_frozen BK101.out 3) | ((with_reducible refine gate_callee (f := 72) rfl ?_); refine goesL_ (some 5) rfl rfl Try.func72 (by kernel_rfl) rfl #[.int .i64 a0_0, .int .i64 0, .int .i64 255] rfl dz ?_; (with_reducible refine (spec_l1In.calls a0_0 0 255 true _ A2.out).mono ?_); rintro e w' ⟨rfl, ⟨nd, rfl⟩⟩; refine ⟨_, rfl, ?_⟩) | (go_at_call 72; (with_reducible refine (spec_l1In.calls a0_1 0 255 true _ A4.out).mono ?_); rintro e w' ⟨rfl, ⟨nd, rfl⟩⟩) | (go_at_call 72; (with_reducible refine (spec_l1In.calls a0_2 a0_0 255 true _ A6.out).mono ?_); rintro e w' ⟨rfl, ⟨nd, rfl⟩⟩) | (go_at_call 72; (with_reducible refine (spec_l1In.calls a0_3 a0_1 255 t105 _ A8.out).mono ?_); rintro e w' ⟨rfl, ⟨nd, rfl⟩⟩))
        go_ret; exact ⟨ez, b1 GE101.out HB.out⟩
      · replace c7 := Bool.eq_false_iff.mpr c7
        subst c7; replace H : (some false) = some r := (by rw [if_neg (show ¬ (false = true) by decide)] at H; exact H); obtain rfl := Option.some.inj H
        go_enter Try.func111, Try.ntmps111
        go_wp2_with (first | ((with_reducible refine gate_dst (N := 1) rfl ?_); refine box_event ?hg (N := 1) ?hd (cs := #[.int .i64 a0_0, .int .i64 a0_1, .int .i64 a0_2, .int .i64 a0_3]) (t := 32) ?hr ?_; (case hd => rfl); (case hg => rfl); (case hr => first | (go_simp; done) | (go_simp; rfl)); intro gb101 hg w11 hbox hb; have n0_ := Aside0.mk (below_step (bz HB.out) hb); have n1_ := Aside0.mk (hbox); have n2_ := Aside0.mk ((by rw [hg]; exact (below_size (bz HB.out)) : w.heap.size ≤ gb101)); have n3_ := Aside0.mk ((by rw [hg]; exact (below_size (bz HB.out)) : w.heap.size ≤ gb101)); clear HB; have HB := n0_; have BK101 := n1_; have GW101 := n2_; have GE101 := n3_; clear n0_ n1_ n2_ n3_; clear hb hbox hg; have hcz12_0 := fz BK101.out 0 (.int .i64 a0_0); have hcz12_1 := fz BK101.out 1 (.int .i64 a0_1); have hcz12_2 := fz BK101.out 2 (.int .i64 a0_2); have hcz12_3 := fz BK101.out 3 (.int .i64 a0_3); have hfz12_0 := blk_frozen BK101.out 0; have hfz12_1 := blk_frozen BK101.out 1; have hfz12_2 := blk_frozen BK101.out 2; have hfz12_3 := blk_frozen BK101.out 3) | ((with_reducible refine gate_callee (f := 72) rfl ?_); refine goesL_ (some 5) rfl rfl Try.func72 (by kernel_rfl) rfl #[.int .i64 a0_0, .int .i64 0, .int .i64 255] rfl dz ?_; (with_reducible refine (spec_l1In.calls a0_0 0 255 true _ A2.out).mono ?_); rintro e w' ⟨rfl, ⟨nd, rfl⟩⟩; refine ⟨_, rfl, ?_⟩) | (go_at_call 72; (with_reducible refine (spec_l1In.calls a0_1 0 255 true _ A4.out).mono ?_); rintro e w' ⟨rfl, ⟨nd, rfl⟩⟩) | (go_at_call 72; (with_reducible refine (spec_l1In.calls a0_2 a0_0 255 false _ A6.out).mono ?_); rintro e w' ⟨rfl, ⟨nd, rfl⟩⟩))
        go_ret; exact ⟨ez, b1 GE101.out HB.out⟩
    · replace c5 := Bool.eq_false_iff.mpr c5
      subst c5; replace H : (some false) = some r := (by rw [if_neg (show ¬ (false = true) by decide)] at H; exact H); obtain rfl := Option.some.inj H
      go_enter Try.func111, Try.ntmps111
      go_wp2_with (first | ((with_reducible refine gate_dst (N := 1) rfl ?_); refine box_event ?hg (N := 1) ?hd (cs := #[.int .i64 a0_0, .int .i64 a0_1, .int .i64 a0_2, .int .i64 a0_3]) (t := 32) ?hr ?_; (case hd => rfl); (case hg => rfl); (case hr => first | (go_simp; done) | (go_simp; rfl)); intro gb101 hg w13 hbox hb; have n0_ := Aside0.mk (below_step (bz HB.out) hb); have n1_ := Aside0.mk (hbox); have n2_ := Aside0.mk ((by rw [hg]; exact (below_size (bz HB.out)) : w.heap.size ≤ gb101)); have n3_ := Aside0.mk ((by rw [hg]; exact (below_size (bz HB.out)) : w.heap.size ≤ gb101)); clear HB; have HB := n0_; have BK101 := n1_; have GW101 := n2_; have GE101 := n3_; clear n0_ n1_ n2_ n3_; clear hb hbox hg; have hcz14_0 := fz BK101.out 0 (.int .i64 a0_0); have hcz14_1 := fz BK101.out 1 (.int .i64 a0_1); have hcz14_2 := fz BK101.out 2 (.int .i64 a0_2); have hcz14_3 := fz BK101.out 3 (.int .i64 a0_3); have hfz14_0 := blk_frozen BK101.out 0; have hfz14_1 := blk_frozen BK101.out 1; have hfz14_2 := blk_frozen BK101.out 2; have hfz14_3 := blk_frozen BK101.out 3) | ((with_reducible refine gate_callee (f := 72) rfl ?_); refine goesL_ (some 5) rfl rfl Try.func72 (by kernel_rfl) rfl #[.int .i64 a0_0, .int .i64 0, .int .i64 255] rfl dz ?_; (with_reducible refine (spec_l1In.calls a0_0 0 255 true _ A2.out).mono ?_); rintro e w' ⟨rfl, ⟨nd, rfl⟩⟩; refine ⟨_, rfl, ?_⟩) | (go_at_call 72; (with_reducible refine (spec_l1In.calls a0_1 0 255 false _ A4.out).mono ?_); rintro e w' ⟨rfl, ⟨nd, rfl⟩⟩))
      go_ret; exact ⟨ez, b1 GE101.out HB.out⟩
  · replace c3 := Bool.eq_false_iff.mpr c3
    subst c3; replace H : (some false) = some r := (by rw [if_neg (show ¬ (false = true) by decide)] at H; exact H); obtain rfl := Option.some.inj H
    go_enter Try.func111, Try.ntmps111
    go_wp2_with (first | ((with_reducible refine gate_dst (N := 1) rfl ?_); refine box_event ?hg (N := 1) ?hd (cs := #[.int .i64 a0_0, .int .i64 a0_1, .int .i64 a0_2, .int .i64 a0_3]) (t := 32) ?hr ?_; (case hd => rfl); (case hg => rfl); (case hr => first | (go_simp; done) | (go_simp; rfl)); intro gb101 hg w15 hbox hb; have n0_ := Aside0.mk (below_step (bz HB.out) hb); have n1_ := Aside0.mk (hbox); have n2_ := Aside0.mk ((by rw [hg]; exact (below_size (bz HB.out)) : w.heap.size ≤ gb101)); have n3_ := Aside0.mk ((by rw [hg]; exact (below_size (bz HB.out)) : w.heap.size ≤ gb101)); clear HB; have HB := n0_; have BK101 := n1_; have GW101 := n2_; have GE101 := n3_; clear n0_ n1_ n2_ n3_; clear hb hbox hg; have hcz16_0 := fz BK101.out 0 (.int .i64 a0_0); have hcz16_1 := fz BK101.out 1 (.int .i64 a0_1); have hcz16_2 := fz BK101.out 2 (.int .i64 a0_2); have hcz16_3 := fz BK101.out 3 (.int .i64 a0_3); have hfz16_0 := blk_frozen BK101.out 0; have hfz16_1 := blk_frozen BK101.out 1; have hfz16_2 := blk_frozen BK101.out 2; have hfz16_3 := blk_frozen BK101.out 3) | ((with_reducible refine gate_callee (f := 72) rfl ?_); refine goesL_ (some 5) rfl rfl Try.func72 (by kernel_rfl) rfl #[.int .i64 a0_0, .int .i64 0, .int .i64 255] rfl dz ?_; (with_reducible refine (spec_l1In.calls a0_0 0 255 false _ A2.out).mono ?_); rintro e w' ⟨rfl, ⟨nd, rfl⟩⟩; refine ⟨_, rfl, ?_⟩))
    go_ret; exact ⟨ez, b1 GE101.out HB.out⟩

attribute [local go_sem] max2_int min2_int max_two min_two max_three min_three max_four min_four 
set_option linter.unusedVariables false
set_option linter.unusedSimpArgs false

/-! ### spec_EntryAt: function 125 -/
def spec_EntryAt.l0 : Nat → List (S103) → Int → Int → Option (Int)
  | 0, _, _, _ => none
  | k + 1, x0, x1, x5 => if x5 < (x0.length : Int) then (if 0 ≤ x5 then (if ((rd_T103 x0 x5).f0) = x1 then (some x5) else (spec_EntryAt.l0 k x0 x1 (wrap64 (x5 + 1)))) else (none)) else (some (-1))
def spec_EntryAt.f (k : Nat) (l0 : List (S103)) (a1 : Int) : Option (Int) := spec_EntryAt.l0 k l0 a1 0
theorem spec_EntryAt.mono_l : ∀ k, (∀ y0 y1 y2, LeO (spec_EntryAt.l0 k y0 y1 y2) (spec_EntryAt.l0 (k + 1) y0 y1 y2))
  | 0 => fun _ _ _ r h => by simp [spec_EntryAt.l0] at h
  | k + 1 => by
    have ih0 := spec_EntryAt.mono_l k
    · intro y0 y1 y2
      unfold spec_EntryAt.l0
      repeat' first | (with_reducible first | exact ih0 _ _ _ | exact LeO.refl _ | exact LeO.none _ | refine LeO.ite ?_ ?_ | refine LeO.bind ?_ (fun _ => ?_)) | exact ih0 _ _ _ | exact LeO.none _ | refine LeO.ite ?_ ?_ | refine LeO.bind ?_ (fun _ => ?_)
theorem spec_EntryAt.mono : ∀ a0 a1 k, LeO (spec_EntryAt.f k a0 a1) (spec_EntryAt.f (k + 1) a0 a1) := by
  intro a0 a1 k
  have ih0 := spec_EntryAt.mono_l k; unfold spec_EntryAt.f
  repeat' first | (with_reducible first | exact ih0 _ _ _ | exact LeO.refl _ | exact LeO.none _ | refine LeO.ite ?_ ?_ | refine LeO.bind ?_ (fun _ => ?_)) | exact ih0 _ _ _ | exact LeO.none _ | refine LeO.ite ?_ ?_ | refine LeO.bind ?_ (fun _ => ?_)
set_option maxHeartbeats 8000000 in
set_option maxRecDepth 100000 in
theorem spec_EntryAt.calls (k : Nat) (A0 : Option Addr) (c0 : Nat) (l0 : List (S103)) (a1 : Int) (r : Int) (w : World) (hr0 : Kd.C k103 w A0 l0.length l0) (hc0 : l0.length ≤ c0) (h : spec_EntryAt.f k l0 a1 = some r) :
    Calls Try.prog 125 #[.slice A0 l0.length c0, .int .i64 a1] w fun e w' => e = .returned (.int .i64 r) ∧ Drawn0 w w' := by
  have HR0 := Aside0.mk hr0; have HC0 := Aside0.mk hc0; clear hr0 hc0; have H : (spec_EntryAt.l0 k l0 a1 0) = some r := h; clear h; have H' := Aside0.mk H; clear H
  go_enter Try.func125, Try.ntmps125
  go_wp2
  go_loopg [5] k (fun kq v5 w' => ∃ (x5_1 : Int), v5 = .int .i64 x5_1 ∧ Aside0 (spec_EntryAt.l0 kq l0 a1 x5_1 = some r) ∧ Aside0 (kq ≤ k) ∧ Drawn0 w w')
  case atStart => exact ⟨(0), az, H', ⟨Nat.le_refl _⟩, by repeat (first | exact Drawn0.refl _ | apply Drawn0.step)⟩
  case round =>
    clear H'; (try clear c1); (try clear p2); obtain ⟨x5_1, rfl, HA, HK1, ⟨m1, rfl⟩⟩ := hrel
    cases gk with
    | zero => exact absurd HA.out (by simp [spec_EntryAt.l0])
    | succ k1 =>
      have H := HA.out; clear HA
      simp only [spec_EntryAt.l0] at H
      by_cases c3 : x5_1 < (l0.length : Int)
      · rw [if_pos c3] at H
        have c3b0 : decide (x5_1 < (l0.length : Int)) = true := decide_eq_true c3; clear c3
        by_cases c4 : 0 ≤ x5_1
        · rw [if_pos c4] at H
          have c4b0 : decide (0 ≤ x5_1) = true := decide_eq_true c4; clear c4
          by_cases c5 : ((rd_T103 l0 x5_1).f0) = a1
          · rw [if_pos c5] at H
            have c5b0 : (((rd_T103 l0 x5_1).f0) == a1) = true := beq_iff_eq.mpr c5; have c5b1 : (((rd_T103 l0 x5_1).f0) != a1) = false := bne_eq_false_iff_eq.mpr c5; clear c5; obtain rfl := Option.some.inj H; have p581 : 0 ≤ (x5_1 : Int) := of_decide_eq_true uz; have q581 : x5_1 < (l0.length : Int) := of_decide_eq_true uz; obtain ⟨ad581, e581, hx581_0, hx581_1, hx581_2, hx581_3, hx581_4⟩ := at_T103 HR0.out x5_1 p581 q581
            cases e581
            replace p581 := eq_true p581; replace q581 := eq_true q581; go_wp2; go_ret; exact ⟨by first | rfl | (simp; done) | (simp [*]; done), by repeat (first | exact Drawn0.refl _ | apply Drawn0.step)⟩
          · rw [if_neg c5] at H
            have c5b0 : (((rd_T103 l0 x5_1).f0) == a1) = false := beq_eq_false_iff_ne.mpr c5; have c5b1 : (((rd_T103 l0 x5_1).f0) != a1) = true := bne_iff_ne.mpr c5; have H' := Aside0.mk H; clear H; have p581 : 0 ≤ (x5_1 : Int) := of_decide_eq_true uz; have q581 : x5_1 < (l0.length : Int) := of_decide_eq_true uz; obtain ⟨ad581, e581, hx581_0, hx581_1, hx581_2, hx581_3, hx581_4⟩ := at_T103 HR0.out x5_1 p581 q581
            cases e581
            replace p581 := eq_true p581; replace q581 := eq_true q581; go_wp2; go_roundg k1
            case measure => have := HK1.out; omega
            case rel => exact ⟨(wrap64 (x5_1 + 1)), az, H', ⟨by have := HK1.out; omega⟩, by repeat (first | exact Drawn0.refl _ | apply Drawn0.step)⟩
        · rw [if_neg c4] at H
          exact absurd H (by simp)
      · rw [if_neg c3] at H
        have c3b0 : decide (x5_1 < (l0.length : Int)) = false := decide_eq_false c3; clear c3; obtain rfl := Option.some.inj H; go_wp2; go_ret; exact ⟨by first | rfl | (simp; done) | (simp [*]; done), by repeat (first | exact Drawn0.refl _ | apply Drawn0.step)⟩

attribute [local go_sem] max2_int min2_int max_two min_two max_three min_three max_four min_four 
set_option linter.unusedVariables false
set_option linter.unusedSimpArgs false

/-! ### spec_NodeOk: function 86 -/
def spec_NodeOk.l0 : Nat → Int → Bool → List (S103) → Option (Bool)
  | 0, _, _, _ => none
  | k + 1, x3, x583000, x583001 => if x3 < (x583001.length : Int) then (if 0 ≤ x3 then ((spec_BoxOk.f ((rd_T103 x583001 x3).f1.f0) ((rd_T103 x583001 x3).f1.f1) ((rd_T103 x583001 x3).f1.f2) ((rd_T103 x583001 x3).f1.f3)).bind fun t585 => (if t585 = true then ((spec_EntryAt.f k x583001 ((rd_T103 x583001 x3).f0)).bind fun t586 => (if t586 = x3 then (if x583000 = true then ((spec_l1In.f ((rd_T103 x583001 x3).f0) 1 999).bind fun t587 => (if t587 = true then (spec_NodeOk.l0 k (wrap64 (x3 + 1)) x583000 x583001) else (some false))) else ((spec_l1In.f ((rd_T103 x583001 x3).f0) 0 47).bind fun t588 => (if t588 = true then (spec_NodeOk.l0 k (wrap64 (x3 + 1)) x583000 x583001) else (some false)))) else (some false))) else (some false))) else (none)) else (if (x583001.length : Int) ≤ 4 then (if x583000 = true then (some true) else (some (decide ((x583001.length : Int) > 0)))) else (some false))
def spec_NodeOk.f (k : Nat) (a0_0 : Bool) (l0_1 : List (S103)) : Option (Bool) := spec_NodeOk.l0 k 0 a0_0 l0_1
theorem spec_NodeOk.mono_l : ∀ k, (∀ y0 y1 y2, LeO (spec_NodeOk.l0 k y0 y1 y2) (spec_NodeOk.l0 (k + 1) y0 y1 y2))
  | 0 => fun _ _ _ r h => by simp [spec_NodeOk.l0] at h
  | k + 1 => by
    have ih0 := spec_NodeOk.mono_l k
    · intro y0 y1 y2
      unfold spec_NodeOk.l0
      repeat' first | (with_reducible first | exact ih0 _ _ _ | exact spec_EntryAt.mono _ _ _ | exact LeO.refl _ | exact LeO.none _ | refine LeO.ite ?_ ?_ | refine LeO.bind ?_ (fun _ => ?_)) | exact ih0 _ _ _ | exact spec_EntryAt.mono _ _ _ | exact LeO.none _ | refine LeO.ite ?_ ?_ | refine LeO.bind ?_ (fun _ => ?_)
theorem spec_NodeOk.mono : ∀ a0 a1 k, LeO (spec_NodeOk.f k a0 a1) (spec_NodeOk.f (k + 1) a0 a1) := by
  intro a0 a1 k
  have ih0 := spec_NodeOk.mono_l k; unfold spec_NodeOk.f
  repeat' first | (with_reducible first | exact ih0 _ _ _ | exact spec_EntryAt.mono _ _ _ | exact LeO.refl _ | exact LeO.none _ | refine LeO.ite ?_ ?_ | refine LeO.bind ?_ (fun _ => ?_)) | exact ih0 _ _ _ | exact spec_EntryAt.mono _ _ _ | exact LeO.none _ | refine LeO.ite ?_ ?_ | refine LeO.bind ?_ (fun _ => ?_)
set_option maxHeartbeats 8000000 in
set_option maxRecDepth 100000 in
theorem spec_NodeOk.calls (k : Nat) (a0_0 : Bool) (A0_1 : Option Addr) (c0_1 : Nat) (l0_1 : List (S103)) (r : Bool) (w : World) (hr0_1 : Kd.C k103 w A0_1 l0_1.length l0_1) (hc0_1 : l0_1.length ≤ c0_1) (h : spec_NodeOk.f k a0_0 l0_1 = some r) :
    Calls Try.prog 86 #[.agg #[.bool a0_0, .slice A0_1 l0_1.length c0_1]] w fun e w' => e = .returned (.bool r) ∧ Below w.heap.size w w' := by
  have hu54 := Try.underlying54; have hu103 := Try.underlying103; have hu32 := Try.underlying32; have HR0_1 := Aside0.mk hr0_1; have HC0_1 := Aside0.mk hc0_1; clear hr0_1 hc0_1; have HB := Aside0.mk (Below.refl w.heap.size w); have H : (spec_NodeOk.l0 k 0 a0_0 l0_1) = some r := h; clear h; have H' := Aside0.mk H; clear H
  go_enter Try.func86, Try.ntmps86
  go_wp2_with (first | ((with_reducible refine gate_dst (N := 1) rfl ?_); (try (refine gate_guard (by rfl) ?_; dsimp only)); refine box_event ?hg (N := 1) ?hd (cs := #[.bool a0_0, .slice A0_1 l0_1.length c0_1]) (t := 54) ?hr ?_; (case hd => rfl); (case hg => rfl); (case hr => first | (go_simp; done) | (go_simp; rfl)); intro gb582 hg w2 hbox hb; have n0_ := Aside0.mk (below_step (bz HB.out) hb); have n1_ := Aside0.mk (hbox); have n2_ := Aside0.mk ((by rw [hg]; exact (below_size (bz HB.out)) : w.heap.size ≤ gb582)); have n3_ := Aside0.mk ((by rw [hg]; exact (below_size (bz HB.out)) : w.heap.size ≤ gb582)); clear HB; have HB := n0_; have BK582 := n1_; have GW582 := n2_; have GE582 := n3_; clear n0_ n1_ n2_ n3_; clear hb hbox hg))
  go_loopg [3] k (fun kq v3 w' => ∃ (x3_1 : Int), v3 = .int .i64 x3_1 ∧ Aside0 (spec_NodeOk.l0 kq x3_1 a0_0 l0_1 = some r) ∧ Aside0 (kq ≤ k) ∧ Aside0 (w'.heap[gb582]? = some (.cells #[.bool a0_0, (.slice A0_1 l0_1.length c0_1)] 54 (0, 0))) ∧ Aside0 (Below w.heap.size w w'))
  case atStart => exact ⟨(0), az, H', ⟨Nat.le_refl _⟩, ⟨kz BK582.out⟩, ⟨b1 GE582.out HB.out⟩⟩
  case round =>
    clear H'; (try clear p2); obtain ⟨x3_1, rfl, HA, HK1, BK582, HB⟩ := hrel
    cases gk with
    | zero => exact absurd HA.out (by simp [spec_NodeOk.l0])
    | succ k1 =>
      have H := HA.out; clear HA
      simp only [spec_NodeOk.l0] at H
      by_cases c3 : x3_1 < (l0_1.length : Int)
      · rw [if_pos c3] at H
        have c3b0 : decide (x3_1 < (l0_1.length : Int)) = true := decide_eq_true c3; clear c3
        by_cases c4 : 0 ≤ x3_1
        · rw [if_pos c4] at H
          have c4b0 : decide (0 ≤ x3_1) = true := decide_eq_true c4; clear c4; replace H := Option.bind_eq_some_iff.mp H; obtain ⟨t585, A50, H⟩ := H; replace H : (if t585 = true then ((spec_EntryAt.f k1 l0_1 ((rd_T103 l0_1 x3_1).f0)).bind fun t586 => (if t586 = x3_1 then (if a0_0 = true then ((spec_l1In.f ((rd_T103 l0_1 x3_1).f0) 1 999).bind fun t587 => (if t587 = true then (spec_NodeOk.l0 k1 (wrap64 (x3_1 + 1)) a0_0 l0_1) else (some false))) else ((spec_l1In.f ((rd_T103 l0_1 x3_1).f0) 0 47).bind fun t588 => (if t588 = true then (spec_NodeOk.l0 k1 (wrap64 (x3_1 + 1)) a0_0 l0_1) else (some false)))) else (some false))) else (some false)) = some r := H; have A5 := Aside0.mk A50; clear A50
          by_cases c6 : t585 = true
          · subst c6
            replace H : ((spec_EntryAt.f k1 l0_1 ((rd_T103 l0_1 x3_1).f0)).bind fun t586 => (if t586 = x3_1 then (if a0_0 = true then ((spec_l1In.f ((rd_T103 l0_1 x3_1).f0) 1 999).bind fun t587 => (if t587 = true then (spec_NodeOk.l0 k1 (wrap64 (x3_1 + 1)) a0_0 l0_1) else (some false))) else ((spec_l1In.f ((rd_T103 l0_1 x3_1).f0) 0 47).bind fun t588 => (if t588 = true then (spec_NodeOk.l0 k1 (wrap64 (x3_1 + 1)) a0_0 l0_1) else (some false)))) else (some false))) = some r := (by rw [if_pos rfl] at H; exact H); replace H := Option.bind_eq_some_iff.mp H; obtain ⟨t586, A70, H⟩ := H; replace H : (if t586 = x3_1 then (if a0_0 = true then ((spec_l1In.f ((rd_T103 l0_1 x3_1).f0) 1 999).bind fun t587 => (if t587 = true then (spec_NodeOk.l0 k1 (wrap64 (x3_1 + 1)) a0_0 l0_1) else (some false))) else ((spec_l1In.f ((rd_T103 l0_1 x3_1).f0) 0 47).bind fun t588 => (if t588 = true then (spec_NodeOk.l0 k1 (wrap64 (x3_1 + 1)) a0_0 l0_1) else (some false)))) else (some false)) = some r := H; have A7 := Aside0.mk A70; clear A70
            by_cases c8 : t586 = x3_1
            · rw [if_pos c8] at H
              have c8b0 : (t586 == x3_1) = true := beq_iff_eq.mpr c8; have c8b1 : (t586 != x3_1) = false := bne_eq_false_iff_eq.mpr c8; clear c8
              by_cases c9 : a0_0 = true
              · subst c9
                replace H : ((spec_l1In.f ((rd_T103 l0_1 x3_1).f0) 1 999).bind fun t587 => (if t587 = true then (spec_NodeOk.l0 k1 (wrap64 (x3_1 + 1)) true l0_1) else (some false))) = some r := (by rw [if_pos rfl] at H; exact H); replace H := Option.bind_eq_some_iff.mp H; obtain ⟨t587, A100, H⟩ := H; replace H : (if t587 = true then (spec_NodeOk.l0 k1 (wrap64 (x3_1 + 1)) true l0_1) else (some false)) = some r := H; have A10 := Aside0.mk A100; clear A100
                by_cases c11 : t587 = true
                · subst c11
                  replace H : (spec_NodeOk.l0 k1 (wrap64 (x3_1 + 1)) true l0_1) = some r := (by rw [if_pos rfl] at H; exact H); have H' := Aside0.mk H; clear H; have hcz12_0 := fz BK582.out 0 (.bool true); have hcz12_1 := fz BK582.out 1 (.slice A0_1 l0_1.length c0_1); have hfz12_0 := blk_frozen BK582.out 0; have hfz12_1 := blk_frozen BK582.out 1; have p583 : 0 ≤ (x3_1 : Int) := of_decide_eq_true uz; have q583 : x3_1 < (l0_1.length : Int) := of_decide_eq_true uz; obtain ⟨ad583, e583, hx583_0, hx583_1, hx583_2, hx583_3, hx583_4⟩ := at_T103 HR0_1.out x3_1 p583 q583
                  cases e583
                  replace hx583_0 := cz HB.out hx583_0; replace hx583_1 := cz HB.out hx583_1; replace hx583_2 := cz HB.out hx583_2; replace hx583_3 := cz HB.out hx583_3; replace hx583_4 := cz HB.out hx583_4; replace p583 := eq_true p583; replace q583 := eq_true q583
                  go_wp2_with (first | ((with_reducible refine gate_dst (N := 4) rfl ?_); (try (refine gate_guard (by rfl) ?_; dsimp only)); refine box_event ?hg (N := 4) ?hd (cs := #[.int .i64 0, .int .i64 0, .int .i64 0, .int .i64 0, .int .i64 0]) (t := 103) ?hr ?_; (case hd => rfl); (case hg => rfl); (case hr => first | (go_simp; done) | (go_simp; rfl)); intro gb584 hg w13 hbox hb; have n0_ := Aside0.mk (blk_below (g := gb582) (o := .cells #[.bool true, .slice (some ad583) l0_1.length c0_1] 54 (0, 0)) (kz BK582.out) hb); have n1_ := Aside0.mk (below_step (b1 GE582.out HB.out) hb); have n2_ := Aside0.mk (hbox); have n3_ := Aside0.mk ((by rw [hg]; exact (below_size (b1 GE582.out HB.out)) : w.heap.size ≤ gb584)); have n4_ := Aside0.mk ((by rw [hg]; exact (below_size (b1 GE582.out HB.out)) : w.heap.size ≤ gb584)); have n5_ := Aside0.mk ((by rw [hg]; exact Nat.ne_of_lt (blk_lt (g := gb582) (o := .cells #[.bool true, .slice (some ad583) l0_1.length c0_1] 54 (0, 0)) (kz BK582.out)) : gb582 ≠ gb584)); have n6_ := Aside0.mk ((by rw [hg]; exact Nat.ne_of_gt (blk_lt (g := gb582) (o := .cells #[.bool true, .slice (some ad583) l0_1.length c0_1] 54 (0, 0)) (kz BK582.out)) : gb584 ≠ gb582)); clear BK582; clear HB; have BK582 := n0_; have HB := n1_; have BK584 := n2_; have GW584 := n3_; have GE584 := n4_; have NB582_584 := n5_; have NB584_582 := n6_; clear n0_ n1_ n2_ n3_ n4_ n5_ n6_; clear hb hbox hg; have hnb14 := NB584_582.out; have hnc14 := NB582_584.out; have hcz15_0 := fz BK584.out 0 (.int .i64 0); have hcz15_1 := fz BK584.out 1 (.int .i64 0); have hcz15_2 := fz BK584.out 2 (.int .i64 0); have hcz15_3 := fz BK584.out 3 (.int .i64 0); have hcz15_4 := fz BK584.out 4 (.int .i64 0); have hfz15_0 := blk_frozen BK584.out 0; have hfz15_1 := blk_frozen BK584.out 1; have hfz15_2 := blk_frozen BK584.out 2; have hfz15_3 := blk_frozen BK584.out 3; have hfz15_4 := blk_frozen BK584.out 4) | ((with_reducible refine gate_callee (f := 111) rfl ?_); refine goesL_ (some 19) rfl rfl Try.func111 (by kernel_rfl) rfl #[.agg #[.int .i64 ((rd_T103 l0_1 x3_1).f1.f0), .int .i64 ((rd_T103 l0_1 x3_1).f1.f1), .int .i64 ((rd_T103 l0_1 x3_1).f1.f2), .int .i64 ((rd_T103 l0_1 x3_1).f1.f3)]] rfl dz ?_; (with_reducible refine (spec_BoxOk.calls ((rd_T103 l0_1 x3_1).f1.f0) ((rd_T103 l0_1 x3_1).f1.f1) ((rd_T103 l0_1 x3_1).f1.f2) ((rd_T103 l0_1 x3_1).f1.f3) true _ A5.out).mono ?_); rintro e w16 ⟨rfl, hb⟩; refine ⟨_, rfl, ?_⟩; have n0_ := Aside0.mk (blk_below (g := gb582) (o := .cells #[.bool true, .slice (some ad583) l0_1.length c0_1] 54 (0, 0)) (by (with_reducible repeat (first | refine blk_drewN ?_ _ | refine blk_drew ?_ | refine blk_alloc ?_ _)); refine blk_far ?_ NB582_584.out _; (with_reducible repeat (first | refine blk_drewN ?_ _ | refine blk_drew ?_ | refine blk_alloc ?_ _)); refine blk_far ?_ NB582_584.out _; (with_reducible repeat (first | refine blk_drewN ?_ _ | refine blk_drew ?_ | refine blk_alloc ?_ _)); refine blk_far ?_ NB582_584.out _; (with_reducible repeat (first | refine blk_drewN ?_ _ | refine blk_drew ?_ | refine blk_alloc ?_ _)); refine blk_far ?_ NB582_584.out _; (with_reducible repeat (first | refine blk_drewN ?_ _ | refine blk_drew ?_ | refine blk_alloc ?_ _)); refine blk_far ?_ NB582_584.out _; (with_reducible repeat (first | refine blk_drewN ?_ _ | refine blk_drew ?_ | refine blk_alloc ?_ _)); exact BK582.out) hb); have n1_ := Aside0.mk (blk_below (g := gb584) (o := .cells #[.int .i64 ((rd_T103 l0_1 x3_1).f0), .int .i64 ((rd_T103 l0_1 x3_1).f1.f0), .int .i64 ((rd_T103 l0_1 x3_1).f1.f1), .int .i64 ((rd_T103 l0_1 x3_1).f1.f2), .int .i64 ((rd_T103 l0_1 x3_1).f1.f3)] 103 (0, 0)) (by (with_reducible repeat (first | refine blk_drewN ?_ _ | refine blk_drew ?_ | refine blk_alloc ?_ _)); refine blk_put (cs := #[.int .i64 ((rd_T103 l0_1 x3_1).f0), .int .i64 ((rd_T103 l0_1 x3_1).f1.f0), .int .i64 ((rd_T103 l0_1 x3_1).f1.f1), .int .i64 ((rd_T103 l0_1 x3_1).f1.f2), .int .i64 0]) ?_ 4 _ rfl; (with_reducible repeat (first | refine blk_drewN ?_ _ | refine blk_drew ?_ | refine blk_alloc ?_ _)); refine blk_put (cs := #[.int .i64 ((rd_T103 l0_1 x3_1).f0), .int .i64 ((rd_T103 l0_1 x3_1).f1.f0), .int .i64 ((rd_T103 l0_1 x3_1).f1.f1), .int .i64 0, .int .i64 0]) ?_ 3 _ rfl; (with_reducible repeat (first | refine blk_drewN ?_ _ | refine blk_drew ?_ | refine blk_alloc ?_ _)); refine blk_put (cs := #[.int .i64 ((rd_T103 l0_1 x3_1).f0), .int .i64 ((rd_T103 l0_1 x3_1).f1.f0), .int .i64 0, .int .i64 0, .int .i64 0]) ?_ 2 _ rfl; (with_reducible repeat (first | refine blk_drewN ?_ _ | refine blk_drew ?_ | refine blk_alloc ?_ _)); refine blk_put (cs := #[.int .i64 ((rd_T103 l0_1 x3_1).f0), .int .i64 0, .int .i64 0, .int .i64 0, .int .i64 0]) ?_ 1 _ rfl; (with_reducible repeat (first | refine blk_drewN ?_ _ | refine blk_drew ?_ | refine blk_alloc ?_ _)); refine blk_put (cs := #[.int .i64 0, .int .i64 0, .int .i64 0, .int .i64 0, .int .i64 0]) ?_ 0 _ rfl; (with_reducible repeat (first | refine blk_drewN ?_ _ | refine blk_drew ?_ | refine blk_alloc ?_ _)); exact BK584.out) hb); have n2_ := Aside0.mk (below_step (b2 GE582.out GE584.out HB.out) hb); clear BK582; clear BK584; clear HB; have BK582 := n0_; have BK584 := n1_; have HB := n2_; clear n0_ n1_ n2_; (try clear hb); (try clear hb2); (try clear hk); (try clear hi); have hcz17_0 := fz BK582.out 0 (.bool true); have hcz17_1 := fz BK582.out 1 (.slice (some ad583) l0_1.length c0_1); have hfz17_0 := blk_frozen BK582.out 0; have hfz17_1 := blk_frozen BK582.out 1; have hcz18_0 : w16.cell? ⟨gb584, 0, none⟩ = some (.int .i64 ((rd_T103 l0_1 x3_1).f0)) := (blk_cell BK584.out 0).trans rfl; have hcz18_1 : w16.cell? ⟨gb584, 1, none⟩ = some (.int .i64 ((rd_T103 l0_1 x3_1).f1.f0)) := (blk_cell BK584.out 1).trans rfl; have hcz18_2 : w16.cell? ⟨gb584, 2, none⟩ = some (.int .i64 ((rd_T103 l0_1 x3_1).f1.f1)) := (blk_cell BK584.out 2).trans rfl; have hcz18_3 : w16.cell? ⟨gb584, 3, none⟩ = some (.int .i64 ((rd_T103 l0_1 x3_1).f1.f2)) := (blk_cell BK584.out 3).trans rfl; have hcz18_4 : w16.cell? ⟨gb584, 4, none⟩ = some (.int .i64 ((rd_T103 l0_1 x3_1).f1.f3)) := (blk_cell BK584.out 4).trans rfl; have hfz18_0 := blk_frozen BK584.out 0; have hfz18_1 := blk_frozen BK584.out 1; have hfz18_2 := blk_frozen BK584.out 2; have hfz18_3 := blk_frozen BK584.out 3; have hfz18_4 := blk_frozen BK584.out 4) | (go_at_call 125; (with_reducible refine (spec_EntryAt.calls k1 _ _ l0_1 ((rd_T103 l0_1 x3_1).f0) t586 _ ?side1 ?side2 A7.out).mono ?_); (case side1 => exact sz HR0_1.out HB.out); (case side2 => exact HC0_1.out); rintro e w' ⟨rfl, ⟨nd, rfl⟩⟩) | (go_at_call 72; (with_reducible refine (spec_l1In.calls ((rd_T103 l0_1 x3_1).f0) 1 999 true _ A10.out).mono ?_); rintro e w' ⟨rfl, ⟨nd, rfl⟩⟩))
                  go_roundg k1
                  case measure => have := HK1.out; omega
                  case rel => exact ⟨(wrap64 (x3_1 + 1)), az, H', ⟨by have := HK1.out; omega⟩, ⟨kz BK582.out⟩, ⟨b2 GE582.out GE584.out HB.out⟩⟩
                · replace c11 := Bool.eq_false_iff.mpr c11
                  subst c11; replace H : (some false) = some r := (by rw [if_neg (show ¬ (false = true) by decide)] at H; exact H); obtain rfl := Option.some.inj H; have hcz19_0 := fz BK582.out 0 (.bool true); have hcz19_1 := fz BK582.out 1 (.slice A0_1 l0_1.length c0_1); have hfz19_0 := blk_frozen BK582.out 0; have hfz19_1 := blk_frozen BK582.out 1; have p583 : 0 ≤ (x3_1 : Int) := of_decide_eq_true uz; have q583 : x3_1 < (l0_1.length : Int) := of_decide_eq_true uz; obtain ⟨ad583, e583, hx583_0, hx583_1, hx583_2, hx583_3, hx583_4⟩ := at_T103 HR0_1.out x3_1 p583 q583
                  cases e583
                  replace hx583_0 := cz HB.out hx583_0; replace hx583_1 := cz HB.out hx583_1; replace hx583_2 := cz HB.out hx583_2; replace hx583_3 := cz HB.out hx583_3; replace hx583_4 := cz HB.out hx583_4; replace p583 := eq_true p583; replace q583 := eq_true q583
                  go_wp2_with (first | ((with_reducible refine gate_dst (N := 4) rfl ?_); (try (refine gate_guard (by rfl) ?_; dsimp only)); refine box_event ?hg (N := 4) ?hd (cs := #[.int .i64 0, .int .i64 0, .int .i64 0, .int .i64 0, .int .i64 0]) (t := 103) ?hr ?_; (case hd => rfl); (case hg => rfl); (case hr => first | (go_simp; done) | (go_simp; rfl)); intro gb584 hg w20 hbox hb; have n0_ := Aside0.mk (blk_below (g := gb582) (o := .cells #[.bool true, .slice (some ad583) l0_1.length c0_1] 54 (0, 0)) (kz BK582.out) hb); have n1_ := Aside0.mk (below_step (b1 GE582.out HB.out) hb); have n2_ := Aside0.mk (hbox); have n3_ := Aside0.mk ((by rw [hg]; exact (below_size (b1 GE582.out HB.out)) : w.heap.size ≤ gb584)); have n4_ := Aside0.mk ((by rw [hg]; exact (below_size (b1 GE582.out HB.out)) : w.heap.size ≤ gb584)); have n5_ := Aside0.mk ((by rw [hg]; exact Nat.ne_of_lt (blk_lt (g := gb582) (o := .cells #[.bool true, .slice (some ad583) l0_1.length c0_1] 54 (0, 0)) (kz BK582.out)) : gb582 ≠ gb584)); have n6_ := Aside0.mk ((by rw [hg]; exact Nat.ne_of_gt (blk_lt (g := gb582) (o := .cells #[.bool true, .slice (some ad583) l0_1.length c0_1] 54 (0, 0)) (kz BK582.out)) : gb584 ≠ gb582)); clear BK582; clear HB; have BK582 := n0_; have HB := n1_; have BK584 := n2_; have GW584 := n3_; have GE584 := n4_; have NB582_584 := n5_; have NB584_582 := n6_; clear n0_ n1_ n2_ n3_ n4_ n5_ n6_; clear hb hbox hg; have hnb21 := NB584_582.out; have hnc21 := NB582_584.out; have hcz22_0 := fz BK584.out 0 (.int .i64 0); have hcz22_1 := fz BK584.out 1 (.int .i64 0); have hcz22_2 := fz BK584.out 2 (.int .i64 0); have hcz22_3 := fz BK584.out 3 (.int .i64 0); have hcz22_4 := fz BK584.out 4 (.int .i64 0); have hfz22_0 := blk_frozen BK584.out 0; have hfz22_1 := blk_frozen BK584.out 1; have hfz22_2 := blk_frozen BK584.out 2; have hfz22_3 := blk_frozen BK584.out 3; have hfz22_4 := blk_frozen BK584.out 4) | ((with_reducible refine gate_callee (f := 111) rfl ?_); refine goesL_ (some 19) rfl rfl Try.func111 (by kernel_rfl) rfl #[.agg #[.int .i64 ((rd_T103 l0_1 x3_1).f1.f0), .int .i64 ((rd_T103 l0_1 x3_1).f1.f1), .int .i64 ((rd_T103 l0_1 x3_1).f1.f2), .int .i64 ((rd_T103 l0_1 x3_1).f1.f3)]] rfl dz ?_; (with_reducible refine (spec_BoxOk.calls ((rd_T103 l0_1 x3_1).f1.f0) ((rd_T103 l0_1 x3_1).f1.f1) ((rd_T103 l0_1 x3_1).f1.f2) ((rd_T103 l0_1 x3_1).f1.f3) true _ A5.out).mono ?_); rintro e w23 ⟨rfl, hb⟩; refine ⟨_, rfl, ?_⟩; have n0_ := Aside0.mk (blk_below (g := gb582) (o := .cells #[.bool true, .slice (some ad583) l0_1.length c0_1] 54 (0, 0)) (by (with_reducible repeat (first | refine blk_drewN ?_ _ | refine blk_drew ?_ | refine blk_alloc ?_ _)); refine blk_far ?_ NB582_584.out _; (with_reducible repeat (first | refine blk_drewN ?_ _ | refine blk_drew ?_ | refine blk_alloc ?_ _)); refine blk_far ?_ NB582_584.out _; (with_reducible repeat (first | refine blk_drewN ?_ _ | refine blk_drew ?_ | refine blk_alloc ?_ _)); refine blk_far ?_ NB582_584.out _; (with_reducible repeat (first | refine blk_drewN ?_ _ | refine blk_drew ?_ | refine blk_alloc ?_ _)); refine blk_far ?_ NB582_584.out _; (with_reducible repeat (first | refine blk_drewN ?_ _ | refine blk_drew ?_ | refine blk_alloc ?_ _)); refine blk_far ?_ NB582_584.out _; (with_reducible repeat (first | refine blk_drewN ?_ _ | refine blk_drew ?_ | refine blk_alloc ?_ _)); exact BK582.out) hb); have n1_ := Aside0.mk (blk_below (g := gb584) (o := .cells #[.int .i64 ((rd_T103 l0_1 x3_1).f0), .int .i64 ((rd_T103 l0_1 x3_1).f1.f0), .int .i64 ((rd_T103 l0_1 x3_1).f1.f1), .int .i64 ((rd_T103 l0_1 x3_1).f1.f2), .int .i64 ((rd_T103 l0_1 x3_1).f1.f3)] 103 (0, 0)) (by (with_reducible repeat (first | refine blk_drewN ?_ _ | refine blk_drew ?_ | refine blk_alloc ?_ _)); refine blk_put (cs := #[.int .i64 ((rd_T103 l0_1 x3_1).f0), .int .i64 ((rd_T103 l0_1 x3_1).f1.f0), .int .i64 ((rd_T103 l0_1 x3_1).f1.f1), .int .i64 ((rd_T103 l0_1 x3_1).f1.f2), .int .i64 0]) ?_ 4 _ rfl; (with_reducible repeat (first | refine blk_drewN ?_ _ | refine blk_drew ?_ | refine blk_alloc ?_ _)); refine blk_put (cs := #[.int .i64 ((rd_T103 l0_1 x3_1).f0), .int .i64 ((rd_T103 l0_1 x3_1).f1.f0), .int .i64 ((rd_T103 l0_1 x3_1).f1.f1), .int .i64 0, .int .i64 0]) ?_ 3 _ rfl; (with_reducible repeat (first | refine blk_drewN ?_ _ | refine blk_drew ?_ | refine blk_alloc ?_ _)); refine blk_put (cs := #[.int .i64 ((rd_T103 l0_1 x3_1).f0), .int .i64 ((rd_T103 l0_1 x3_1).f1.f0), .int .i64 0, .int .i64 0, .int .i64 0]) ?_ 2 _ rfl; (with_reducible repeat (first | refine blk_drewN ?_ _ | refine blk_drew ?_ | refine blk_alloc ?_ _)); refine blk_put (cs := #[.int .i64 ((rd_T103 l0_1 x3_1).f0), .int .i64 0, .int .i64 0, .int .i64 0, .int .i64 0]) ?_ 1 _ rfl; (with_reducible repeat (first | refine blk_drewN ?_ _ | refine blk_drew ?_ | refine blk_alloc ?_ _)); refine blk_put (cs := #[.int .i64 0, .int .i64 0, .int .i64 0, .int .i64 0, .int .i64 0]) ?_ 0 _ rfl; (with_reducible repeat (first | refine blk_drewN ?_ _ | refine blk_drew ?_ | refine blk_alloc ?_ _)); exact BK584.out) hb); have n2_ := Aside0.mk (below_step (b2 GE582.out GE584.out HB.out) hb); clear BK582; clear BK584; clear HB; have BK582 := n0_; have BK584 := n1_; have HB := n2_; clear n0_ n1_ n2_; (try clear hb); (try clear hb2); (try clear hk); (try clear hi); have hcz24_0 := fz BK582.out 0 (.bool true); have hcz24_1 := fz BK582.out 1 (.slice (some ad583) l0_1.length c0_1); have hfz24_0 := blk_frozen BK582.out 0; have hfz24_1 := blk_frozen BK582.out 1; have hcz25_0 : w23.cell? ⟨gb584, 0, none⟩ = some (.int .i64 ((rd_T103 l0_1 x3_1).f0)) := (blk_cell BK584.out 0).trans rfl; have hcz25_1 : w23.cell? ⟨gb584, 1, none⟩ = some (.int .i64 ((rd_T103 l0_1 x3_1).f1.f0)) := (blk_cell BK584.out 1).trans rfl; have hcz25_2 : w23.cell? ⟨gb584, 2, none⟩ = some (.int .i64 ((rd_T103 l0_1 x3_1).f1.f1)) := (blk_cell BK584.out 2).trans rfl; have hcz25_3 : w23.cell? ⟨gb584, 3, none⟩ = some (.int .i64 ((rd_T103 l0_1 x3_1).f1.f2)) := (blk_cell BK584.out 3).trans rfl; have hcz25_4 : w23.cell? ⟨gb584, 4, none⟩ = some (.int .i64 ((rd_T103 l0_1 x3_1).f1.f3)) := (blk_cell BK584.out 4).trans rfl; have hfz25_0 := blk_frozen BK584.out 0; have hfz25_1 := blk_frozen BK584.out 1; have hfz25_2 := blk_frozen BK584.out 2; have hfz25_3 := blk_frozen BK584.out 3; have hfz25_4 := blk_frozen BK584.out 4) | (go_at_call 125; (with_reducible refine (spec_EntryAt.calls k1 _ _ l0_1 ((rd_T103 l0_1 x3_1).f0) t586 _ ?side1 ?side2 A7.out).mono ?_); (case side1 => exact sz HR0_1.out HB.out); (case side2 => exact HC0_1.out); rintro e w' ⟨rfl, ⟨nd, rfl⟩⟩) | (go_at_call 72; (with_reducible refine (spec_l1In.calls ((rd_T103 l0_1 x3_1).f0) 1 999 false _ A10.out).mono ?_); rintro e w' ⟨rfl, ⟨nd, rfl⟩⟩))
                  go_ret; exact ⟨ez, b2 GE582.out GE584.out HB.out⟩
              · replace c9 := Bool.eq_false_iff.mpr c9
                subst c9; replace H : ((spec_l1In.f ((rd_T103 l0_1 x3_1).f0) 0 47).bind fun t588 => (if t588 = true then (spec_NodeOk.l0 k1 (wrap64 (x3_1 + 1)) false l0_1) else (some false))) = some r := (by rw [if_neg (show ¬ (false = true) by decide)] at H; exact H); replace H := Option.bind_eq_some_iff.mp H; obtain ⟨t588, A260, H⟩ := H; replace H : (if t588 = true then (spec_NodeOk.l0 k1 (wrap64 (x3_1 + 1)) false l0_1) else (some false)) = some r := H; have A26 := Aside0.mk A260; clear A260
                by_cases c27 : t588 = true
                · subst c27
                  replace H : (spec_NodeOk.l0 k1 (wrap64 (x3_1 + 1)) false l0_1) = some r := (by rw [if_pos rfl] at H; exact H); have H' := Aside0.mk H; clear H; have hcz28_0 := fz BK582.out 0 (.bool false); have hcz28_1 := fz BK582.out 1 (.slice A0_1 l0_1.length c0_1); have hfz28_0 := blk_frozen BK582.out 0; have hfz28_1 := blk_frozen BK582.out 1; have p583 : 0 ≤ (x3_1 : Int) := of_decide_eq_true uz; have q583 : x3_1 < (l0_1.length : Int) := of_decide_eq_true uz; obtain ⟨ad583, e583, hx583_0, hx583_1, hx583_2, hx583_3, hx583_4⟩ := at_T103 HR0_1.out x3_1 p583 q583
                  cases e583
                  replace hx583_0 := cz HB.out hx583_0; replace hx583_1 := cz HB.out hx583_1; replace hx583_2 := cz HB.out hx583_2; replace hx583_3 := cz HB.out hx583_3; replace hx583_4 := cz HB.out hx583_4; replace p583 := eq_true p583; replace q583 := eq_true q583
                  go_wp2_with (first | ((with_reducible refine gate_dst (N := 4) rfl ?_); (try (refine gate_guard (by rfl) ?_; dsimp only)); refine box_event ?hg (N := 4) ?hd (cs := #[.int .i64 0, .int .i64 0, .int .i64 0, .int .i64 0, .int .i64 0]) (t := 103) ?hr ?_; (case hd => rfl); (case hg => rfl); (case hr => first | (go_simp; done) | (go_simp; rfl)); intro gb584 hg w29 hbox hb; have n0_ := Aside0.mk (blk_below (g := gb582) (o := .cells #[.bool false, .slice (some ad583) l0_1.length c0_1] 54 (0, 0)) (kz BK582.out) hb); have n1_ := Aside0.mk (below_step (b1 GE582.out HB.out) hb); have n2_ := Aside0.mk (hbox); have n3_ := Aside0.mk ((by rw [hg]; exact (below_size (b1 GE582.out HB.out)) : w.heap.size ≤ gb584)); have n4_ := Aside0.mk ((by rw [hg]; exact (below_size (b1 GE582.out HB.out)) : w.heap.size ≤ gb584)); have n5_ := Aside0.mk ((by rw [hg]; exact Nat.ne_of_lt (blk_lt (g := gb582) (o := .cells #[.bool false, .slice (some ad583) l0_1.length c0_1] 54 (0, 0)) (kz BK582.out)) : gb582 ≠ gb584)); have n6_ := Aside0.mk ((by rw [hg]; exact Nat.ne_of_gt (blk_lt (g := gb582) (o := .cells #[.bool false, .slice (some ad583) l0_1.length c0_1] 54 (0, 0)) (kz BK582.out)) : gb584 ≠ gb582)); clear BK582; clear HB; have BK582 := n0_; have HB := n1_; have BK584 := n2_; have GW584 := n3_; have GE584 := n4_; have NB582_584 := n5_; have NB584_582 := n6_; clear n0_ n1_ n2_ n3_ n4_ n5_ n6_; clear hb hbox hg; have hnb30 := NB584_582.out; have hnc30 := NB582_584.out; have hcz31_0 := fz BK584.out 0 (.int .i64 0); have hcz31_1 := fz BK584.out 1 (.int .i64 0); have hcz31_2 := fz BK584.out 2 (.int .i64 0); have hcz31_3 := fz BK584.out 3 (.int .i64 0); have hcz31_4 := fz BK584.out 4 (.int .i64 0); have hfz31_0 := blk_frozen BK584.out 0; have hfz31_1 := blk_frozen BK584.out 1; have hfz31_2 := blk_frozen BK584.out 2; have hfz31_3 := blk_frozen BK584.out 3; have hfz31_4 := blk_frozen BK584.out 4) | ((with_reducible refine gate_callee (f := 111) rfl ?_); refine goesL_ (some 19) rfl rfl Try.func111 (by kernel_rfl) rfl #[.agg #[.int .i64 ((rd_T103 l0_1 x3_1).f1.f0), .int .i64 ((rd_T103 l0_1 x3_1).f1.f1), .int .i64 ((rd_T103 l0_1 x3_1).f1.f2), .int .i64 ((rd_T103 l0_1 x3_1).f1.f3)]] rfl dz ?_; (with_reducible refine (spec_BoxOk.calls ((rd_T103 l0_1 x3_1).f1.f0) ((rd_T103 l0_1 x3_1).f1.f1) ((rd_T103 l0_1 x3_1).f1.f2) ((rd_T103 l0_1 x3_1).f1.f3) true _ A5.out).mono ?_); rintro e w32 ⟨rfl, hb⟩; refine ⟨_, rfl, ?_⟩; have n0_ := Aside0.mk (blk_below (g := gb582) (o := .cells #[.bool false, .slice (some ad583) l0_1.length c0_1] 54 (0, 0)) (by (with_reducible repeat (first | refine blk_drewN ?_ _ | refine blk_drew ?_ | refine blk_alloc ?_ _)); refine blk_far ?_ NB582_584.out _; (with_reducible repeat (first | refine blk_drewN ?_ _ | refine blk_drew ?_ | refine blk_alloc ?_ _)); refine blk_far ?_ NB582_584.out _; (with_reducible repeat (first | refine blk_drewN ?_ _ | refine blk_drew ?_ | refine blk_alloc ?_ _)); refine blk_far ?_ NB582_584.out _; (with_reducible repeat (first | refine blk_drewN ?_ _ | refine blk_drew ?_ | refine blk_alloc ?_ _)); refine blk_far ?_ NB582_584.out _; (with_reducible repeat (first | refine blk_drewN ?_ _ | refine blk_drew ?_ | refine blk_alloc ?_ _)); refine blk_far ?_ NB582_584.out _; (with_reducible repeat (first | refine blk_drewN ?_ _ | refine blk_drew ?_ | refine blk_alloc ?_ _)); exact BK582.out) hb); have n1_ := Aside0.mk (blk_below (g := gb584) (o := .cells #[.int .i64 ((rd_T103 l0_1 x3_1).f0), .int .i64 ((rd_T103 l0_1 x3_1).f1.f0), .int .i64 ((rd_T103 l0_1 x3_1).f1.f1), .int .i64 ((rd_T103 l0_1 x3_1).f1.f2), .int .i64 ((rd_T103 l0_1 x3_1).f1.f3)] 103 (0, 0)) (by (with_reducible repeat (first | refine blk_drewN ?_ _ | refine blk_drew ?_ | refine blk_alloc ?_ _)); refine blk_put (cs := #[.int .i64 ((rd_T103 l0_1 x3_1).f0), .int .i64 ((rd_T103 l0_1 x3_1).f1.f0), .int .i64 ((rd_T103 l0_1 x3_1).f1.f1), .int .i64 ((rd_T103 l0_1 x3_1).f1.f2), .int .i64 0]) ?_ 4 _ rfl; (with_reducible repeat (first | refine blk_drewN ?_ _ | refine blk_drew ?_ | refine blk_alloc ?_ _)); refine blk_put (cs := #[.int .i64 ((rd_T103 l0_1 x3_1).f0), .int .i64 ((rd_T103 l0_1 x3_1).f1.f0), .int .i64 ((rd_T103 l0_1 x3_1).f1.f1), .int .i64 0, .int .i64 0]) ?_ 3 _ rfl; (with_reducible repeat (first | refine blk_drewN ?_ _ | refine blk_drew ?_ | refine blk_alloc ?_ _)); refine blk_put (cs := #[.int .i64 ((rd_T103 l0_1 x3_1).f0), .int .i64 ((rd_T103 l0_1 x3_1).f1.f0), .int .i64 0, .int .i64 0, .int .i64 0]) ?_ 2 _ rfl; (with_reducible repeat (first | refine blk_drewN ?_ _ | refine blk_drew ?_ | refine blk_alloc ?_ _)); refine blk_put (cs := #[.int .i64 ((rd_T103 l0_1 x3_1).f0), .int .i64 0, .int .i64 0, .int .i64 0, .int .i64 0]) ?_ 1 _ rfl; (with_reducible repeat (first | refine blk_drewN ?_ _ | refine blk_drew ?_ | refine blk_alloc ?_ _)); refine blk_put (cs := #[.int .i64 0, .int .i64 0, .int .i64 0, .int .i64 0, .int .i64 0]) ?_ 0 _ rfl; (with_reducible repeat (first | refine blk_drewN ?_ _ | refine blk_drew ?_ | refine blk_alloc ?_ _)); exact BK584.out) hb); have n2_ := Aside0.mk (below_step (b2 GE582.out GE584.out HB.out) hb); clear BK582; clear BK584; clear HB; have BK582 := n0_; have BK584 := n1_; have HB := n2_; clear n0_ n1_ n2_; (try clear hb); (try clear hb2); (try clear hk); (try clear hi); have hcz33_0 := fz BK582.out 0 (.bool false); have hcz33_1 := fz BK582.out 1 (.slice (some ad583) l0_1.length c0_1); have hfz33_0 := blk_frozen BK582.out 0; have hfz33_1 := blk_frozen BK582.out 1; have hcz34_0 : w32.cell? ⟨gb584, 0, none⟩ = some (.int .i64 ((rd_T103 l0_1 x3_1).f0)) := (blk_cell BK584.out 0).trans rfl; have hcz34_1 : w32.cell? ⟨gb584, 1, none⟩ = some (.int .i64 ((rd_T103 l0_1 x3_1).f1.f0)) := (blk_cell BK584.out 1).trans rfl; have hcz34_2 : w32.cell? ⟨gb584, 2, none⟩ = some (.int .i64 ((rd_T103 l0_1 x3_1).f1.f1)) := (blk_cell BK584.out 2).trans rfl; have hcz34_3 : w32.cell? ⟨gb584, 3, none⟩ = some (.int .i64 ((rd_T103 l0_1 x3_1).f1.f2)) := (blk_cell BK584.out 3).trans rfl; have hcz34_4 : w32.cell? ⟨gb584, 4, none⟩ = some (.int .i64 ((rd_T103 l0_1 x3_1).f1.f3)) := (blk_cell BK584.out 4).trans rfl; have hfz34_0 := blk_frozen BK584.out 0; have hfz34_1 := blk_frozen BK584.out 1; have hfz34_2 := blk_frozen BK584.out 2; have hfz34_3 := blk_frozen BK584.out 3; have hfz34_4 := blk_frozen BK584.out 4) | (go_at_call 125; (with_reducible refine (spec_EntryAt.calls k1 _ _ l0_1 ((rd_T103 l0_1 x3_1).f0) t586 _ ?side1 ?side2 A7.out).mono ?_); (case side1 => exact sz HR0_1.out HB.out); (case side2 => exact HC0_1.out); rintro e w' ⟨rfl, ⟨nd, rfl⟩⟩) | (go_at_call 72; (with_reducible refine (spec_l1In.calls ((rd_T103 l0_1 x3_1).f0) 0 47 true _ A26.out).mono ?_); rintro e w' ⟨rfl, ⟨nd, rfl⟩⟩))
                  go_roundg k1
                  case measure => have := HK1.out; omega
                  case rel => exact ⟨(wrap64 (x3_1 + 1)), az, H', ⟨by have := HK1.out; omega⟩, ⟨kz BK582.out⟩, ⟨b2 GE582.out GE584.out HB.out⟩⟩
                · replace c27 := Bool.eq_false_iff.mpr c27
                  subst c27; replace H : (some false) = some r := (by rw [if_neg (show ¬ (false = true) by decide)] at H; exact H); obtain rfl := Option.some.inj H; have hcz35_0 := fz BK582.out 0 (.bool false); have hcz35_1 := fz BK582.out 1 (.slice A0_1 l0_1.length c0_1); have hfz35_0 := blk_frozen BK582.out 0; have hfz35_1 := blk_frozen BK582.out 1; have p583 : 0 ≤ (x3_1 : Int) := of_decide_eq_true uz; have q583 : x3_1 < (l0_1.length : Int) := of_decide_eq_true uz; obtain ⟨ad583, e583, hx583_0, hx583_1, hx583_2, hx583_3, hx583_4⟩ := at_T103 HR0_1.out x3_1 p583 q583
                  cases e583
                  replace hx583_0 := cz HB.out hx583_0; replace hx583_1 := cz HB.out hx583_1; replace hx583_2 := cz HB.out hx583_2; replace hx583_3 := cz HB.out hx583_3; replace hx583_4 := cz HB.out hx583_4; replace p583 := eq_true p583; replace q583 := eq_true q583
                  go_wp2_with (first | ((with_reducible refine gate_dst (N := 4) rfl ?_); (try (refine gate_guard (by rfl) ?_; dsimp only)); refine box_event ?hg (N := 4) ?hd (cs := #[.int .i64 0, .int .i64 0, .int .i64 0, .int .i64 0, .int .i64 0]) (t := 103) ?hr ?_; (case hd => rfl); (case hg => rfl); (case hr => first | (go_simp; done) | (go_simp; rfl)); intro gb584 hg w36 hbox hb; have n0_ := Aside0.mk (blk_below (g := gb582) (o := .cells #[.bool false, .slice (some ad583) l0_1.length c0_1] 54 (0, 0)) (kz BK582.out) hb); have n1_ := Aside0.mk (below_step (b1 GE582.out HB.out) hb); have n2_ := Aside0.mk (hbox); have n3_ := Aside0.mk ((by rw [hg]; exact (below_size (b1 GE582.out HB.out)) : w.heap.size ≤ gb584)); have n4_ := Aside0.mk ((by rw [hg]; exact (below_size (b1 GE582.out HB.out)) : w.heap.size ≤ gb584)); have n5_ := Aside0.mk ((by rw [hg]; exact Nat.ne_of_lt (blk_lt (g := gb582) (o := .cells #[.bool false, .slice (some ad583) l0_1.length c0_1] 54 (0, 0)) (kz BK582.out)) : gb582 ≠ gb584)); have n6_ := Aside0.mk ((by rw [hg]; exact Nat.ne_of_gt (blk_lt (g := gb582) (o := .cells #[.bool false, .slice (some ad583) l0_1.length c0_1] 54 (0, 0)) (kz BK582.out)) : gb584 ≠ gb582)); clear BK582; clear HB; have BK582 := n0_; have HB := n1_; have BK584 := n2_; have GW584 := n3_; have GE584 := n4_; have NB582_584 := n5_; have NB584_582 := n6_; clear n0_ n1_ n2_ n3_ n4_ n5_ n6_; clear hb hbox hg; have hnb37 := NB584_582.out; have hnc37 := NB582_584.out; have hcz38_0 := fz BK584.out 0 (.int .i64 0); have hcz38_1 := fz BK584.out 1 (.int .i64 0); have hcz38_2 := fz BK584.out 2 (.int .i64 0); have hcz38_3 := fz BK584.out 3 (.int .i64 0); have hcz38_4 := fz BK584.out 4 (.int .i64 0); have hfz38_0 := blk_frozen BK584.out 0; have hfz38_1 := blk_frozen BK584.out 1; have hfz38_2 := blk_frozen BK584.out 2; have hfz38_3 := blk_frozen BK584.out 3; have hfz38_4 := blk_frozen BK584.out 4) | ((with_reducible refine gate_callee (f := 111) rfl ?_); refine goesL_ (some 19) rfl rfl Try.func111 (by kernel_rfl) rfl #[.agg #[.int .i64 ((rd_T103 l0_1 x3_1).f1.f0), .int .i64 ((rd_T103 l0_1 x3_1).f1.f1), .int .i64 ((rd_T103 l0_1 x3_1).f1.f2), .int .i64 ((rd_T103 l0_1 x3_1).f1.f3)]] rfl dz ?_; (with_reducible refine (spec_BoxOk.calls ((rd_T103 l0_1 x3_1).f1.f0) ((rd_T103 l0_1 x3_1).f1.f1) ((rd_T103 l0_1 x3_1).f1.f2) ((rd_T103 l0_1 x3_1).f1.f3) true _ A5.out).mono ?_); rintro e w39 ⟨rfl, hb⟩; refine ⟨_, rfl, ?_⟩; have n0_ := Aside0.mk (blk_below (g := gb582) (o := .cells #[.bool false, .slice (some ad583) l0_1.length c0_1] 54 (0, 0)) (by (with_reducible repeat (first | refine blk_drewN ?_ _ | refine blk_drew ?_ | refine blk_alloc ?_ _)); refine blk_far ?_ NB582_584.out _; (with_reducible repeat (first | refine blk_drewN ?_ _ | refine blk_drew ?_ | refine blk_alloc ?_ _)); refine blk_far ?_ NB582_584.out _; (with_reducible repeat (first | refine blk_drewN ?_ _ | refine blk_drew ?_ | refine blk_alloc ?_ _)); refine blk_far ?_ NB582_584.out _; (with_reducible repeat (first | refine blk_drewN ?_ _ | refine blk_drew ?_ | refine blk_alloc ?_ _)); refine blk_far ?_ NB582_584.out _; (with_reducible repeat (first | refine blk_drewN ?_ _ | refine blk_drew ?_ | refine blk_alloc ?_ _)); refine blk_far ?_ NB582_584.out _; (with_reducible repeat (first | refine blk_drewN ?_ _ | refine blk_drew ?_ | refine blk_alloc ?_ _)); exact BK582.out) hb); have n1_ := Aside0.mk (blk_below (g := gb584) (o := .cells #[.int .i64 ((rd_T103 l0_1 x3_1).f0), .int .i64 ((rd_T103 l0_1 x3_1).f1.f0), .int .i64 ((rd_T103 l0_1 x3_1).f1.f1), .int .i64 ((rd_T103 l0_1 x3_1).f1.f2), .int .i64 ((rd_T103 l0_1 x3_1).f1.f3)] 103 (0, 0)) (by (with_reducible repeat (first | refine blk_drewN ?_ _ | refine blk_drew ?_ | refine blk_alloc ?_ _)); refine blk_put (cs := #[.int .i64 ((rd_T103 l0_1 x3_1).f0), .int .i64 ((rd_T103 l0_1 x3_1).f1.f0), .int .i64 ((rd_T103 l0_1 x3_1).f1.f1), .int .i64 ((rd_T103 l0_1 x3_1).f1.f2), .int .i64 0]) ?_ 4 _ rfl; (with_reducible repeat (first | refine blk_drewN ?_ _ | refine blk_drew ?_ | refine blk_alloc ?_ _)); refine blk_put (cs := #[.int .i64 ((rd_T103 l0_1 x3_1).f0), .int .i64 ((rd_T103 l0_1 x3_1).f1.f0), .int .i64 ((rd_T103 l0_1 x3_1).f1.f1), .int .i64 0, .int .i64 0]) ?_ 3 _ rfl; (with_reducible repeat (first | refine blk_drewN ?_ _ | refine blk_drew ?_ | refine blk_alloc ?_ _)); refine blk_put (cs := #[.int .i64 ((rd_T103 l0_1 x3_1).f0), .int .i64 ((rd_T103 l0_1 x3_1).f1.f0), .int .i64 0, .int .i64 0, .int .i64 0]) ?_ 2 _ rfl; (with_reducible repeat (first | refine blk_drewN ?_ _ | refine blk_drew ?_ | refine blk_alloc ?_ _)); refine blk_put (cs := #[.int .i64 ((rd_T103 l0_1 x3_1).f0), .int .i64 0, .int .i64 0, .int .i64 0, .int .i64 0]) ?_ 1 _ rfl; (with_reducible repeat (first | refine blk_drewN ?_ _ | refine blk_drew ?_ | refine blk_alloc ?_ _)); refine blk_put (cs := #[.int .i64 0, .int .i64 0, .int .i64 0, .int .i64 0, .int .i64 0]) ?_ 0 _ rfl; (with_reducible repeat (first | refine blk_drewN ?_ _ | refine blk_drew ?_ | refine blk_alloc ?_ _)); exact BK584.out) hb); have n2_ := Aside0.mk (below_step (b2 GE582.out GE584.out HB.out) hb); clear BK582; clear BK584; clear HB; have BK582 := n0_; have BK584 := n1_; have HB := n2_; clear n0_ n1_ n2_; (try clear hb); (try clear hb2); (try clear hk); (try clear hi); have hcz40_0 := fz BK582.out 0 (.bool false); have hcz40_1 := fz BK582.out 1 (.slice (some ad583) l0_1.length c0_1); have hfz40_0 := blk_frozen BK582.out 0; have hfz40_1 := blk_frozen BK582.out 1; have hcz41_0 : w39.cell? ⟨gb584, 0, none⟩ = some (.int .i64 ((rd_T103 l0_1 x3_1).f0)) := (blk_cell BK584.out 0).trans rfl; have hcz41_1 : w39.cell? ⟨gb584, 1, none⟩ = some (.int .i64 ((rd_T103 l0_1 x3_1).f1.f0)) := (blk_cell BK584.out 1).trans rfl; have hcz41_2 : w39.cell? ⟨gb584, 2, none⟩ = some (.int .i64 ((rd_T103 l0_1 x3_1).f1.f1)) := (blk_cell BK584.out 2).trans rfl; have hcz41_3 : w39.cell? ⟨gb584, 3, none⟩ = some (.int .i64 ((rd_T103 l0_1 x3_1).f1.f2)) := (blk_cell BK584.out 3).trans rfl; have hcz41_4 : w39.cell? ⟨gb584, 4, none⟩ = some (.int .i64 ((rd_T103 l0_1 x3_1).f1.f3)) := (blk_cell BK584.out 4).trans rfl; have hfz41_0 := blk_frozen BK584.out 0; have hfz41_1 := blk_frozen BK584.out 1; have hfz41_2 := blk_frozen BK584.out 2; have hfz41_3 := blk_frozen BK584.out 3; have hfz41_4 := blk_frozen BK584.out 4) | (go_at_call 125; (with_reducible refine (spec_EntryAt.calls k1 _ _ l0_1 ((rd_T103 l0_1 x3_1).f0) t586 _ ?side1 ?side2 A7.out).mono ?_); (case side1 => exact sz HR0_1.out HB.out); (case side2 => exact HC0_1.out); rintro e w' ⟨rfl, ⟨nd, rfl⟩⟩) | (go_at_call 72; (with_reducible refine (spec_l1In.calls ((rd_T103 l0_1 x3_1).f0) 0 47 false _ A26.out).mono ?_); rintro e w' ⟨rfl, ⟨nd, rfl⟩⟩))
                  go_ret; exact ⟨ez, b2 GE582.out GE584.out HB.out⟩
            · rw [if_neg c8] at H
              have c8b0 : (t586 == x3_1) = false := beq_eq_false_iff_ne.mpr c8; have c8b1 : (t586 != x3_1) = true := bne_iff_ne.mpr c8; obtain rfl := Option.some.inj H; have hcz42_0 := fz BK582.out 0 (.bool a0_0); have hcz42_1 := fz BK582.out 1 (.slice A0_1 l0_1.length c0_1); have hfz42_0 := blk_frozen BK582.out 0; have hfz42_1 := blk_frozen BK582.out 1; have p583 : 0 ≤ (x3_1 : Int) := of_decide_eq_true uz; have q583 : x3_1 < (l0_1.length : Int) := of_decide_eq_true uz; obtain ⟨ad583, e583, hx583_0, hx583_1, hx583_2, hx583_3, hx583_4⟩ := at_T103 HR0_1.out x3_1 p583 q583
              cases e583
              replace hx583_0 := cz HB.out hx583_0; replace hx583_1 := cz HB.out hx583_1; replace hx583_2 := cz HB.out hx583_2; replace hx583_3 := cz HB.out hx583_3; replace hx583_4 := cz HB.out hx583_4; replace p583 := eq_true p583; replace q583 := eq_true q583
              go_wp2_with (first | ((with_reducible refine gate_dst (N := 4) rfl ?_); (try (refine gate_guard (by rfl) ?_; dsimp only)); refine box_event ?hg (N := 4) ?hd (cs := #[.int .i64 0, .int .i64 0, .int .i64 0, .int .i64 0, .int .i64 0]) (t := 103) ?hr ?_; (case hd => rfl); (case hg => rfl); (case hr => first | (go_simp; done) | (go_simp; rfl)); intro gb584 hg w43 hbox hb; have n0_ := Aside0.mk (blk_below (g := gb582) (o := .cells #[.bool a0_0, .slice (some ad583) l0_1.length c0_1] 54 (0, 0)) (kz BK582.out) hb); have n1_ := Aside0.mk (below_step (b1 GE582.out HB.out) hb); have n2_ := Aside0.mk (hbox); have n3_ := Aside0.mk ((by rw [hg]; exact (below_size (b1 GE582.out HB.out)) : w.heap.size ≤ gb584)); have n4_ := Aside0.mk ((by rw [hg]; exact (below_size (b1 GE582.out HB.out)) : w.heap.size ≤ gb584)); have n5_ := Aside0.mk ((by rw [hg]; exact Nat.ne_of_lt (blk_lt (g := gb582) (o := .cells #[.bool a0_0, .slice (some ad583) l0_1.length c0_1] 54 (0, 0)) (kz BK582.out)) : gb582 ≠ gb584)); have n6_ := Aside0.mk ((by rw [hg]; exact Nat.ne_of_gt (blk_lt (g := gb582) (o := .cells #[.bool a0_0, .slice (some ad583) l0_1.length c0_1] 54 (0, 0)) (kz BK582.out)) : gb584 ≠ gb582)); clear BK582; clear HB; have BK582 := n0_; have HB := n1_; have BK584 := n2_; have GW584 := n3_; have GE584 := n4_; have NB582_584 := n5_; have NB584_582 := n6_; clear n0_ n1_ n2_ n3_ n4_ n5_ n6_; clear hb hbox hg; have hnb44 := NB584_582.out; have hnc44 := NB582_584.out; have hcz45_0 := fz BK584.out 0 (.int .i64 0); have hcz45_1 := fz BK584.out 1 (.int .i64 0); have hcz45_2 := fz BK584.out 2 (.int .i64 0); have hcz45_3 := fz BK584.out 3 (.int .i64 0); have hcz45_4 := fz BK584.out 4 (.int .i64 0); have hfz45_0 := blk_frozen BK584.out 0; have hfz45_1 := blk_frozen BK584.out 1; have hfz45_2 := blk_frozen BK584.out 2; have hfz45_3 := blk_frozen BK584.out 3; have hfz45_4 := blk_frozen BK584.out 4) | ((with_reducible refine gate_callee (f := 111) rfl ?_); refine goesL_ (some 19) rfl rfl Try.func111 (by kernel_rfl) rfl #[.agg #[.int .i64 ((rd_T103 l0_1 x3_1).f1.f0), .int .i64 ((rd_T103 l0_1 x3_1).f1.f1), .int .i64 ((rd_T103 l0_1 x3_1).f1.f2), .int .i64 ((rd_T103 l0_1 x3_1).f1.f3)]] rfl dz ?_; (with_reducible refine (spec_BoxOk.calls ((rd_T103 l0_1 x3_1).f1.f0) ((rd_T103 l0_1 x3_1).f1.f1) ((rd_T103 l0_1 x3_1).f1.f2) ((rd_T103 l0_1 x3_1).f1.f3) true _ A5.out).mono ?_); rintro e w46 ⟨rfl, hb⟩; refine ⟨_, rfl, ?_⟩; have n0_ := Aside0.mk (blk_below (g := gb582) (o := .cells #[.bool a0_0, .slice (some ad583) l0_1.length c0_1] 54 (0, 0)) (by (with_reducible repeat (first | refine blk_drewN ?_ _ | refine blk_drew ?_ | refine blk_alloc ?_ _)); refine blk_far ?_ NB582_584.out _; (with_reducible repeat (first | refine blk_drewN ?_ _ | refine blk_drew ?_ | refine blk_alloc ?_ _)); refine blk_far ?_ NB582_584.out _; (with_reducible repeat (first | refine blk_drewN ?_ _ | refine blk_drew ?_ | refine blk_alloc ?_ _)); refine blk_far ?_ NB582_584.out _; (with_reducible repeat (first | refine blk_drewN ?_ _ | refine blk_drew ?_ | refine blk_alloc ?_ _)); refine blk_far ?_ NB582_584.out _; (with_reducible repeat (first | refine blk_drewN ?_ _ | refine blk_drew ?_ | refine blk_alloc ?_ _)); refine blk_far ?_ NB582_584.out _; (with_reducible repeat (first | refine blk_drewN ?_ _ | refine blk_drew ?_ | refine blk_alloc ?_ _)); exact BK582.out) hb); have n1_ := Aside0.mk (blk_below (g := gb584) (o := .cells #[.int .i64 ((rd_T103 l0_1 x3_1).f0), .int .i64 ((rd_T103 l0_1 x3_1).f1.f0), .int .i64 ((rd_T103 l0_1 x3_1).f1.f1), .int .i64 ((rd_T103 l0_1 x3_1).f1.f2), .int .i64 ((rd_T103 l0_1 x3_1).f1.f3)] 103 (0, 0)) (by (with_reducible repeat (first | refine blk_drewN ?_ _ | refine blk_drew ?_ | refine blk_alloc ?_ _)); refine blk_put (cs := #[.int .i64 ((rd_T103 l0_1 x3_1).f0), .int .i64 ((rd_T103 l0_1 x3_1).f1.f0), .int .i64 ((rd_T103 l0_1 x3_1).f1.f1), .int .i64 ((rd_T103 l0_1 x3_1).f1.f2), .int .i64 0]) ?_ 4 _ rfl; (with_reducible repeat (first | refine blk_drewN ?_ _ | refine blk_drew ?_ | refine blk_alloc ?_ _)); refine blk_put (cs := #[.int .i64 ((rd_T103 l0_1 x3_1).f0), .int .i64 ((rd_T103 l0_1 x3_1).f1.f0), .int .i64 ((rd_T103 l0_1 x3_1).f1.f1), .int .i64 0, .int .i64 0]) ?_ 3 _ rfl; (with_reducible repeat (first | refine blk_drewN ?_ _ | refine blk_drew ?_ | refine blk_alloc ?_ _)); refine blk_put (cs := #[.int .i64 ((rd_T103 l0_1 x3_1).f0), .int .i64 ((rd_T103 l0_1 x3_1).f1.f0), .int .i64 0, .int .i64 0, .int .i64 0]) ?_ 2 _ rfl; (with_reducible repeat (first | refine blk_drewN ?_ _ | refine blk_drew ?_ | refine blk_alloc ?_ _)); refine blk_put (cs := #[.int .i64 ((rd_T103 l0_1 x3_1).f0), .int .i64 0, .int .i64 0, .int .i64 0, .int .i64 0]) ?_ 1 _ rfl; (with_reducible repeat (first | refine blk_drewN ?_ _ | refine blk_drew ?_ | refine blk_alloc ?_ _)); refine blk_put (cs := #[.int .i64 0, .int .i64 0, .int .i64 0, .int .i64 0, .int .i64 0]) ?_ 0 _ rfl; (with_reducible repeat (first | refine blk_drewN ?_ _ | refine blk_drew ?_ | refine blk_alloc ?_ _)); exact BK584.out) hb); have n2_ := Aside0.mk (below_step (b2 GE582.out GE584.out HB.out) hb); clear BK582; clear BK584; clear HB; have BK582 := n0_; have BK584 := n1_; have HB := n2_; clear n0_ n1_ n2_; (try clear hb); (try clear hb2); (try clear hk); (try clear hi); have hcz47_0 := fz BK582.out 0 (.bool a0_0); have hcz47_1 := fz BK582.out 1 (.slice (some ad583) l0_1.length c0_1); have hfz47_0 := blk_frozen BK582.out 0; have hfz47_1 := blk_frozen BK582.out 1; have hcz48_0 : w46.cell? ⟨gb584, 0, none⟩ = some (.int .i64 ((rd_T103 l0_1 x3_1).f0)) := (blk_cell BK584.out 0).trans rfl; have hcz48_1 : w46.cell? ⟨gb584, 1, none⟩ = some (.int .i64 ((rd_T103 l0_1 x3_1).f1.f0)) := (blk_cell BK584.out 1).trans rfl; have hcz48_2 : w46.cell? ⟨gb584, 2, none⟩ = some (.int .i64 ((rd_T103 l0_1 x3_1).f1.f1)) := (blk_cell BK584.out 2).trans rfl; have hcz48_3 : w46.cell? ⟨gb584, 3, none⟩ = some (.int .i64 ((rd_T103 l0_1 x3_1).f1.f2)) := (blk_cell BK584.out 3).trans rfl; have hcz48_4 : w46.cell? ⟨gb584, 4, none⟩ = some (.int .i64 ((rd_T103 l0_1 x3_1).f1.f3)) := (blk_cell BK584.out 4).trans rfl; have hfz48_0 := blk_frozen BK584.out 0; have hfz48_1 := blk_frozen BK584.out 1; have hfz48_2 := blk_frozen BK584.out 2; have hfz48_3 := blk_frozen BK584.out 3; have hfz48_4 := blk_frozen BK584.out 4) | (go_at_call 125; (with_reducible refine (spec_EntryAt.calls k1 _ _ l0_1 ((rd_T103 l0_1 x3_1).f0) t586 _ ?side1 ?side2 A7.out).mono ?_); (case side1 => exact sz HR0_1.out HB.out); (case side2 => exact HC0_1.out); rintro e w' ⟨rfl, ⟨nd, rfl⟩⟩))
              go_ret; exact ⟨ez, b2 GE582.out GE584.out HB.out⟩
          · replace c6 := Bool.eq_false_iff.mpr c6
            subst c6; replace H : (some false) = some r := (by rw [if_neg (show ¬ (false = true) by decide)] at H; exact H); obtain rfl := Option.some.inj H; have hcz49_0 := fz BK582.out 0 (.bool a0_0); have hcz49_1 := fz BK582.out 1 (.slice A0_1 l0_1.length c0_1); have hfz49_0 := blk_frozen BK582.out 0; have hfz49_1 := blk_frozen BK582.out 1; have p583 : 0 ≤ (x3_1 : Int) := of_decide_eq_true uz; have q583 : x3_1 < (l0_1.length : Int) := of_decide_eq_true uz; obtain ⟨ad583, e583, hx583_0, hx583_1, hx583_2, hx583_3, hx583_4⟩ := at_T103 HR0_1.out x3_1 p583 q583
            cases e583
            replace hx583_0 := cz HB.out hx583_0; replace hx583_1 := cz HB.out hx583_1; replace hx583_2 := cz HB.out hx583_2; replace hx583_3 := cz HB.out hx583_3; replace hx583_4 := cz HB.out hx583_4; replace p583 := eq_true p583; replace q583 := eq_true q583
            go_wp2_with (first | ((with_reducible refine gate_dst (N := 4) rfl ?_); (try (refine gate_guard (by rfl) ?_; dsimp only)); refine box_event ?hg (N := 4) ?hd (cs := #[.int .i64 0, .int .i64 0, .int .i64 0, .int .i64 0, .int .i64 0]) (t := 103) ?hr ?_; (case hd => rfl); (case hg => rfl); (case hr => first | (go_simp; done) | (go_simp; rfl)); intro gb584 hg w50 hbox hb; have n0_ := Aside0.mk (blk_below (g := gb582) (o := .cells #[.bool a0_0, .slice (some ad583) l0_1.length c0_1] 54 (0, 0)) (kz BK582.out) hb); have n1_ := Aside0.mk (below_step (b1 GE582.out HB.out) hb); have n2_ := Aside0.mk (hbox); have n3_ := Aside0.mk ((by rw [hg]; exact (below_size (b1 GE582.out HB.out)) : w.heap.size ≤ gb584)); have n4_ := Aside0.mk ((by rw [hg]; exact (below_size (b1 GE582.out HB.out)) : w.heap.size ≤ gb584)); have n5_ := Aside0.mk ((by rw [hg]; exact Nat.ne_of_lt (blk_lt (g := gb582) (o := .cells #[.bool a0_0, .slice (some ad583) l0_1.length c0_1] 54 (0, 0)) (kz BK582.out)) : gb582 ≠ gb584)); have n6_ := Aside0.mk ((by rw [hg]; exact Nat.ne_of_gt (blk_lt (g := gb582) (o := .cells #[.bool a0_0, .slice (some ad583) l0_1.length c0_1] 54 (0, 0)) (kz BK582.out)) : gb584 ≠ gb582)); clear BK582; clear HB; have BK582 := n0_; have HB := n1_; have BK584 := n2_; have GW584 := n3_; have GE584 := n4_; have NB582_584 := n5_; have NB584_582 := n6_; clear n0_ n1_ n2_ n3_ n4_ n5_ n6_; clear hb hbox hg; have hnb51 := NB584_582.out; have hnc51 := NB582_584.out; have hcz52_0 := fz BK584.out 0 (.int .i64 0); have hcz52_1 := fz BK584.out 1 (.int .i64 0); have hcz52_2 := fz BK584.out 2 (.int .i64 0); have hcz52_3 := fz BK584.out 3 (.int .i64 0); have hcz52_4 := fz BK584.out 4 (.int .i64 0); have hfz52_0 := blk_frozen BK584.out 0; have hfz52_1 := blk_frozen BK584.out 1; have hfz52_2 := blk_frozen BK584.out 2; have hfz52_3 := blk_frozen BK584.out 3; have hfz52_4 := blk_frozen BK584.out 4) | ((with_reducible refine gate_callee (f := 111) rfl ?_); refine goesL_ (some 19) rfl rfl Try.func111 (by kernel_rfl) rfl #[.agg #[.int .i64 ((rd_T103 l0_1 x3_1).f1.f0), .int .i64 ((rd_T103 l0_1 x3_1).f1.f1), .int .i64 ((rd_T103 l0_1 x3_1).f1.f2), .int .i64 ((rd_T103 l0_1 x3_1).f1.f3)]] rfl dz ?_; (with_reducible refine (spec_BoxOk.calls ((rd_T103 l0_1 x3_1).f1.f0) ((rd_T103 l0_1 x3_1).f1.f1) ((rd_T103 l0_1 x3_1).f1.f2) ((rd_T103 l0_1 x3_1).f1.f3) false _ A5.out).mono ?_); rintro e w53 ⟨rfl, hb⟩; refine ⟨_, rfl, ?_⟩; have n0_ := Aside0.mk (blk_below (g := gb582) (o := .cells #[.bool a0_0, .slice (some ad583) l0_1.length c0_1] 54 (0, 0)) (by (with_reducible repeat (first | refine blk_drewN ?_ _ | refine blk_drew ?_ | refine blk_alloc ?_ _)); refine blk_far ?_ NB582_584.out _; (with_reducible repeat (first | refine blk_drewN ?_ _ | refine blk_drew ?_ | refine blk_alloc ?_ _)); refine blk_far ?_ NB582_584.out _; (with_reducible repeat (first | refine blk_drewN ?_ _ | refine blk_drew ?_ | refine blk_alloc ?_ _)); refine blk_far ?_ NB582_584.out _; (with_reducible repeat (first | refine blk_drewN ?_ _ | refine blk_drew ?_ | refine blk_alloc ?_ _)); refine blk_far ?_ NB582_584.out _; (with_reducible repeat (first | refine blk_drewN ?_ _ | refine blk_drew ?_ | refine blk_alloc ?_ _)); refine blk_far ?_ NB582_584.out _; (with_reducible repeat (first | refine blk_drewN ?_ _ | refine blk_drew ?_ | refine blk_alloc ?_ _)); exact BK582.out) hb); have n1_ := Aside0.mk (blk_below (g := gb584) (o := .cells #[.int .i64 ((rd_T103 l0_1 x3_1).f0), .int .i64 ((rd_T103 l0_1 x3_1).f1.f0), .int .i64 ((rd_T103 l0_1 x3_1).f1.f1), .int .i64 ((rd_T103 l0_1 x3_1).f1.f2), .int .i64 ((rd_T103 l0_1 x3_1).f1.f3)] 103 (0, 0)) (by (with_reducible repeat (first | refine blk_drewN ?_ _ | refine blk_drew ?_ | refine blk_alloc ?_ _)); refine blk_put (cs := #[.int .i64 ((rd_T103 l0_1 x3_1).f0), .int .i64 ((rd_T103 l0_1 x3_1).f1.f0), .int .i64 ((rd_T103 l0_1 x3_1).f1.f1), .int .i64 ((rd_T103 l0_1 x3_1).f1.f2), .int .i64 0]) ?_ 4 _ rfl; (with_reducible repeat (first | refine blk_drewN ?_ _ | refine blk_drew ?_ | refine blk_alloc ?_ _)); refine blk_put (cs := #[.int .i64 ((rd_T103 l0_1 x3_1).f0), .int .i64 ((rd_T103 l0_1 x3_1).f1.f0), .int .i64 ((rd_T103 l0_1 x3_1).f1.f1), .int .i64 0, .int .i64 0]) ?_ 3 _ rfl; (with_reducible repeat (first | refine blk_drewN ?_ _ | refine blk_drew ?_ | refine blk_alloc ?_ _)); refine blk_put (cs := #[.int .i64 ((rd_T103 l0_1 x3_1).f0), .int .i64 ((rd_T103 l0_1 x3_1).f1.f0), .int .i64 0, .int .i64 0, .int .i64 0]) ?_ 2 _ rfl; (with_reducible repeat (first | refine blk_drewN ?_ _ | refine blk_drew ?_ | refine blk_alloc ?_ _)); refine blk_put (cs := #[.int .i64 ((rd_T103 l0_1 x3_1).f0), .int .i64 0, .int .i64 0, .int .i64 0, .int .i64 0]) ?_ 1 _ rfl; (with_reducible repeat (first | refine blk_drewN ?_ _ | refine blk_drew ?_ | refine blk_alloc ?_ _)); refine blk_put (cs := #[.int .i64 0, .int .i64 0, .int .i64 0, .int .i64 0, .int .i64 0]) ?_ 0 _ rfl; (with_reducible repeat (first | refine blk_drewN ?_ _ | refine blk_drew ?_ | refine blk_alloc ?_ _)); exact BK584.out) hb); have n2_ := Aside0.mk (below_step (b2 GE582.out GE584.out HB.out) hb); clear BK582; clear BK584; clear HB; have BK582 := n0_; have BK584 := n1_; have HB := n2_; clear n0_ n1_ n2_; (try clear hb); (try clear hb2); (try clear hk); (try clear hi)))
            go_ret; exact ⟨ez, b2 GE582.out GE584.out HB.out⟩
        · rw [if_neg c4] at H
          exact absurd H (by simp)
      · rw [if_neg c3] at H
        have c3b0 : decide (x3_1 < (l0_1.length : Int)) = false := decide_eq_false c3; clear c3
        by_cases c54 : (l0_1.length : Int) ≤ 4
        · rw [if_pos c54] at H
          have c54b0 : decide ((l0_1.length : Int) ≤ 4) = true := decide_eq_true c54; have c54b1 : decide (l0_1.length ≤ 4) = true := decide_eq_true (by omega); clear c54
          by_cases c55 : a0_0 = true
          · subst c55
            replace H : (some true) = some r := (by rw [if_pos rfl] at H; exact H); obtain rfl := Option.some.inj H; have hcz56_0 := fz BK582.out 0 (.bool true); have hcz56_1 := fz BK582.out 1 (.slice A0_1 l0_1.length c0_1); have hfz56_0 := blk_frozen BK582.out 0; have hfz56_1 := blk_frozen BK582.out 1; go_wp2; go_ret; exact ⟨ez, b1 GE582.out HB.out⟩
          · replace c55 := Bool.eq_false_iff.mpr c55
            subst c55; replace H : (some (decide ((l0_1.length : Int) > 0))) = some r := (by rw [if_neg (show ¬ (false = true) by decide)] at H; exact H); obtain rfl := Option.some.inj H; have hcz57_0 := fz BK582.out 0 (.bool false); have hcz57_1 := fz BK582.out 1 (.slice A0_1 l0_1.length c0_1); have hfz57_0 := blk_frozen BK582.out 0; have hfz57_1 := blk_frozen BK582.out 1; go_wp2; go_ret; exact ⟨ez, b1 GE582.out HB.out⟩
        · rw [if_neg c54] at H
          have c54b0 : decide ((l0_1.length : Int) ≤ 4) = false := decide_eq_false c54; have c54b1 : decide (l0_1.length ≤ 4) = false := decide_eq_false (by omega); clear c54; obtain rfl := Option.some.inj H; have hcz58_0 := fz BK582.out 0 (.bool a0_0); have hcz58_1 := fz BK582.out 1 (.slice A0_1 l0_1.length c0_1); have hfz58_0 := blk_frozen BK582.out 0; have hfz58_1 := blk_frozen BK582.out 1; go_wp2; go_ret; exact ⟨ez, b1 GE582.out HB.out⟩

end Go.Proofs.Ytngjaajcdbodeaa.All
