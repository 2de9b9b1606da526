/- The texts on which the row FnExactEven rests, part 1: contracts of the functions that it reaches and plain laws of what they compute. No condition. -/
import Derived.Test.YtngjaajcdbodeaaProg
import Derived.Below
import Derived.Deep.Draws
import Derived.Deep.AppendLies
import Derived.Maps.AppendAt
import Derived.OwnWalk
import Derived.Laws.BytesArg
import Derived.Laws.MakeOwn
import Derived.Laws.OwnMore
import Derived.Deep.OwnRows
import Derived.Tactics
import Derived.Lib.ConvBytes
import Derived.Laws.Slices
import Derived.WalkKit
import Derived.KernelRfl
import Derived.RowKit3
import Derived.Deep.LoopGhost
import Derived.Deep.QuietTactic
import Derived.BigQuiet
import Derived.WideLaws
import Derived.Deep.DeepCutAuto
import Derived.Deep.CutBlock
import Derived.Deep.RegionHeld3
import Derived.Laws.Rows
import Derived.Lib.AppendStr
import Derived.ArgAppend
import Derived.Laws.IdiomCopy
import Derived.OrdersHeld
import Derived.Laws.BitsLemmas
import Derived.RowKit
import Derived.Test.YtngjaajcdbodeaaMgFnExactEvenW1
import Derived.Maps.OwnOps
import Derived.Maps.Views
namespace Go.Proofs.Ytngjaajcdbodeaa.All
open Go.RowKit Go.Proofs.YtngjaajcdbodeaaW.PrintWords Go.Proofs.YtngjaajcdbodeaaW.PrintLast Go.Proofs.YtngjaajcdbodeaaW.PrintMore
attribute [local go_sem] max2_int min2_int max_two min_two max_three min_three max_four min_four   -- for this text's walks alone
set_option linter.unusedVariables false
set_option linter.unusedSimpArgs false



def errW : Option Int → Value
  | none => .nilIface
  | some c => .iface 0 (.int .i64 c)
theorem errW_none : errW none = .nilIface := rfl
theorem errW_some (c : Int) : errW (some c) = .iface 0 (.int .i64 c) := rfl

theorem info3 : (Try.prog.info? 3).map (fun i => (i.zero, i.size, i.bytes)) = some (some (.int .i64 0), 1, 8) := by kernel_rfl
theorem info32 : (Try.prog.info? 32).map (fun i => (i.zero, i.size, i.bytes)) = some (some (.agg #[(.int .i64 0), (.int .i64 0), (.int .i64 0), (.int .i64 0)]), 4, 32) := by kernel_rfl
theorem info34 : (Try.prog.info? 34).map (fun i => (i.zero, i.size, i.bytes)) = some (some (.agg #[(.int .i64 0), (.int .i64 0), (.int .i64 0), (.int .i64 0), (.int .i64 0)]), 5, 40) := by kernel_rfl
theorem info90 : (Try.prog.info? 90).map (fun i => (i.zero, i.size, i.bytes)) = some (some (.agg #[(.bool false), (.bool false), (.slice none 0 0)]), 3, 40) := by kernel_rfl
theorem info103 : (Try.prog.info? 103).map (fun i => (i.zero, i.size, i.bytes)) = some (some (.agg #[(.int .i64 0), (.int .i64 0), (.int .i64 0), (.int .i64 0), (.int .i64 0)]), 5, 40) := by kernel_rfl
-- the values' own types
/-! #### struct type 24 -/
structure S24 where
  f0 : Int
  f1 : Int
  f2 : Int
  f3 : Int
def z24 : S24 := ⟨(0 : Int), (0 : Int), (0 : Int), (0 : Int)⟩
def k24 : Kd S24 := Kd.iso (Kd.pair (Kd.int .i64) (Kd.pair (Kd.int .i64) (Kd.pair (Kd.int .i64) (Kd.int .i64)))) (fun x : S24 => (x.f0, x.f1, x.f2, x.f3))
theorem k24_open {w : World} {x : S24} {cs : List Value} (h : k24.K w x cs) : cs = [.int .i64 x.f0, .int .i64 x.f1, .int .i64 x.f2, .int .i64 x.f3] := by
  obtain ⟨_, _, rfl, rfl, ⟨_, _, rfl, rfl, ⟨_, _, rfl, rfl, rfl⟩⟩⟩ := h
  exact rfl
theorem k24_openM {w : World} {base : Nat} {ok : Nat → Prop} {x : S24} {cs : List Value} (h : k24.M w base ok x cs) : cs = [.int .i64 x.f0, .int .i64 x.f1, .int .i64 x.f2, .int .i64 x.f3] := by
  obtain ⟨_, _, rfl, rfl, ⟨_, _, rfl, rfl, ⟨_, _, rfl, rfl, rfl⟩⟩⟩ := h
  exact rfl
theorem k24_mk (w : World) (x : S24)  : k24.K w x [.int .i64 x.f0, .int .i64 x.f1, .int .i64 x.f2, .int .i64 x.f3] := ⟨[.int .i64 x.f0], [.int .i64 x.f1, .int .i64 x.f2, .int .i64 x.f3], rfl, rfl, ⟨[.int .i64 x.f1], [.int .i64 x.f2, .int .i64 x.f3], rfl, rfl, ⟨[.int .i64 x.f2], [.int .i64 x.f3], rfl, rfl, rfl⟩⟩⟩
theorem k24_mkM (w : World) (base : Nat) (ok : Nat → Prop) (x : S24)  : k24.M w base ok x [.int .i64 x.f0, .int .i64 x.f1, .int .i64 x.f2, .int .i64 x.f3] := ⟨[.int .i64 x.f0], [.int .i64 x.f1, .int .i64 x.f2, .int .i64 x.f3], rfl, rfl, ⟨[.int .i64 x.f1], [.int .i64 x.f2, .int .i64 x.f3], rfl, rfl, ⟨[.int .i64 x.f2], [.int .i64 x.f3], rfl, rfl, rfl⟩⟩⟩
theorem k24_mkF (W : World) (ok : Nat → Prop) (x : S24) : Kd.FK k24 W ok x [.int .i64 x.f0, .int .i64 x.f1, .int .i64 x.f2, .int .i64 x.f3] := fun W2 _ => k24_mk W2 x
def rd_T24 (xs : List S24) (i : Int) : S24 := xs.getD i.toNat z24
theorem at_T24 {w : World} {A : Option Addr} {n : Nat} {xs : List S24} (h : Kd.C k24 w A n xs) (i : Int) (h0 : 0 ≤ i) (h1 : i < n) : ∃ ad , A = some ad ∧ w.cell? (ad.add (i.toNat * 4)) = some (.int .i64 (rd_T24 xs i).f0) ∧ w.cell? ⟨(ad.add (i.toNat * 4)).block, (ad.add (i.toNat * 4)).off + 1, none⟩ = some (.int .i64 (rd_T24 xs i).f1) ∧ w.cell? ⟨(ad.add (i.toNat * 4)).block, (ad.add (i.toNat * 4)).off + 2, none⟩ = some (.int .i64 (rd_T24 xs i).f2) ∧ w.cell? ⟨(ad.add (i.toNat * 4)).block, (ad.add (i.toNat * 4)).off + 3, none⟩ = some (.int .i64 (rd_T24 xs i).f3) := by
  obtain ⟨ad, c, e, _, hK, hc0⟩ := Kd.C_get h z24 i h0 h1
  have hc : ∀ j u, c[j]? = some u → w.cell? (ad.add (i.toNat * 4 + j)) = some u := hc0
  obtain rfl := k24_open hK
  exact ⟨ad, e, hc 0 _ rfl, by rw [← add_field _ _ 1 (by omega)]; exact hc 1 _ rfl, by rw [← add_field _ _ 2 (by omega)]; exact hc 2 _ rfl, by rw [← add_field _ _ 3 (by omega)]; exact hc 3 _ rfl⟩

/-! #### struct type 26 -/
structure S26 where
  f0 : Int
  f1 : S24
def z26 : S26 := ⟨(0 : Int), z24⟩
def k26 : Kd S26 := Kd.iso (Kd.pair (Kd.int .i64) k24) (fun x : S26 => (x.f0, x.f1))
theorem k26_open {w : World} {x : S26} {cs : List Value} (h : k26.K w x cs) : cs = [.int .i64 x.f0, .int .i64 x.f1.f0, .int .i64 x.f1.f1, .int .i64 x.f1.f2, .int .i64 x.f1.f3] := by
  obtain ⟨_, _, rfl, rfl, s1⟩ := h
  obtain rfl := k24_open s1
  exact rfl
theorem k26_openM {w : World} {base : Nat} {ok : Nat → Prop} {x : S26} {cs : List Value} (h : k26.M w base ok x cs) : cs = [.int .i64 x.f0, .int .i64 x.f1.f0, .int .i64 x.f1.f1, .int .i64 x.f1.f2, .int .i64 x.f1.f3] := by
  obtain ⟨_, _, rfl, rfl, s1⟩ := h
  obtain rfl := k24_openM s1
  exact rfl
theorem k26_mk (w : World) (x : S26)  : k26.K w x [.int .i64 x.f0, .int .i64 x.f1.f0, .int .i64 x.f1.f1, .int .i64 x.f1.f2, .int .i64 x.f1.f3] := ⟨[.int .i64 x.f0], [.int .i64 x.f1.f0, .int .i64 x.f1.f1, .int .i64 x.f1.f2, .int .i64 x.f1.f3], rfl, rfl, (k24_mk w x.f1 )⟩
theorem k26_mkM (w : World) (base : Nat) (ok : Nat → Prop) (x : S26)  : k26.M w base ok x [.int .i64 x.f0, .int .i64 x.f1.f0, .int .i64 x.f1.f1, .int .i64 x.f1.f2, .int .i64 x.f1.f3] := ⟨[.int .i64 x.f0], [.int .i64 x.f1.f0, .int .i64 x.f1.f1, .int .i64 x.f1.f2, .int .i64 x.f1.f3], rfl, rfl, (k24_mkM w base ok x.f1 )⟩
theorem k26_mkF (W : World) (ok : Nat → Prop) (x : S26) : Kd.FK k26 W ok x [.int .i64 x.f0, .int .i64 x.f1.f0, .int .i64 x.f1.f1, .int .i64 x.f1.f2, .int .i64 x.f1.f3] := fun W2 _ => k26_mk W2 x
def rd_T26 (xs : List S26) (i : Int) : S26 := xs.getD i.toNat z26
theorem at_T26 {w : World} {A : Option Addr} {n : Nat} {xs : List S26} (h : Kd.C k26 w A n xs) (i : Int) (h0 : 0 ≤ i) (h1 : i < n) : ∃ ad , A = some ad ∧ w.cell? (ad.add (i.toNat * 5)) = some (.int .i64 (rd_T26 xs i).f0) ∧ w.cell? ⟨(ad.add (i.toNat * 5)).block, (ad.add (i.toNat * 5)).off + 1, none⟩ = some (.int .i64 (rd_T26 xs i).f1.f0) ∧ w.cell? ⟨(ad.add (i.toNat * 5)).block, (ad.add (i.toNat * 5)).off + 2, none⟩ = some (.int .i64 (rd_T26 xs i).f1.f1) ∧ w.cell? ⟨(ad.add (i.toNat * 5)).block, (ad.add (i.toNat * 5)).off + 3, none⟩ = some (.int .i64 (rd_T26 xs i).f1.f2) ∧ w.cell? ⟨(ad.add (i.toNat * 5)).block, (ad.add (i.toNat * 5)).off + 4, none⟩ = some (.int .i64 (rd_T26 xs i).f1.f3) := by
  obtain ⟨ad, c, e, _, hK, hc0⟩ := Kd.C_get h z26 i h0 h1
  have hc : ∀ j u, c[j]? = some u → w.cell? (ad.add (i.toNat * 5 + j)) = some u := hc0
  obtain rfl := k26_open hK
  exact ⟨ad, e, hc 0 _ rfl, by rw [← add_field _ _ 1 (by omega)]; exact hc 1 _ rfl, by rw [← add_field _ _ 2 (by omega)]; exact hc 2 _ rfl, by rw [← add_field _ _ 3 (by omega)]; exact hc 3 _ rfl, by rw [← add_field _ _ 4 (by omega)]; exact hc 4 _ rfl⟩

/-! #### struct type 32 -/
structure S32 where
  f0 : Int
  f1 : Int
  f2 : Int
  f3 : Int
def z32 : S32 := ⟨(0 : Int), (0 : Int), (0 : Int), (0 : Int)⟩
def k32 : Kd S32 := Kd.iso (Kd.pair (Kd.int .i64) (Kd.pair (Kd.int .i64) (Kd.pair (Kd.int .i64) (Kd.int .i64)))) (fun x : S32 => (x.f0, x.f1, x.f2, x.f3))
theorem k32_open {w : World} {x : S32} {cs : List Value} (h : k32.K w x cs) : cs = [.int .i64 x.f0, .int .i64 x.f1, .int .i64 x.f2, .int .i64 x.f3] := by
  obtain ⟨_, _, rfl, rfl, ⟨_, _, rfl, rfl, ⟨_, _, rfl, rfl, rfl⟩⟩⟩ := h
  exact rfl
theorem k32_openM {w : World} {base : Nat} {ok : Nat → Prop} {x : S32} {cs : List Value} (h : k32.M w base ok x cs) : cs = [.int .i64 x.f0, .int .i64 x.f1, .int .i64 x.f2, .int .i64 x.f3] := by
  obtain ⟨_, _, rfl, rfl, ⟨_, _, rfl, rfl, ⟨_, _, rfl, rfl, rfl⟩⟩⟩ := h
  exact rfl
theorem k32_mk (w : World) (x : S32)  : k32.K w x [.int .i64 x.f0, .int .i64 x.f1, .int .i64 x.f2, .int .i64 x.f3] := ⟨[.int .i64 x.f0], [.int .i64 x.f1, .int .i64 x.f2, .int .i64 x.f3], rfl, rfl, ⟨[.int .i64 x.f1], [.int .i64 x.f2, .int .i64 x.f3], rfl, rfl, ⟨[.int .i64 x.f2], [.int .i64 x.f3], rfl, rfl, rfl⟩⟩⟩
theorem k32_mkM (w : World) (base : Nat) (ok : Nat → Prop) (x : S32)  : k32.M w base ok x [.int .i64 x.f0, .int .i64 x.f1, .int .i64 x.f2, .int .i64 x.f3] := ⟨[.int .i64 x.f0], [.int .i64 x.f1, .int .i64 x.f2, .int .i64 x.f3], rfl, rfl, ⟨[.int .i64 x.f1], [.int .i64 x.f2, .int .i64 x.f3], rfl, rfl, ⟨[.int .i64 x.f2], [.int .i64 x.f3], rfl, rfl, rfl⟩⟩⟩
theorem k32_mkF (W : World) (ok : Nat → Prop) (x : S32) : Kd.FK k32 W ok x [.int .i64 x.f0, .int .i64 x.f1, .int .i64 x.f2, .int .i64 x.f3] := fun W2 _ => k32_mk W2 x
def rd_T32 (xs : List S32) (i : Int) : S32 := xs.getD i.toNat z32
theorem at_T32 {w : World} {A : Option Addr} {n : Nat} {xs : List S32} (h : Kd.C k32 w A n xs) (i : Int) (h0 : 0 ≤ i) (h1 : i < n) : ∃ ad , A = some ad ∧ w.cell? (ad.add (i.toNat * 4)) = some (.int .i64 (rd_T32 xs i).f0) ∧ w.cell? ⟨(ad.add (i.toNat * 4)).block, (ad.add (i.toNat * 4)).off + 1, none⟩ = some (.int .i64 (rd_T32 xs i).f1) ∧ w.cell? ⟨(ad.add (i.toNat * 4)).block, (ad.add (i.toNat * 4)).off + 2, none⟩ = some (.int .i64 (rd_T32 xs i).f2) ∧ w.cell? ⟨(ad.add (i.toNat * 4)).block, (ad.add (i.toNat * 4)).off + 3, none⟩ = some (.int .i64 (rd_T32 xs i).f3) := by
  obtain ⟨ad, c, e, _, hK, hc0⟩ := Kd.C_get h z32 i h0 h1
  have hc : ∀ j u, c[j]? = some u → w.cell? (ad.add (i.toNat * 4 + j)) = some u := hc0
  obtain rfl := k32_open hK
  exact ⟨ad, e, hc 0 _ rfl, by rw [← add_field _ _ 1 (by omega)]; exact hc 1 _ rfl, by rw [← add_field _ _ 2 (by omega)]; exact hc 2 _ rfl, by rw [← add_field _ _ 3 (by omega)]; exact hc 3 _ rfl⟩

/-! #### struct type 34 -/
structure S34 where
  f0 : Int
  f1 : S32
def z34 : S34 := ⟨(0 : Int), z32⟩
def k34 : Kd S34 := Kd.iso (Kd.pair (Kd.int .i64) k32) (fun x : S34 => (x.f0, x.f1))
theorem k34_open {w : World} {x : S34} {cs : List Value} (h : k34.K w x cs) : cs = [.int .i64 x.f0, .int .i64 x.f1.f0, .int .i64 x.f1.f1, .int .i64 x.f1.f2, .int .i64 x.f1.f3] := by
  obtain ⟨_, _, rfl, rfl, s1⟩ := h
  obtain rfl := k32_open s1
  exact rfl
theorem k34_openM {w : World} {base : Nat} {ok : Nat → Prop} {x : S34} {cs : List Value} (h : k34.M w base ok x cs) : cs = [.int .i64 x.f0, .int .i64 x.f1.f0, .int .i64 x.f1.f1, .int .i64 x.f1.f2, .int .i64 x.f1.f3] := by
  obtain ⟨_, _, rfl, rfl, s1⟩ := h
  obtain rfl := k32_openM s1
  exact rfl
theorem k34_mk (w : World) (x : S34)  : k34.K w x [.int .i64 x.f0, .int .i64 x.f1.f0, .int .i64 x.f1.f1, .int .i64 x.f1.f2, .int .i64 x.f1.f3] := ⟨[.int .i64 x.f0], [.int .i64 x.f1.f0, .int .i64 x.f1.f1, .int .i64 x.f1.f2, .int .i64 x.f1.f3], rfl, rfl, (k32_mk w x.f1 )⟩
theorem k34_mkM (w : World) (base : Nat) (ok : Nat → Prop) (x : S34)  : k34.M w base ok x [.int .i64 x.f0, .int .i64 x.f1.f0, .int .i64 x.f1.f1, .int .i64 x.f1.f2, .int .i64 x.f1.f3] := ⟨[.int .i64 x.f0], [.int .i64 x.f1.f0, .int .i64 x.f1.f1, .int .i64 x.f1.f2, .int .i64 x.f1.f3], rfl, rfl, (k32_mkM w base ok x.f1 )⟩
theorem k34_mkF (W : World) (ok : Nat → Prop) (x : S34) : Kd.FK k34 W ok x [.int .i64 x.f0, .int .i64 x.f1.f0, .int .i64 x.f1.f1, .int .i64 x.f1.f2, .int .i64 x.f1.f3] := fun W2 _ => k34_mk W2 x
def rd_T34 (xs : List S34) (i : Int) : S34 := xs.getD i.toNat z34
theorem at_T34 {w : World} {A : Option Addr} {n : Nat} {xs : List S34} (h : Kd.C k34 w A n xs) (i : Int) (h0 : 0 ≤ i) (h1 : i < n) : ∃ ad , A = some ad ∧ w.cell? (ad.add (i.toNat * 5)) = some (.int .i64 (rd_T34 xs i).f0) ∧ w.cell? ⟨(ad.add (i.toNat * 5)).block, (ad.add (i.toNat * 5)).off + 1, none⟩ = some (.int .i64 (rd_T34 xs i).f1.f0) ∧ w.cell? ⟨(ad.add (i.toNat * 5)).block, (ad.add (i.toNat * 5)).off + 2, none⟩ = some (.int .i64 (rd_T34 xs i).f1.f1) ∧ w.cell? ⟨(ad.add (i.toNat * 5)).block, (ad.add (i.toNat * 5)).off + 3, none⟩ = some (.int .i64 (rd_T34 xs i).f1.f2) ∧ w.cell? ⟨(ad.add (i.toNat * 5)).block, (ad.add (i.toNat * 5)).off + 4, none⟩ = some (.int .i64 (rd_T34 xs i).f1.f3) := by
  obtain ⟨ad, c, e, _, hK, hc0⟩ := Kd.C_get h z34 i h0 h1
  have hc : ∀ j u, c[j]? = some u → w.cell? (ad.add (i.toNat * 5 + j)) = some u := hc0
  obtain rfl := k34_open hK
  exact ⟨ad, e, hc 0 _ rfl, by rw [← add_field _ _ 1 (by omega)]; exact hc 1 _ rfl, by rw [← add_field _ _ 2 (by omega)]; exact hc 2 _ rfl, by rw [← add_field _ _ 3 (by omega)]; exact hc 3 _ rfl, by rw [← add_field _ _ 4 (by omega)]; exact hc 4 _ rfl⟩

/-! #### struct type 122 -/
structure S122 where
  f0 : Int
  f1 : S24
def z122 : S122 := ⟨(0 : Int), z24⟩
def k122 : Kd S122 := Kd.iso (Kd.pair (Kd.int .i64) k24) (fun x : S122 => (x.f0, x.f1))
theorem k122_open {w : World} {x : S122} {cs : List Value} (h : k122.K w x cs) : cs = [.int .i64 x.f0, .int .i64 x.f1.f0, .int .i64 x.f1.f1, .int .i64 x.f1.f2, .int .i64 x.f1.f3] := by
  obtain ⟨_, _, rfl, rfl, s1⟩ := h
  obtain rfl := k24_open s1
  exact rfl
theorem k122_openM {w : World} {base : Nat} {ok : Nat → Prop} {x : S122} {cs : List Value} (h : k122.M w base ok x cs) : cs = [.int .i64 x.f0, .int .i64 x.f1.f0, .int .i64 x.f1.f1, .int .i64 x.f1.f2, .int .i64 x.f1.f3] := by
  obtain ⟨_, _, rfl, rfl, s1⟩ := h
  obtain rfl := k24_openM s1
  exact rfl
theorem k122_mk (w : World) (x : S122)  : k122.K w x [.int .i64 x.f0, .int .i64 x.f1.f0, .int .i64 x.f1.f1, .int .i64 x.f1.f2, .int .i64 x.f1.f3] := ⟨[.int .i64 x.f0], [.int .i64 x.f1.f0, .int .i64 x.f1.f1, .int .i64 x.f1.f2, .int .i64 x.f1.f3], rfl, rfl, (k24_mk w x.f1 )⟩
theorem k122_mkM (w : World) (base : Nat) (ok : Nat → Prop) (x : S122)  : k122.M w base ok x [.int .i64 x.f0, .int .i64 x.f1.f0, .int .i64 x.f1.f1, .int .i64 x.f1.f2, .int .i64 x.f1.f3] := ⟨[.int .i64 x.f0], [.int .i64 x.f1.f0, .int .i64 x.f1.f1, .int .i64 x.f1.f2, .int .i64 x.f1.f3], rfl, rfl, (k24_mkM w base ok x.f1 )⟩
theorem k122_mkF (W : World) (ok : Nat → Prop) (x : S122) : Kd.FK k122 W ok x [.int .i64 x.f0, .int .i64 x.f1.f0, .int .i64 x.f1.f1, .int .i64 x.f1.f2, .int .i64 x.f1.f3] := fun W2 _ => k122_mk W2 x
def rd_T122 (xs : List S122) (i : Int) : S122 := xs.getD i.toNat z122
theorem at_T122 {w : World} {A : Option Addr} {n : Nat} {xs : List S122} (h : Kd.C k122 w A n xs) (i : Int) (h0 : 0 ≤ i) (h1 : i < n) : ∃ ad , A = some ad ∧ w.cell? (ad.add (i.toNat * 5)) = some (.int .i64 (rd_T122 xs i).f0) ∧ w.cell? ⟨(ad.add (i.toNat * 5)).block, (ad.add (i.toNat * 5)).off + 1, none⟩ = some (.int .i64 (rd_T122 xs i).f1.f0) ∧ w.cell? ⟨(ad.add (i.toNat * 5)).block, (ad.add (i.toNat * 5)).off + 2, none⟩ = some (.int .i64 (rd_T122 xs i).f1.f1) ∧ w.cell? ⟨(ad.add (i.toNat * 5)).block, (ad.add (i.toNat * 5)).off + 3, none⟩ = some (.int .i64 (rd_T122 xs i).f1.f2) ∧ w.cell? ⟨(ad.add (i.toNat * 5)).block, (ad.add (i.toNat * 5)).off + 4, none⟩ = some (.int .i64 (rd_T122 xs i).f1.f3) := by
  obtain ⟨ad, c, e, _, hK, hc0⟩ := Kd.C_get h z122 i h0 h1
  have hc : ∀ j u, c[j]? = some u → w.cell? (ad.add (i.toNat * 5 + j)) = some u := hc0
  obtain rfl := k122_open hK
  exact ⟨ad, e, hc 0 _ rfl, by rw [← add_field _ _ 1 (by omega)]; exact hc 1 _ rfl, by rw [← add_field _ _ 2 (by omega)]; exact hc 2 _ rfl, by rw [← add_field _ _ 3 (by omega)]; exact hc 3 _ rfl, by rw [← add_field _ _ 4 (by omega)]; exact hc 4 _ rfl⟩

def rd_L7 (xs : List (List S122)) (i : Int) : (List S122) := xs.getD i.toNat ([] : List S122)
theorem at_L7 {w : World} {A : Option Addr} {n : Nat} {xs : List (List S122)} (h : Kd.C (Kd.slice 122 k122) w A n xs) (i : Int) (h0 : 0 ≤ i) (h1 : i < n) : ∃ ad A0 c0, A = some ad ∧ w.cell? (ad.add i.toNat) = some (.slice A0 (rd_L7 xs i).length c0) ∧ (rd_L7 xs i).length ≤ c0 ∧ k122.C w A0 (rd_L7 xs i).length (rd_L7 xs i) := by
  obtain ⟨ad, c, e, _, hK, hc0⟩ := Kd.C_get h ([] : List S122) i h0 h1
  have hc : ∀ j u, c[j]? = some u → w.cell? (ad.add (i.toNat * 1 + j)) = some u := hc0
  obtain ⟨A0, c0, rfl, l0, g0⟩ := hK
  exact ⟨ad, A0, c0, e, by have hq := hc 0 _ rfl; rwa [Nat.mul_one, Nat.add_zero] at hq, l0, g0⟩

/-! #### struct type 44 -/
structure S44 where
  f0 : Bool
  f1 : (List S122)
def z44 : S44 := ⟨false, ([] : List S122)⟩
def k44 : Kd S44 := Kd.iso (Kd.pair Kd.bool (Kd.slice 122 k122)) (fun x : S44 => (x.f0, x.f1))
theorem k44_open {w : World} {x : S44} {cs : List Value} (h : k44.K w x cs) : ∃ A1 c1, cs = [.bool x.f0, .slice A1 x.f1.length c1] ∧ x.f1.length ≤ c1 ∧ k122.C w A1 x.f1.length x.f1 := by
  obtain ⟨_, _, rfl, rfl, ⟨A1, c1, rfl, l1, g1⟩⟩ := h
  exact ⟨A1, c1, rfl, l1, g1⟩
theorem k44_openM {w : World} {base : Nat} {ok : Nat → Prop} {x : S44} {cs : List Value} (h : k44.M w base ok x cs) : ∃ v1, cs = [.bool x.f0, v1] ∧ k122.R 122 w base ok v1 x.f1 := by
  obtain ⟨_, _, rfl, rfl, ⟨v1, rfl, g1⟩⟩ := h
  exact ⟨v1, rfl, g1⟩
theorem k44_mk (w : World) (x : S44) {A1 : Option Addr} {c1 : Nat} (l1 : x.f1.length ≤ c1) (g1 : k122.C w A1 x.f1.length x.f1) : k44.K w x [.bool x.f0, .slice A1 x.f1.length c1] := ⟨[.bool x.f0], [.slice A1 x.f1.length c1], rfl, rfl, ⟨A1, c1, rfl, l1, g1⟩⟩
theorem k44_mkM (w : World) (base : Nat) (ok : Nat → Prop) (x : S44) {v1 : Value} (g1 : k122.R 122 w base ok v1 x.f1) : k44.M w base ok x [.bool x.f0, v1] := ⟨[.bool x.f0], [v1], rfl, rfl, ⟨v1, rfl, g1⟩⟩
theorem k44_openF {W : World} {ok : Nat → Prop} {x : S44} {cs : List Value} (h : Kd.FK k44 W ok x cs) : ∃ A1 c1, cs = [.bool x.f0, .slice A1 x.f1.length c1] ∧ x.f1.length ≤ c1 ∧ Kd.F k122 W ok A1 x.f1.length x.f1 := by
  obtain ⟨A1, c1, rfl, l1, _⟩ := k44_open (Kd.FK_now h)
  exact ⟨A1, c1, rfl, l1, (fun W' hW => by obtain ⟨A1_, c1_, he, l1_, g1_⟩ := k44_open (h W' hW); injection (Option.some.inj (show some (Value.slice A1 x.f1.length c1) = some (Value.slice A1_ x.f1.length c1_) from congrArg (fun l => l[1]?) he)) with ha_ _ _; rw [ha_]; exact g1_)⟩
theorem k44_mkF (W : World) (ok : Nat → Prop) (x : S44) {A1 : Option Addr} {c1 : Nat} (l1 : x.f1.length ≤ c1) (g1 : Kd.F k122 W ok A1 x.f1.length x.f1) : Kd.FK k44 W ok x [.bool x.f0, .slice A1 x.f1.length c1] := fun W2 hW => k44_mk W2 x l1 (g1 W2 hW)
def rd_T44 (xs : List S44) (i : Int) : S44 := xs.getD i.toNat z44
theorem at_T44 {w : World} {A : Option Addr} {n : Nat} {xs : List S44} (h : Kd.C k44 w A n xs) (i : Int) (h0 : 0 ≤ i) (h1 : i < n) : ∃ ad A1 c1, A = some ad ∧ w.cell? (ad.add (i.toNat * 2)) = some (.bool (rd_T44 xs i).f0) ∧ w.cell? ⟨(ad.add (i.toNat * 2)).block, (ad.add (i.toNat * 2)).off + 1, none⟩ = some (.slice A1 (rd_T44 xs i).f1.length c1) ∧ (rd_T44 xs i).f1.length ≤ c1 ∧ k122.C w A1 (rd_T44 xs i).f1.length (rd_T44 xs i).f1 := by
  obtain ⟨ad, c, e, _, hK, hc0⟩ := Kd.C_get h z44 i h0 h1
  have hc : ∀ j u, c[j]? = some u → w.cell? (ad.add (i.toNat * 2 + j)) = some u := hc0
  obtain ⟨A1, c1, rfl, l1, g1⟩ := k44_open hK
  exact ⟨ad, A1, c1, e, hc 0 _ rfl, by rw [← add_field _ _ 1 (by omega)]; exact hc 1 _ rfl, l1, g1⟩

/-! #### struct type 118 -/
structure S118 where
  f0 : Bool
  f1 : S44
def z118 : S118 := ⟨false, z44⟩
def k118 : Kd S118 := Kd.iso (Kd.pair Kd.bool k44) (fun x : S118 => (x.f0, x.f1))
theorem k118_open {w : World} {x : S118} {cs : List Value} (h : k118.K w x cs) : ∃ A2 c2, cs = [.bool x.f0, .bool x.f1.f0, .slice A2 x.f1.f1.length c2] ∧ x.f1.f1.length ≤ c2 ∧ k122.C w A2 x.f1.f1.length x.f1.f1 := by
  obtain ⟨_, _, rfl, rfl, s1⟩ := h
  obtain ⟨A2, c2, rfl, l2, g2⟩ := k44_open s1
  exact ⟨A2, c2, rfl, l2, g2⟩
theorem k118_openM {w : World} {base : Nat} {ok : Nat → Prop} {x : S118} {cs : List Value} (h : k118.M w base ok x cs) : ∃ v2, cs = [.bool x.f0, .bool x.f1.f0, v2] ∧ k122.R 122 w base ok v2 x.f1.f1 := by
  obtain ⟨_, _, rfl, rfl, s1⟩ := h
  obtain ⟨v2, rfl, g2⟩ := k44_openM s1
  exact ⟨v2, rfl, g2⟩
theorem k118_mk (w : World) (x : S118) {A2 : Option Addr} {c2 : Nat} (l2 : x.f1.f1.length ≤ c2) (g2 : k122.C w A2 x.f1.f1.length x.f1.f1) : k118.K w x [.bool x.f0, .bool x.f1.f0, .slice A2 x.f1.f1.length c2] := ⟨[.bool x.f0], [.bool x.f1.f0, .slice A2 x.f1.f1.length c2], rfl, rfl, (k44_mk w x.f1 l2 g2)⟩
theorem k118_mkM (w : World) (base : Nat) (ok : Nat → Prop) (x : S118) {v2 : Value} (g2 : k122.R 122 w base ok v2 x.f1.f1) : k118.M w base ok x [.bool x.f0, .bool x.f1.f0, v2] := ⟨[.bool x.f0], [.bool x.f1.f0, v2], rfl, rfl, (k44_mkM w base ok x.f1 g2)⟩
theorem k118_openF {W : World} {ok : Nat → Prop} {x : S118} {cs : List Value} (h : Kd.FK k118 W ok x cs) : ∃ A2 c2, cs = [.bool x.f0, .bool x.f1.f0, .slice A2 x.f1.f1.length c2] ∧ x.f1.f1.length ≤ c2 ∧ Kd.F k122 W ok A2 x.f1.f1.length x.f1.f1 := by
  obtain ⟨A2, c2, rfl, l2, _⟩ := k118_open (Kd.FK_now h)
  exact ⟨A2, c2, rfl, l2, (fun W' hW => by obtain ⟨A2_, c2_, he, l2_, g2_⟩ := k118_open (h W' hW); injection (Option.some.inj (show some (Value.slice A2 x.f1.f1.length c2) = some (Value.slice A2_ x.f1.f1.length c2_) from congrArg (fun l => l[2]?) he)) with ha_ _ _; rw [ha_]; exact g2_)⟩
theorem k118_mkF (W : World) (ok : Nat → Prop) (x : S118) {A2 : Option Addr} {c2 : Nat} (l2 : x.f1.f1.length ≤ c2) (g2 : Kd.F k122 W ok A2 x.f1.f1.length x.f1.f1) : Kd.FK k118 W ok x [.bool x.f0, .bool x.f1.f0, .slice A2 x.f1.f1.length c2] := fun W2 hW => k118_mk W2 x l2 (g2 W2 hW)
def rd_T118 (xs : List S118) (i : Int) : S118 := xs.getD i.toNat z118
theorem at_T118 {w : World} {A : Option Addr} {n : Nat} {xs : List S118} (h : Kd.C k118 w A n xs) (i : Int) (h0 : 0 ≤ i) (h1 : i < n) : ∃ ad A2 c2, A = some ad ∧ w.cell? (ad.add (i.toNat * 3)) = some (.bool (rd_T118 xs i).f0) ∧ w.cell? ⟨(ad.add (i.toNat * 3)).block, (ad.add (i.toNat * 3)).off + 1, none⟩ = some (.bool (rd_T118 xs i).f1.f0) ∧ w.cell? ⟨(ad.add (i.toNat * 3)).block, (ad.add (i.toNat * 3)).off + 2, none⟩ = some (.slice A2 (rd_T118 xs i).f1.f1.length c2) ∧ (rd_T118 xs i).f1.f1.length ≤ c2 ∧ k122.C w A2 (rd_T118 xs i).f1.f1.length (rd_T118 xs i).f1.f1 := by
  obtain ⟨ad, c, e, _, hK, hc0⟩ := Kd.C_get h z118 i h0 h1
  have hc : ∀ j u, c[j]? = some u → w.cell? (ad.add (i.toNat * 3 + j)) = some u := hc0
  obtain ⟨A2, c2, rfl, l2, g2⟩ := k118_open hK
  exact ⟨ad, A2, c2, e, hc 0 _ rfl, by rw [← add_field _ _ 1 (by omega)]; exact hc 1 _ rfl, by rw [← add_field _ _ 2 (by omega)]; exact hc 2 _ rfl, l2, g2⟩

/-! #### struct type 103 -/
structure S103 where
  f0 : Int
  f1 : S32
def z103 : S103 := ⟨(0 : Int), z32⟩
def k103 : Kd S103 := Kd.iso (Kd.pair (Kd.int .i64) k32) (fun x : S103 => (x.f0, x.f1))
theorem k103_open {w : World} {x : S103} {cs : List Value} (h : k103.K w x cs) : cs = [.int .i64 x.f0, .int .i64 x.f1.f0, .int .i64 x.f1.f1, .int .i64 x.f1.f2, .int .i64 x.f1.f3] := by
  obtain ⟨_, _, rfl, rfl, s1⟩ := h
  obtain rfl := k32_open s1
  exact rfl
theorem k103_openM {w : World} {base : Nat} {ok : Nat → Prop} {x : S103} {cs : List Value} (h : k103.M w base ok x cs) : cs = [.int .i64 x.f0, .int .i64 x.f1.f0, .int .i64 x.f1.f1, .int .i64 x.f1.f2, .int .i64 x.f1.f3] := by
  obtain ⟨_, _, rfl, rfl, s1⟩ := h
  obtain rfl := k32_openM s1
  exact rfl
theorem k103_mk (w : World) (x : S103)  : k103.K w x [.int .i64 x.f0, .int .i64 x.f1.f0, .int .i64 x.f1.f1, .int .i64 x.f1.f2, .int .i64 x.f1.f3] := ⟨[.int .i64 x.f0], [.int .i64 x.f1.f0, .int .i64 x.f1.f1, .int .i64 x.f1.f2, .int .i64 x.f1.f3], rfl, rfl, (k32_mk w x.f1 )⟩
theorem k103_mkM (w : World) (base : Nat) (ok : Nat → Prop) (x : S103)  : k103.M w base ok x [.int .i64 x.f0, .int .i64 x.f1.f0, .int .i64 x.f1.f1, .int .i64 x.f1.f2, .int .i64 x.f1.f3] := ⟨[.int .i64 x.f0], [.int .i64 x.f1.f0, .int .i64 x.f1.f1, .int .i64 x.f1.f2, .int .i64 x.f1.f3], rfl, rfl, (k32_mkM w base ok x.f1 )⟩
theorem k103_mkF (W : World) (ok : Nat → Prop) (x : S103) : Kd.FK k103 W ok x [.int .i64 x.f0, .int .i64 x.f1.f0, .int .i64 x.f1.f1, .int .i64 x.f1.f2, .int .i64 x.f1.f3] := fun W2 _ => k103_mk W2 x
def rd_T103 (xs : List S103) (i : Int) : S103 := xs.getD i.toNat z103
theorem at_T103 {w : World} {A : Option Addr} {n : Nat} {xs : List S103} (h : Kd.C k103 w A n xs) (i : Int) (h0 : 0 ≤ i) (h1 : i < n) : ∃ ad , A = some ad ∧ w.cell? (ad.add (i.toNat * 5)) = some (.int .i64 (rd_T103 xs i).f0) ∧ w.cell? ⟨(ad.add (i.toNat * 5)).block, (ad.add (i.toNat * 5)).off + 1, none⟩ = some (.int .i64 (rd_T103 xs i).f1.f0) ∧ w.cell? ⟨(ad.add (i.toNat * 5)).block, (ad.add (i.toNat * 5)).off + 2, none⟩ = some (.int .i64 (rd_T103 xs i).f1.f1) ∧ w.cell? ⟨(ad.add (i.toNat * 5)).block, (ad.add (i.toNat * 5)).off + 3, none⟩ = some (.int .i64 (rd_T103 xs i).f1.f2) ∧ w.cell? ⟨(ad.add (i.toNat * 5)).block, (ad.add (i.toNat * 5)).off + 4, none⟩ = some (.int .i64 (rd_T103 xs i).f1.f3) := by
  obtain ⟨ad, c, e, _, hK, hc0⟩ := Kd.C_get h z103 i h0 h1
  have hc : ∀ j u, c[j]? = some u → w.cell? (ad.add (i.toNat * 5 + j)) = some u := hc0
  obtain rfl := k103_open hK
  exact ⟨ad, e, hc 0 _ rfl, by rw [← add_field _ _ 1 (by omega)]; exact hc 1 _ rfl, by rw [← add_field _ _ 2 (by omega)]; exact hc 2 _ rfl, by rw [← add_field _ _ 3 (by omega)]; exact hc 3 _ rfl, by rw [← add_field _ _ 4 (by omega)]; exact hc 4 _ rfl⟩

def rd_L11 (xs : List (List S103)) (i : Int) : (List S103) := xs.getD i.toNat ([] : List S103)
theorem at_L11 {w : World} {A : Option Addr} {n : Nat} {xs : List (List S103)} (h : Kd.C (Kd.slice 103 k103) w A n xs) (i : Int) (h0 : 0 ≤ i) (h1 : i < n) : ∃ ad A0 c0, A = some ad ∧ w.cell? (ad.add i.toNat) = some (.slice A0 (rd_L11 xs i).length c0) ∧ (rd_L11 xs i).length ≤ c0 ∧ k103.C w A0 (rd_L11 xs i).length (rd_L11 xs i) := by
  obtain ⟨ad, c, e, _, hK, hc0⟩ := Kd.C_get h ([] : List S103) i h0 h1
  have hc : ∀ j u, c[j]? = some u → w.cell? (ad.add (i.toNat * 1 + j)) = some u := hc0
  obtain ⟨A0, c0, rfl, l0, g0⟩ := hK
  exact ⟨ad, A0, c0, e, by have hq := hc 0 _ rfl; rwa [Nat.mul_one, Nat.add_zero] at hq, l0, g0⟩

/-! #### struct type 54 -/
structure S54 where
  f0 : Bool
  f1 : (List S103)
def z54 : S54 := ⟨false, ([] : List S103)⟩
def k54 : Kd S54 := Kd.iso (Kd.pair Kd.bool (Kd.slice 103 k103)) (fun x : S54 => (x.f0, x.f1))
theorem k54_open {w : World} {x : S54} {cs : List Value} (h : k54.K w x cs) : ∃ A1 c1, cs = [.bool x.f0, .slice A1 x.f1.length c1] ∧ x.f1.length ≤ c1 ∧ k103.C w A1 x.f1.length x.f1 := by
  obtain ⟨_, _, rfl, rfl, ⟨A1, c1, rfl, l1, g1⟩⟩ := h
  exact ⟨A1, c1, rfl, l1, g1⟩
theorem k54_openM {w : World} {base : Nat} {ok : Nat → Prop} {x : S54} {cs : List Value} (h : k54.M w base ok x cs) : ∃ v1, cs = [.bool x.f0, v1] ∧ k103.R 103 w base ok v1 x.f1 := by
  obtain ⟨_, _, rfl, rfl, ⟨v1, rfl, g1⟩⟩ := h
  exact ⟨v1, rfl, g1⟩
theorem k54_mk (w : World) (x : S54) {A1 : Option Addr} {c1 : Nat} (l1 : x.f1.length ≤ c1) (g1 : k103.C w A1 x.f1.length x.f1) : k54.K w x [.bool x.f0, .slice A1 x.f1.length c1] := ⟨[.bool x.f0], [.slice A1 x.f1.length c1], rfl, rfl, ⟨A1, c1, rfl, l1, g1⟩⟩
theorem k54_mkM (w : World) (base : Nat) (ok : Nat → Prop) (x : S54) {v1 : Value} (g1 : k103.R 103 w base ok v1 x.f1) : k54.M w base ok x [.bool x.f0, v1] := ⟨[.bool x.f0], [v1], rfl, rfl, ⟨v1, rfl, g1⟩⟩
theorem k54_openF {W : World} {ok : Nat → Prop} {x : S54} {cs : List Value} (h : Kd.FK k54 W ok x cs) : ∃ A1 c1, cs = [.bool x.f0, .slice A1 x.f1.length c1] ∧ x.f1.length ≤ c1 ∧ Kd.F k103 W ok A1 x.f1.length x.f1 := by
  obtain ⟨A1, c1, rfl, l1, _⟩ := k54_open (Kd.FK_now h)
  exact ⟨A1, c1, rfl, l1, (fun W' hW => by obtain ⟨A1_, c1_, he, l1_, g1_⟩ := k54_open (h W' hW); injection (Option.some.inj (show some (Value.slice A1 x.f1.length c1) = some (Value.slice A1_ x.f1.length c1_) from congrArg (fun l => l[1]?) he)) with ha_ _ _; rw [ha_]; exact g1_)⟩
theorem k54_mkF (W : World) (ok : Nat → Prop) (x : S54) {A1 : Option Addr} {c1 : Nat} (l1 : x.f1.length ≤ c1) (g1 : Kd.F k103 W ok A1 x.f1.length x.f1) : Kd.FK k54 W ok x [.bool x.f0, .slice A1 x.f1.length c1] := fun W2 hW => k54_mk W2 x l1 (g1 W2 hW)
def rd_T54 (xs : List S54) (i : Int) : S54 := xs.getD i.toNat z54
theorem at_T54 {w : World} {A : Option Addr} {n : Nat} {xs : List S54} (h : Kd.C k54 w A n xs) (i : Int) (h0 : 0 ≤ i) (h1 : i < n) : ∃ ad A1 c1, A = some ad ∧ w.cell? (ad.add (i.toNat * 2)) = some (.bool (rd_T54 xs i).f0) ∧ w.cell? ⟨(ad.add (i.toNat * 2)).block, (ad.add (i.toNat * 2)).off + 1, none⟩ = some (.slice A1 (rd_T54 xs i).f1.length c1) ∧ (rd_T54 xs i).f1.length ≤ c1 ∧ k103.C w A1 (rd_T54 xs i).f1.length (rd_T54 xs i).f1 := by
  obtain ⟨ad, c, e, _, hK, hc0⟩ := Kd.C_get h z54 i h0 h1
  have hc : ∀ j u, c[j]? = some u → w.cell? (ad.add (i.toNat * 2 + j)) = some u := hc0
  obtain ⟨A1, c1, rfl, l1, g1⟩ := k54_open hK
  exact ⟨ad, A1, c1, e, hc 0 _ rfl, by rw [← add_field _ _ 1 (by omega)]; exact hc 1 _ rfl, l1, g1⟩

/-! #### struct type 90 -/
structure S90 where
  f0 : Bool
  f1 : S54
def z90 : S90 := ⟨false, z54⟩
def k90 : Kd S90 := Kd.iso (Kd.pair Kd.bool k54) (fun x : S90 => (x.f0, x.f1))
theorem k90_open {w : World} {x : S90} {cs : List Value} (h : k90.K w x cs) : ∃ A2 c2, cs = [.bool x.f0, .bool x.f1.f0, .slice A2 x.f1.f1.length c2] ∧ x.f1.f1.length ≤ c2 ∧ k103.C w A2 x.f1.f1.length x.f1.f1 := by
  obtain ⟨_, _, rfl, rfl, s1⟩ := h
  obtain ⟨A2, c2, rfl, l2, g2⟩ := k54_open s1
  exact ⟨A2, c2, rfl, l2, g2⟩
theorem k90_openM {w : World} {base : Nat} {ok : Nat → Prop} {x : S90} {cs : List Value} (h : k90.M w base ok x cs) : ∃ v2, cs = [.bool x.f0, .bool x.f1.f0, v2] ∧ k103.R 103 w base ok v2 x.f1.f1 := by
  obtain ⟨_, _, rfl, rfl, s1⟩ := h
  obtain ⟨v2, rfl, g2⟩ := k54_openM s1
  exact ⟨v2, rfl, g2⟩
theorem k90_mk (w : World) (x : S90) {A2 : Option Addr} {c2 : Nat} (l2 : x.f1.f1.length ≤ c2) (g2 : k103.C w A2 x.f1.f1.length x.f1.f1) : k90.K w x [.bool x.f0, .bool x.f1.f0, .slice A2 x.f1.f1.length c2] := ⟨[.bool x.f0], [.bool x.f1.f0, .slice A2 x.f1.f1.length c2], rfl, rfl, (k54_mk w x.f1 l2 g2)⟩
theorem k90_mkM (w : World) (base : Nat) (ok : Nat → Prop) (x : S90) {v2 : Value} (g2 : k103.R 103 w base ok v2 x.f1.f1) : k90.M w base ok x [.bool x.f0, .bool x.f1.f0, v2] := ⟨[.bool x.f0], [.bool x.f1.f0, v2], rfl, rfl, (k54_mkM w base ok x.f1 g2)⟩
theorem k90_openF {W : World} {ok : Nat → Prop} {x : S90} {cs : List Value} (h : Kd.FK k90 W ok x cs) : ∃ A2 c2, cs = [.bool x.f0, .bool x.f1.f0, .slice A2 x.f1.f1.length c2] ∧ x.f1.f1.length ≤ c2 ∧ Kd.F k103 W ok A2 x.f1.f1.length x.f1.f1 := by
  obtain ⟨A2, c2, rfl, l2, _⟩ := k90_open (Kd.FK_now h)
  exact ⟨A2, c2, rfl, l2, (fun W' hW => by obtain ⟨A2_, c2_, he, l2_, g2_⟩ := k90_open (h W' hW); injection (Option.some.inj (show some (Value.slice A2 x.f1.f1.length c2) = some (Value.slice A2_ x.f1.f1.length c2_) from congrArg (fun l => l[2]?) he)) with ha_ _ _; rw [ha_]; exact g2_)⟩
theorem k90_mkF (W : World) (ok : Nat → Prop) (x : S90) {A2 : Option Addr} {c2 : Nat} (l2 : x.f1.f1.length ≤ c2) (g2 : Kd.F k103 W ok A2 x.f1.f1.length x.f1.f1) : Kd.FK k90 W ok x [.bool x.f0, .bool x.f1.f0, .slice A2 x.f1.f1.length c2] := fun W2 hW => k90_mk W2 x l2 (g2 W2 hW)
def rd_T90 (xs : List S90) (i : Int) : S90 := xs.getD i.toNat z90
theorem at_T90 {w : World} {A : Option Addr} {n : Nat} {xs : List S90} (h : Kd.C k90 w A n xs) (i : Int) (h0 : 0 ≤ i) (h1 : i < n) : ∃ ad A2 c2, A = some ad ∧ w.cell? (ad.add (i.toNat * 3)) = some (.bool (rd_T90 xs i).f0) ∧ w.cell? ⟨(ad.add (i.toNat * 3)).block, (ad.add (i.toNat * 3)).off + 1, none⟩ = some (.bool (rd_T90 xs i).f1.f0) ∧ w.cell? ⟨(ad.add (i.toNat * 3)).block, (ad.add (i.toNat * 3)).off + 2, none⟩ = some (.slice A2 (rd_T90 xs i).f1.f1.length c2) ∧ (rd_T90 xs i).f1.f1.length ≤ c2 ∧ k103.C w A2 (rd_T90 xs i).f1.f1.length (rd_T90 xs i).f1.f1 := by
  obtain ⟨ad, c, e, _, hK, hc0⟩ := Kd.C_get h z90 i h0 h1
  have hc : ∀ j u, c[j]? = some u → w.cell? (ad.add (i.toNat * 3 + j)) = some u := hc0
  obtain ⟨A2, c2, rfl, l2, g2⟩ := k90_open hK
  exact ⟨ad, A2, c2, e, hc 0 _ rfl, by rw [← add_field _ _ 1 (by omega)]; exact hc 1 _ rfl, by rw [← add_field _ _ 2 (by omega)]; exact hc 2 _ rfl, l2, g2⟩

end Go.Proofs.Ytngjaajcdbodeaa.All

/- Plain laws of the printed functions: rounds, and the types. No condition. -/
namespace Go.Proofs.Ytngjaajcdbodeaa.Pure
open Go.RowKit Go.Proofs.Ytngjaajcdbodeaa.All Go.Proofs.YtngjaajcdbodeaaW.PrintWords Go.Proofs.YtngjaajcdbodeaaW.PrintLast
set_option linter.unusedVariables false

/-- With enough rounds g answers r. -/
def Evn {α : Type} (g : Nat → Option α) (r : α) : Prop := ∃ K, ∀ k, K ≤ k → g k = some r
theorem Evn.const {α : Type} {g : Nat → Option α} {r : α} (h : ∀ k, g k = some r) : Evn g r := ⟨0, fun k _ => h k⟩
theorem Evn.ret {α : Type} (r : α) : Evn (fun _ => some r) r := ⟨0, fun _ _ => rfl⟩
theorem Evn.bind {α β : Type} {g : Nat → Option α} {f : Nat → α → Option β} {a : α} {r : β} (h : Evn g a) (k : Evn (fun k => f k a) r) : Evn (fun k => (g k).bind (f k)) r := by
  obtain ⟨K, hK⟩ := h
  obtain ⟨L, hL⟩ := k
  refine ⟨K + L, fun k hk => ?_⟩
  show (g k).bind (f k) = some r
  rw [hK k (by omega)]
  exact hL k (by omega)
theorem Evn.step {α : Type} {g g' : Nat → Option α} {r : α} (h : ∀ k, g (k + 1) = g' k) (k : Evn g' r) : Evn g r := by
  obtain ⟨L, hL⟩ := k
  refine ⟨L + 1, fun k hk => ?_⟩
  obtain ⟨m, rfl⟩ : ∃ m, k = m + 1 := ⟨k - 1, by omega⟩
  rw [h m]
  exact hL m (by omega)
theorem Evn.pos {α : Type} {c : Prop} [Decidable c] {g g' : Nat → Option α} {r : α} (hc : c) (h : Evn g r) : Evn (fun k => if c then g k else g' k) r := by
  obtain ⟨L, hL⟩ := h
  exact ⟨L, fun k hk => by show (if c then g k else g' k) = some r; rw [if_pos hc]; exact hL k hk⟩
theorem Evn.neg {α : Type} {c : Prop} [Decidable c] {g g' : Nat → Option α} {r : α} (hc : ¬ c) (h : Evn g' r) : Evn (fun k => if c then g k else g' k) r := by
  obtain ⟨L, hL⟩ := h
  exact ⟨L, fun k hk => by show (if c then g k else g' k) = some r; rw [if_neg hc]; exact hL k hk⟩
theorem Evn.congr {α : Type} {g g' : Nat → Option α} {r : α} (h : ∀ k, g k = g' k) (k : Evn g' r) : Evn g r := by
  obtain ⟨L, hL⟩ := k
  exact ⟨L, fun k hk => by rw [h k]; exact hL k hk⟩
theorem Evn.some_k {α : Type} {g : Nat → Option α} {r : α} (h : Evn g r) : ∃ k, g k = some r := ⟨_, h.choose_spec _ (Nat.le_refl _)⟩
theorem Evn.same {α : Type} {g g' : Nat → Option α} {r : α} (h : Evn g r) (he : ∀ k, g k = g' k) : Evn g' r := Evn.congr (fun k => (he k).symm) h

abbrev LBx := S24
abbrev Bx := S32
abbrev LEn := S122
abbrev En := S103
abbrev LIt := S26
abbrev It := S34


end Go.Proofs.Ytngjaajcdbodeaa.Pure

namespace Go.Proofs.Ytngjaajcdbodeaa.All
open Go.RowKit Go.Proofs.YtngjaajcdbodeaaW.PrintWords Go.Proofs.YtngjaajcdbodeaaW.PrintLast Go.Proofs.YtngjaajcdbodeaaW.PrintMore
attribute [local go_sem] max2_int min2_int max_two min_two max_three min_three max_four min_four   -- for this text's walks alone
set_option linter.unusedVariables false
set_option linter.unusedSimpArgs false

/-! ### spec_l7Has: function 87 -/
def spec_l7Has.l0 : Nat → List Int → Int → Int → Option (Bool)
  | 0, _, _, _ => none
  | k + 1, x0, x1, x5 => if x5 < (x0.length : Int) then (if 0 ≤ x5 then (if (rd x0 x5) = x1 then (some true) else (spec_l7Has.l0 k x0 x1 (wrap64 (x5 + 1)))) else (none)) else (some false)
def spec_l7Has.f (k : Nat) (l0 : List Int) (a1 : Int) : Option (Bool) := spec_l7Has.l0 k l0 a1 0
theorem spec_l7Has.mono_l : ∀ k, (∀ y0 y1 y2, LeO (spec_l7Has.l0 k y0 y1 y2) (spec_l7Has.l0 (k + 1) y0 y1 y2))
  | 0 => fun _ _ _ r h => by simp [spec_l7Has.l0] at h
  | k + 1 => by
    have ih0 := spec_l7Has.mono_l k
    · intro y0 y1 y2
      unfold spec_l7Has.l0
      repeat' first
      | (with_reducible exact ih0 _ _ _)
      | (with_reducible exact LeO.refl _)
      | (with_reducible exact LeO.none _)
      | (with_reducible refine LeO.ite ?_ ?_)
      | (with_reducible refine LeO.bind ?_ (fun _ => ?_))
      | exact ih0 _ _ _
      | exact LeO.none _
      | refine LeO.ite ?_ ?_
      | refine LeO.bind ?_ (fun _ => ?_)
theorem spec_l7Has.mono : ∀ a0 a1 k, LeO (spec_l7Has.f k a0 a1) (spec_l7Has.f (k + 1) a0 a1) := by
  intro a0 a1 k
  have ih0 := spec_l7Has.mono_l k
  unfold spec_l7Has.f
  repeat' first
      | (with_reducible exact ih0 _ _ _)
      | (with_reducible exact LeO.refl _)
      | (with_reducible exact LeO.none _)
      | (with_reducible refine LeO.ite ?_ ?_)
      | (with_reducible refine LeO.bind ?_ (fun _ => ?_))
      | exact ih0 _ _ _
      | exact LeO.none _
      | refine LeO.ite ?_ ?_
      | refine LeO.bind ?_ (fun _ => ?_)
set_option maxHeartbeats 8000000 in
set_option maxRecDepth 100000 in
theorem spec_l7Has.calls (k : Nat) (A0 : Option Addr) (c0 : Nat) (l0 : List Int) (a1 : Int) (r : Bool) (w : World) (hr0 : Kd.C (Kd.int .i64) w A0 l0.length l0) (hc0 : l0.length ≤ c0) (h : spec_l7Has.f k l0 a1 = some r) :
    Calls Try.prog 87 #[.slice A0 l0.length c0, .int .i64 a1] w fun e w' => e = .returned (.bool r) ∧ Drawn0 w w' := by
  have HR0 := Aside0.mk hr0
  have HC0 := Aside0.mk hc0
  clear hr0 hc0
  have H : (spec_l7Has.l0 k l0 a1 0) = some r := h
  clear h
  have H' := Aside0.mk H
  clear H
  go_enter Try.func87, Try.ntmps87
  go_wp2
  go_loopg [5] k (fun kq v5 w' => ∃ (x5_1 : Int), v5 = .int .i64 x5_1 ∧ Aside0 (spec_l7Has.l0 kq l0 a1 x5_1 = some r) ∧ Aside0 (kq ≤ k) ∧ Drawn0 w w')
  case atStart => exact ⟨(0), (by first | rfl | (simp; done) | (simp [*]; done)), H', ⟨Nat.le_refl _⟩, by repeat (first | exact Drawn0.refl _ | apply Drawn0.step)⟩
  case round =>
    clear H'
    try clear p2
    obtain ⟨x5_1, rfl, HA, HK1, ⟨m1, rfl⟩⟩ := hrel
    cases gk with
    | zero => exact absurd HA.out (by simp [spec_l7Has.l0])
    | succ k1 =>
      have H := HA.out
      clear HA
      simp only [spec_l7Has.l0] at H
      by_cases c3 : x5_1 < (l0.length : Int)
      · rw [if_pos c3] at H
        have c3b0 : decide (x5_1 < (l0.length : Int)) = true := decide_eq_true c3
        clear c3
        by_cases c4 : 0 ≤ x5_1
        · rw [if_pos c4] at H
          have c4b0 : decide (0 ≤ x5_1) = true := decide_eq_true c4
          clear c4
          by_cases c5 : (rd l0 x5_1) = a1
          · rw [if_pos c5] at H
            have c5b0 : ((rd l0 x5_1) == a1) = true := beq_iff_eq.mpr c5
            have c5b1 : ((rd l0 x5_1) != a1) = false := bne_eq_false_iff_eq.mpr c5
            clear c5
            obtain rfl := Option.some.inj H
            have p567 : 0 ≤ (x5_1 : Int) := of_decide_eq_true (by first | (with_reducible assumption) | assumption)
            have q567 : x5_1 < (l0.length : Int) := of_decide_eq_true (by first | (with_reducible assumption) | assumption)
            obtain ⟨ad567, e567, hx567_0⟩ := Kd.at_int HR0.out x5_1 p567 q567
            cases e567
            replace p567 := eq_true p567
            replace q567 := eq_true q567
            go_wp2
            go_ret
            exact ⟨by first | rfl | (simp; done) | (simp [*]; done), by repeat (first | exact Drawn0.refl _ | apply Drawn0.step)⟩
          · rw [if_neg c5] at H
            have c5b0 : ((rd l0 x5_1) == a1) = false := beq_eq_false_iff_ne.mpr c5
            have c5b1 : ((rd l0 x5_1) != a1) = true := bne_iff_ne.mpr c5
            have H' := Aside0.mk H
            clear H
            have p567 : 0 ≤ (x5_1 : Int) := of_decide_eq_true (by first | (with_reducible assumption) | assumption)
            have q567 : x5_1 < (l0.length : Int) := of_decide_eq_true (by first | (with_reducible assumption) | assumption)
            obtain ⟨ad567, e567, hx567_0⟩ := Kd.at_int HR0.out x5_1 p567 q567
            cases e567
            replace p567 := eq_true p567
            replace q567 := eq_true q567
            go_wp2
            go_roundg k1
            case measure => have := HK1.out; omega
            case rel => exact ⟨(wrap64 (x5_1 + 1)), (by first | rfl | (simp; done) | (simp [*]; done)), H', ⟨by have := HK1.out; omega⟩, by repeat (first | exact Drawn0.refl _ | apply Drawn0.step)⟩
        · rw [if_neg c4] at H
          exact absurd H (by simp)
      · rw [if_neg c3] at H
        have c3b0 : decide (x5_1 < (l0.length : Int)) = false := decide_eq_false c3
        clear c3
        obtain rfl := Option.some.inj H
        go_wp2
        go_ret
        exact ⟨by first | rfl | (simp; done) | (simp [*]; done), by repeat (first | exact Drawn0.refl _ | apply Drawn0.step)⟩

end Go.Proofs.Ytngjaajcdbodeaa.All

namespace Go.Proofs.Ytngjaajcdbodeaa.All
open Go.RowKit Go.Proofs.YtngjaajcdbodeaaW.PrintWords Go.Proofs.YtngjaajcdbodeaaW.PrintLast Go.Proofs.YtngjaajcdbodeaaW.PrintMore
attribute [local go_sem] max2_int min2_int max_two min_two max_three min_three max_four min_four   -- for this text's walks alone
set_option linter.unusedVariables false
set_option linter.unusedSimpArgs false

/-! ### spec_l1In: function 72 -/
def spec_l1In.f (a0 : Int) (a1 : Int) (a2 : Int) : Option (Bool) := if a0 ≥ a1 then (some (decide (a0 ≤ a2))) else (some false)
set_option maxHeartbeats 8000000 in
set_option maxRecDepth 100000 in
theorem spec_l1In.calls (a0 : Int) (a1 : Int) (a2 : Int) (r : Bool) (w : World) (h : spec_l1In.f a0 a1 a2 = some r) :
    Calls Try.prog 72 #[.int .i64 a0, .int .i64 a1, .int .i64 a2] w fun e w' => e = .returned (.bool r) ∧ Drawn0 w w' := by
  have H : (if a0 ≥ a1 then (some (decide (a0 ≤ a2))) else (some false)) = some r := h
  clear h
  by_cases c4 : a0 ≥ a1
  · rw [if_pos c4] at H
    have c4b0 : decide (a1 ≤ a0) = true := decide_eq_true c4
    clear c4
    obtain rfl := Option.some.inj H
    go_enter Try.func72, Try.ntmps72
    go_wp2
    go_ret
    exact ⟨by first | rfl | (simp; done) | (simp [*]; done), by repeat (first | exact Drawn0.refl _ | apply Drawn0.step)⟩
  · rw [if_neg c4] at H
    have c4b0 : decide (a1 ≤ a0) = false := decide_eq_false c4
    clear c4
    obtain rfl := Option.some.inj H
    go_enter Try.func72, Try.ntmps72
    go_wp2
    go_ret
    exact ⟨by first | rfl | (simp; done) | (simp [*]; done), by repeat (first | exact Drawn0.refl _ | apply Drawn0.step)⟩

end Go.Proofs.Ytngjaajcdbodeaa.All

/- The pages that are reached from a page: the model of both walks over a book, and the reference's walk comes to it. No condition. -/
namespace Go.Proofs.Ytngjaajcdbodeaa.All
open Go.RowKit Go.Proofs.YtngjaajcdbodeaaW.PrintWords Go.Proofs.YtngjaajcdbodeaaW.PrintLast Go.Proofs.YtngjaajcdbodeaaW.PrintMore
set_option linter.unusedVariables false
set_option linter.unusedSimpArgs false

/-- Page i is there and used. -/
def pgOk (ps : List S90) (i : Int) : Prop := 0 ≤ i ∧ i < (ps.length : Int) ∧ (rd_T90 ps i).f0 = true
instance (ps : List S90) (i : Int) : Decidable (pgOk ps i) := inferInstanceAs (Decidable (_ ∧ _ ∧ _))
mutual
/-- What is reached from page i on, behind out; at most k steps deep. -/
def walkM : Nat → List S90 → Int → List Int → Option (List Int)
  | 0, _, _, _ => none
  | k + 1, ps, i, out => if pgOk ps i then (if out.length < 17592186044415 then (if i ∈ out then some out else walkL k ps (rd_T90 ps i).f1.f0 (rd_T90 ps i).f1.f1 (out ++ [i]) 0) else none) else some out
def walkL : Nat → List S90 → Bool → List S103 → List Int → Int → Option (List Int)
  | 0, _, _, _, _, _ => none
  | k + 1, ps, b, es, out, x => if x < (es.length : Int) then (if b = true then some out else if 0 ≤ x then (walkM k ps (rd_T103 es x).f0 out).bind fun o => walkL k ps b es o (wrap64 (x + 1)) else none) else some out
end
theorem walk_mono : ∀ k, (∀ ps i out, LeO (walkM k ps i out) (walkM (k + 1) ps i out)) ∧ (∀ ps b es out x, LeO (walkL k ps b es out x) (walkL (k + 1) ps b es out x))
  | 0 => ⟨fun _ _ _ r h => by simp [walkM] at h, fun _ _ _ _ _ r h => by simp [walkL] at h⟩
  | k + 1 => by
    obtain ⟨h1, h2⟩ := walk_mono k
    refine ⟨fun ps i out => ?_, fun ps b es out x => ?_⟩
    · rw [walkM, walkM]
      exact LeO.ite (LeO.ite (LeO.ite (LeO.refl _) (h2 _ _ _ _ _)) (LeO.refl _)) (LeO.refl _)
    · rw [walkL, walkL]
      exact LeO.ite (LeO.ite (LeO.refl _) (LeO.ite (LeO.bind (h1 _ _ _) (fun _ => h2 _ _ _ _ _)) (LeO.refl _))) (LeO.refl _)

/-- The reference asks whether a number is among others. -/
theorem has_f (l : List Int) (n : Int) (hl : l.length ≤ 4611686018427387904) : ∃ k, spec_l7Has.f k l n = some (decide (n ∈ l)) := by
  have key : ∀ d i, i + d = l.length → (∀ j, j < i → l.getD j 0 ≠ n) → ∃ k, spec_l7Has.l0 k l n (i : Int) = some (decide (n ∈ l)) := by
    intro d
    induction d with
    | zero =>
      intro i hi hno
      refine ⟨1, ?_⟩
      rw [spec_l7Has.l0, if_neg (by omega)]
      congr 1
      symm
      rw [decide_eq_false_iff_not]
      intro hm
      obtain ⟨j, hj, e⟩ := List.getElem_of_mem hm
      refine hno j (by omega) ?_
      rw [List.getD_eq_getElem?_getD, List.getElem?_eq_getElem hj]
      exact e
    | succ d ih =>
      intro i hi hno
      have hil : i < l.length := by omega
      have hrd : rd l (i : Int) = l.getD i 0 := rfl
      by_cases he : l.getD i 0 = n
      · refine ⟨1, ?_⟩
        rw [spec_l7Has.l0, if_pos (by omega), if_pos (by omega), hrd, if_pos he]
        congr 1
        symm
        rw [decide_eq_true_iff]
        rw [List.getD_eq_getElem?_getD, List.getElem?_eq_getElem hil] at he
        rw [← he]
        exact List.getElem_mem hil
      · obtain ⟨k, hk⟩ := ih (i + 1) (by omega) (fun j hj => by
          rcases Nat.lt_or_ge j i with h | h
          · exact hno j h
          · have : j = i := by omega
            subst this
            exact he)
        refine ⟨k + 1, ?_⟩
        have hw : wrap64 ((i : Int) + 1) = ((i + 1 : Nat) : Int) := by
          unfold wrap64
          omega
        rw [spec_l7Has.l0, if_pos (by omega), if_pos (by omega), hrd, if_neg he, hw]
        exact hk
  exact key l.length 0 (by omega) (fun j hj => absurd hj (Nat.not_lt_zero _))
theorem in_range (n : Nat) (hn : n ≤ 9223372036854775807) (i : Int) : spec_l1In.f i 0 ((n : Int) - 1) = some (decide (0 ≤ i ∧ i < (n : Int))) := by
  unfold spec_l1In.f
  by_cases h : i ≥ 0
  · rw [if_pos h]
    congr 1
    rw [decide_eq_decide]
    omega
  · rw [if_neg h]
    congr 1
    symm
    rw [decide_eq_false_iff_not]
    omega

theorem hinfoInt : (Try.prog.info? 3).map (fun i => (i.zero, i.size, i.bytes)) = some (some (.int .i64 0), 1, 8) := by kernel_rfl

theorem ow_of {u v1 : Value} {lo mid : Nat} (hlo : lo ≤ mid) (h : v1.ownBlock = u.ownBlock ∨ ∃ b, v1.ownBlock = some b ∧ mid ≤ b) : ∀ k, some k = v1.ownBlock → some k = u.ownBlock ∨ lo ≤ k := by
  intro k hk
  rcases h with h | ⟨b, hb, hlt⟩
  · exact .inl (hk.trans h)
  · rw [hb] at hk
    injection hk with hk
    rw [hk]
    exact .inr (Nat.le_trans hlo hlt)

/-- What the reference's walk leaves: the row, and all that stood is as it was but for the row that was handed over. -/
def WalkPost (w0 w : World) (v : Value) (r : List Int) (e : Ending) (w' : World) : Prop :=
  ∃ v', e = .returned v' ∧ Kd.R (Kd.int .i64) 3 w' w0.heap.size (fun _ => True) v' r ∧ Below w0.heap.size w0 w' ∧ Kept w w' (fun k => some k = v.ownBlock) ∧ (∀ k, some k = v'.ownBlock → some k = v.ownBlock ∨ w.heap.size ≤ k)
def WalkSaid (w0 : World) (A : Option Addr) (c : Nat) (ps : List S90) (k : Nat) : Prop :=
  ∀ (root i : Int) (v : Value) (xs r : List Int) (w : World), Below w0.heap.size w0 w → Kd.R (Kd.int .i64) 3 w w0.heap.size (fun _ => True) v xs → walkM k ps i xs = some r →
    Calls Try.prog 124 #[.agg #[.int .i64 root, .slice A ps.length c], .int .i64 i, v] w (WalkPost w0 w v r)

set_option maxHeartbeats 8000000 in
set_option maxRecDepth 100000 in
/-- Where page i is not there, or not used. -/
theorem walk_out (w0 : World) (A : Option Addr) (c : Nat) (ps : List S90) (hr0 : Kd.C k90 w0 A ps.length ps) (hc0 : ps.length ≤ c)
    (root i : Int) (v : Value) (xs : List Int) (w : World) (hb : Below w0.heap.size w0 w) (hv : Kd.R (Kd.int .i64) 3 w w0.heap.size (fun _ => True) v xs) (hno : ¬ pgOk ps i) :
    Calls Try.prog 124 #[.agg #[.int .i64 root, .slice A ps.length c], .int .i64 i, v] w (WalkPost w0 w v xs) := by
  have HR := Aside0.mk hr0
  have HB := Aside0.mk hb
  have HO := Aside0.mk hv
  have hmax : ps.length ≤ 9223372036854775807 := hr0.2.1
  have HIN := Aside0.mk (in_range ps.length hmax i)
  have HNO := Aside0.mk hno
  clear hr0 hc0 hb hv hno
  obtain ⟨Av, cv, ev⟩ := Kd.R_slice HO.out
  subst ev
  have hu1 := Try.underlying90
  have hu2 := Try.underlying49
  by_cases hin : 0 ≤ i ∧ i < (ps.length : Int)
  · obtain ⟨h0, h1⟩ := hin
    have hus : (rd_T90 ps i).f0 = false := by
      cases hu : (rd_T90 ps i).f0 with
      | false => rfl
      | true => exact absurd ⟨h0, h1, hu⟩ HNO.out
    rw [decide_eq_true (show 0 ≤ i ∧ i < (ps.length : Int) from ⟨h0, h1⟩)] at HIN
    obtain ⟨ad, A2, c2, e2, hx0, hx1, hx2, _, _⟩ := at_T90 (Kd.C_below HR.out HB.out) i h0 h1
    subst e2
    rw [hus] at hx0
    clear hus hx1 hx2
    go_enter Try.func124, Try.ntmps124
    go_wp2_with (first
      | ((with_reducible refine gate_dst (N := 3) rfl ?_); refine box_event ?hg (N := 3) ?hd (cs := #[.int .i64 root, .slice (some ad) ps.length c]) (t := 49) ?hr ?_; (case hd => rfl); (case hg => rfl); (case hr => first | (go_simp; done) | (go_simp; rfl)); intro g3 hg w3 hbox hb3; replace hx0 := (hb3.cell (World.block_lt_of_cell? w _ hx0)).trans hx0; have hk1 : w3.cell? ⟨g3, 1, none⟩ = some (.slice (some ad) ps.length c) := (blk_cell hbox 1).trans rfl; have HW3 := Aside0.mk hb3; clear hb3 hg hbox)
      | (go_at_call 72; refine (spec_l1In.calls _ _ _ _ _ HIN.out).mono ?_; rintro e w' ⟨rfl, ⟨⟨n, rfl⟩⟩⟩))
    go_ret
    exact ⟨_, rfl, Kd.R_below HO.out (pw_below_drewN HW3.out _), pw_below_drewN (below_step HB.out HW3.out) _, (Kept.of_below (pw_below_drewN HW3.out _) _), fun k hk => .inl hk⟩
  · rw [decide_eq_false hin] at HIN
    go_enter Try.func124, Try.ntmps124
    go_wp2_with (first
      | ((with_reducible refine gate_dst (N := 3) rfl ?_); refine box_event ?hg (N := 3) ?hd (cs := #[.int .i64 root, .slice A ps.length c]) (t := 49) ?hr ?_; (case hd => rfl); (case hg => rfl); (case hr => first | (go_simp; done) | (go_simp; rfl)); intro g3 hg w3 hbox hb3; have hk1 : w3.cell? ⟨g3, 1, none⟩ = some (.slice A ps.length c) := (blk_cell hbox 1).trans rfl; have HW3 := Aside0.mk hb3; clear hb3 hg hbox)
      | (go_at_call 72; refine (spec_l1In.calls _ _ _ _ _ HIN.out).mono ?_; rintro e w' ⟨rfl, ⟨⟨n, rfl⟩⟩⟩))
    go_ret
    exact ⟨_, rfl, Kd.R_below HO.out (pw_below_drewN HW3.out _), pw_below_drewN (below_step HB.out HW3.out) _, (Kept.of_below (pw_below_drewN HW3.out _) _), fun k hk => .inl hk⟩

set_option maxHeartbeats 8000000 in
set_option maxRecDepth 100000 in
/-- Where page i is among those that were reached. -/
theorem walk_met (w0 : World) (A : Option Addr) (c : Nat) (ps : List S90) (hr0 : Kd.C k90 w0 A ps.length ps) (hc0 : ps.length ≤ c)
    (root i : Int) (v : Value) (xs : List Int) (w : World) (hb : Below w0.heap.size w0 w) (hv : Kd.R (Kd.int .i64) 3 w w0.heap.size (fun _ => True) v xs) (hyes : pgOk ps i) (q : Nat) (hin : spec_l7Has.f q xs i = some true) :
    Calls Try.prog 124 #[.agg #[.int .i64 root, .slice A ps.length c], .int .i64 i, v] w (WalkPost w0 w v xs) := by
  have HR := Aside0.mk hr0
  have HB := Aside0.mk hb
  have HO := Aside0.mk hv
  have hmax : ps.length ≤ 9223372036854775807 := hr0.2.1
  have HIN := Aside0.mk (in_range ps.length hmax i)
  have HH := Aside0.mk hin
  clear hr0 hc0 hb hv hin
  obtain ⟨Av, cv, ev⟩ := Kd.R_slice HO.out
  subst ev
  obtain ⟨_, hvc, hvC⟩ := Kd.R_reads' HO.out
  have HVC := Aside0.mk hvC
  have HVL := Aside0.mk hvc
  clear hvC hvc
  have hu1 := Try.underlying90
  have hu2 := Try.underlying49
  obtain ⟨h0, h1, hus⟩ := hyes
  rw [decide_eq_true (show 0 ≤ i ∧ i < (ps.length : Int) from ⟨h0, h1⟩)] at HIN
  obtain ⟨ad, A2, c2, e2, hx0, hx1, hx2, _, _⟩ := at_T90 (Kd.C_below HR.out HB.out) i h0 h1
  subst e2
  rw [hus] at hx0
  clear hus hx1 hx2
  go_enter Try.func124, Try.ntmps124
  go_wp2_with (first
    | ((with_reducible refine gate_dst (N := 3) rfl ?_); refine box_event ?hg (N := 3) ?hd (cs := #[.int .i64 root, .slice (some ad) ps.length c]) (t := 49) ?hr ?_; (case hd => rfl); (case hg => rfl); (case hr => first | (go_simp; done) | (go_simp; rfl)); intro g3 hg w3 hbox hb3; replace hx0 := (hb3.cell (World.block_lt_of_cell? w _ hx0)).trans hx0; have hk1 : w3.cell? ⟨g3, 1, none⟩ = some (.slice (some ad) ps.length c) := (blk_cell hbox 1).trans rfl; have HW3 := Aside0.mk hb3; clear hb3 hg hbox)
    | (go_at_call 72; refine (spec_l1In.calls _ _ _ _ _ HIN.out).mono ?_; rintro e w' ⟨rfl, ⟨⟨n, rfl⟩⟩⟩)
    | (go_at_call 87; refine (spec_l7Has.calls q _ _ xs i true _ (Kd.C_drewN (Kd.C_below HVC.out HW3.out) _) HVL.out HH.out).mono ?_; rintro e w' ⟨rfl, ⟨⟨n2, rfl⟩⟩⟩))
  go_ret
  exact ⟨_, rfl, Kd.R_below HO.out (pw_below_drewN HW3.out _), pw_below_drewN (below_step HB.out HW3.out) _, (Kept.of_below (pw_below_drewN HW3.out _) _), fun k hk => .inl hk⟩

set_option maxHeartbeats 16000000 in
set_option maxRecDepth 100000 in
/-- Where page i is new. -/
theorem walk_new (w0 : World) (A : Option Addr) (c : Nat) (ps : List S90) (hr0 : Kd.C k90 w0 A ps.length ps) (hc0 : ps.length ≤ c) (k : Nat) (ih : ∀ k', k' ≤ k → WalkSaid w0 A c ps k')
    (root i : Int) (v : Value) (xs r : List Int) (w : World) (hb : Below w0.heap.size w0 w) (hv : Kd.R (Kd.int .i64) 3 w w0.heap.size (fun _ => True) v xs) (hyes : pgOk ps i) (q : Nat) (hin : spec_l7Has.f q xs i = some false)
    (hlen : xs.length < 17592186044415) (h : walkL k ps (rd_T90 ps i).f1.f0 (rd_T90 ps i).f1.f1 (xs ++ [i]) 0 = some r) :
    Calls Try.prog 124 #[.agg #[.int .i64 root, .slice A ps.length c], .int .i64 i, v] w (WalkPost w0 w v r) := by
  have HR := Aside0.mk hr0
  have HCC := Aside0.mk hc0
  have HB := Aside0.mk hb
  have HO := Aside0.mk hv
  have IH := Aside0.mk ih
  have HLEN := Aside0.mk hlen
  have hmax : ps.length ≤ 9223372036854775807 := hr0.2.1
  have HIN := Aside0.mk (in_range ps.length hmax i)
  have HH := Aside0.mk hin
  have H' := Aside0.mk h
  clear hr0 hc0 hb hv hin ih hlen h
  obtain ⟨Av, cv, ev⟩ := Kd.R_slice HO.out
  subst ev
  obtain ⟨_, hvc, hvC⟩ := Kd.R_reads' HO.out
  have HVC := Aside0.mk hvC
  have HVL := Aside0.mk hvc
  clear hvC hvc
  have hu1 := Try.underlying90
  have hu2 := Try.underlying49
  have hu3 := Try.underlying54
  obtain ⟨h0, h1, hus⟩ := hyes
  rw [decide_eq_true (show 0 ≤ i ∧ i < (ps.length : Int) from ⟨h0, h1⟩)] at HIN
  obtain ⟨ad, A2, c2, e2, hz0, hz1, hz2, hl2, hC2⟩ := at_T90 HR.out i h0 h1
  subst e2
  rw [hus] at hz0
  clear hus
  have HC2 := Aside0.mk hC2
  have HL2 := Aside0.mk hl2
  have HZ0 := Aside0.mk hz0
  have HZ1 := Aside0.mk hz1
  have HZ2 := Aside0.mk hz2
  have hx0 := (HB.out.cell (World.block_lt_of_cell? w0 _ hz0)).trans hz0
  clear hC2 hl2 hz0 hz1 hz2
  obtain ⟨bl, hbl⟩ : ∃ b : Bool, b = (rd_T90 ps i).f1.f0 := ⟨_, rfl⟩
  obtain ⟨es, hes⟩ : ∃ l : List S103, l = (rd_T90 ps i).f1.f1 := ⟨_, rfl⟩
  rw [← hbl] at HZ1 H'
  rw [← hes] at HZ2 H' HC2 HL2
  clear hbl hes
  go_enter Try.func124, Try.ntmps124
  go_wp2_with (first
    | ((with_reducible refine gate_dst (N := 3) rfl ?_); refine box_event ?hg (N := 3) ?hd (cs := #[.int .i64 root, .slice (some ad) ps.length c]) (t := 49) ?hr ?_; (case hd => rfl); (case hg => rfl); (case hr => first | (go_simp; done) | (go_simp; rfl)); intro g3 hg w3 hbox hb3; replace hx0 := (hb3.cell (World.block_lt_of_cell? w _ hx0)).trans hx0; have hk1 : w3.cell? ⟨g3, 1, none⟩ = some (.slice (some ad) ps.length c) := (blk_cell hbox 1).trans rfl; have HW3 := Aside0.mk hb3; have BK3 := Aside0.mk hbox; have GW3 := Aside0.mk (by rw [hg]; exact Nat.le_refl _ : w.heap.size ≤ g3); clear hb3 hg hbox)
    | (go_at_call 72; refine (spec_l1In.calls _ _ _ _ _ HIN.out).mono ?_; rintro e w' ⟨rfl, ⟨⟨n, rfl⟩⟩⟩)
    | (go_at_call 87; refine (spec_l7Has.calls q _ _ xs i false _ (Kd.C_drewN (Kd.C_below HVC.out HW3.out) _) HVL.out HH.out).mono ?_; rintro e w' ⟨rfl, ⟨⟨n2, rfl⟩⟩⟩)
    | ((with_reducible refine gate_builtin (b := .append) (xs := #[.tmp 31, .tmp 33]) rfl ?_); at_builtin; refine Kd.R_append (Kd.int .i64) (w0 := w0) w0.heap.size rfl (.tmp 31) (.tmp 33) 64 3 (.int .i64 0) 8 rfl Try.underlying64 hinfoInt rfl (by decide) (by omega) (.slice Av xs.length cv) xs i [.int .i64 i] (fun _ => True) (fun _ => False) rfl rfl rfl (fun _ hk => hk.elim) (fun _ _ => trivial) (Kd.R_below HO.out (pw_below_drewN HW3.out _)) (pw_below_drewN (below_step HB.out HW3.out) _) (Nat.le_trans HB.out.size HW3.out.size) (by have := HLEN.out; omega) ?_; intro v5 w5 ho5 hb5 hg5 hat5; have HO5 := Aside0.mk ho5; have HB5 := Aside0.mk hb5; have BK5 := Aside0.mk (blk_grown (blk_drewN BK3.out _) hg5 (fun e => by have := Kd.R_lt HO.out g3 e.symm; have := GW3.out; omega)); have KP5 := Aside0.mk (Kept.of_grown hg5 (Kept.of_below (pw_below_drewN HW3.out _) (fun k => some k = (Value.slice Av xs.length cv).ownBlock)) (fun _ hk => .inl hk.symm)); have OW5 := Aside0.mk (ow_of (Nat.le_trans HW3.out.size (Nat.le_refl _)) hat5); replace hx0 := (hb5.cell (World.block_lt_of_cell? w0 _ HZ0.out)).trans HZ0.out; have hx1 := (hb5.cell (World.block_lt_of_cell? w0 _ HZ1.out)).trans HZ1.out; have hx2 := (hb5.cell (World.block_lt_of_cell? w0 _ HZ2.out)).trans HZ2.out; replace hk1 : w5.cell? ⟨g3, 1, none⟩ = some (.slice (some ad) ps.length c) := (blk_cell BK5.out 1).trans rfl; clear ho5 hb5 hg5 hat5 BK3)
    | ((with_reducible refine gate_dst (N := 7) rfl ?_); refine box_event ?hg (N := 7) ?hd (cs := #[.bool false, .slice none 0 0]) (t := 54) ?hr ?_; (case hd => rfl); (case hg => rfl); (case hr => first | (go_simp; done) | (go_simp; rfl)); intro g7 hg w7 hbox hb7; replace hx0 := (hb7.cell (World.block_lt_of_cell? _ _ hx0)).trans hx0; replace hx1 := (hb7.cell (World.block_lt_of_cell? _ _ hx1)).trans hx1; replace hx2 := (hb7.cell (World.block_lt_of_cell? _ _ hx2)).trans hx2; have hs0 : w7.cell? ⟨g7, 0, none⟩ = some (.bool false) := (blk_cell hbox 0).trans rfl; have hs1 : w7.cell? ⟨g7, 1, none⟩ = some (.slice none 0 0) := (blk_cell hbox 1).trans rfl; have hf0 := blk_frozen hbox 0; have hf1 := blk_frozen hbox 1; have HW7 := Aside0.mk hb7; have BK7 := Aside0.mk hbox; have GW7 := Aside0.mk hg; clear hb7 hg hbox)
    | ((with_reducible refine gate_store (t := 54) (p := 7) rfl ?_); refine store_event (t := 54) (p := 7) (v := ?vo8) (w1 := ((w7.setCell ⟨g7, 0, none⟩ (.bool bl)).setCell ⟨g7, 1, none⟩ (.slice A2 es.length c2))) ?hg ?ho ?hn ?hr ?_; (case ho => rfl); (case hg => rfl); (case hn => rfl); (case hr => first | (go_simp; done) | (go_simp; rfl)); intro w8 hw; have hb8 : Below w5.heap.size w5 w8 := by rw [hw]; exact below_set (below_set HW7.out (Nat.le_of_eq GW7.out.symm)) (Nat.le_of_eq GW7.out.symm)
       have n0_ := Aside0.mk (Kd.R_below HO5.out hb8)
       have n1_ := Aside0.mk (blk_below BK5.out hb8)
       have n2_ := Aside0.mk (show w8.heap[g7]? = some (.cells #[.bool bl, .slice A2 es.length c2] 54 (0, 0)) from by rw [hw]; exact blk_put (blk_put BK7.out 0 _ rfl) 1 _ rfl)
       have n3_ := Aside0.mk (below_step HB5.out hb8)
       have n4_ := Aside0.mk (Kept.below KP5.out hb8)
       clear HO5 BK5 BK7 HB5 KP5 hw hb8 HW7 GW7 hx0 hx1 hx2 hs0 hs1 hf0 hf1 hk1
       have HO := n0_
       have BK3 := n1_
       have BK7 := n2_
       have HBW := n3_
       have KP := n4_
       clear n0_ n1_ n2_ n3_ n4_))
  go_loopg [2, 8] k (fun kq v2 v8 w' => ∃ (o : List Int) (x : Int), v8 = .int .i64 x ∧ Aside0 (walkL kq ps bl es o x = some r) ∧ Aside0 (kq ≤ k) ∧ Aside0 (Kd.R (Kd.int .i64) 3 w' w0.heap.size (fun _ => True) v2 o) ∧ Aside0 (w'.heap[g3]? = some (.cells #[.int .i64 root, .slice (some ad) ps.length c] 49 (0, 0))) ∧ Aside0 (w'.heap[g7]? = some (.cells #[.bool bl, .slice A2 es.length c2] 54 (0, 0))) ∧ Aside0 (Below w0.heap.size w0 w') ∧ Aside0 (Kept w w' (fun k => some k = (Value.slice Av xs.length cv).ownBlock)) ∧ Aside0 (∀ k, some k = v2.ownBlock → some k = (Value.slice Av xs.length cv).ownBlock ∨ w.heap.size ≤ k))
  case atStart => exact ⟨xs ++ [i], 0, rfl, H', ⟨Nat.le_refl _⟩, HO, BK3, BK7, HBW, KP, OW5⟩
  case round =>
    clear H' HO BK3 BK7 HBW KP OW5
    obtain ⟨o, x, rfl, HA, HK1, HO, BK3, BK7, HBW, KP, OW⟩ := hrel
    cases gk with
    | zero => exact absurd HA.out (by simp [walkL])
    | succ k1 =>
      have H := HA.out
      clear HA
      rw [walkL] at H
      have hk0 : wr.cell? ⟨g7, 0, none⟩ = some (.bool bl) := (blk_cell BK7.out 0).trans rfl
      have hk1 : wr.cell? ⟨g7, 1, none⟩ = some (.slice A2 es.length c2) := (blk_cell BK7.out 1).trans rfl
      obtain ⟨Ao, co, eo⟩ := Kd.R_slice HO.out
      subst eo
      by_cases c1 : x < (es.length : Int)
      · rw [if_pos c1] at H
        have c1b : decide (x < (es.length : Int)) = true := decide_eq_true c1
        cases bl with
        | true =>
          rw [if_pos rfl] at H
          obtain rfl := Option.some.inj H
          go_wp2
          go_ret
          exact ⟨_, rfl, HO.out, HBW.out, KP.out, OW.out⟩
        | false =>
          rw [if_neg (by decide)] at H
          by_cases c2b : 0 ≤ x
          · rw [if_pos c2b] at H
            obtain ⟨o2, h2, H⟩ := Option.bind_eq_some_iff.mp H
            have H2 := Aside0.mk h2
            have H' := Aside0.mk H
            clear H h2
            try go_wp2
            obtain ⟨ad2, e2, hy0, -, -, -, -⟩ := at_T103 HC2.out x c2b c1
            subst e2
            have HY0 := Aside0.mk hy0
            replace hy0 := (HBW.out.cell (World.block_lt_of_cell? w0 _ hy0)).trans hy0
            have p290 := eq_true c1
            have q290 := eq_true c2b
            refine start_ (n := 10) (S := fun w' => w'.cell? ⟨g3, 0, none⟩ = some (.int .i64 root) ∧ w'.cell? ⟨g3, 1, none⟩ = some (.slice (some ad) ps.length c) ∧ w'.cell? ⟨g7, 1, none⟩ = some (.slice (some ad2) es.length c2) ∧ w'.cell? (ad2.add (x.toNat * 5)) = some (.int .i64 (rd_T103 es x).f0)) (ds := []) #[false, false, false, false, false, false, false, false, false, false] (by kernel_rfl) rfl rfl ⟨(blk_cell BK3.out 0).trans rfl, (blk_cell BK3.out 1).trans rfl, (blk_cell BK7.out 1).trans rfl, hy0⟩ (fun hHeld => ?_)
            have n0_ := Aside0.mk (Kd.R_drew HO.out)
            have n1_ := Aside0.mk (blk_drew BK3.out)
            have n2_ := Aside0.mk (blk_drew BK7.out)
            have n3_ := Aside0.mk (below_drew1 HBW.out)
            have n4_ := Aside0.mk (KP.out.drew)
            clear HO BK3 BK7 HBW KP hk0 hk1 hy0
            generalize wr.drew = w15 at n0_ n1_ n2_ n3_ n4_ hHeld ⊢
            refine pure_ (i := 1) (N := some 54) (v := ?_) (a' := ?_) #[false, true, false, false, false, false, false, false, false, false] rfl rfl (by kernel_rfl) (fun _ _ _ h => h) (Or.inl ⟨by rfl, ?_⟩) ?_ ?_
            rotate_left
            · intro w'
              go_simp
              with_reducible rfl
            rotate_left
            · simp only [Act.put, List.setIfInBounds_toArray, List.set_cons_zero, List.set_cons_succ, i64_w, i32_w]
              rfl
            refine pure_ (i := 3) (N := some 56) (v := ?_) (a' := ?_) #[false, true, false, true, false, false, false, false, false, false] rfl rfl (by kernel_rfl) (fun _ _ _ h => h) (Or.inl ⟨by rfl, ?_⟩) ?_ ?_
            rotate_left
            · intro w'
              go_simp
              with_reducible rfl
            rotate_left
            · simp only [Act.put, List.setIfInBounds_toArray, List.set_cons_zero, List.set_cons_succ, i64_w, i32_w]
              rfl
            refine pure_ (i := 7) (N := some 60) (v := ?_) (a' := ?_) #[false, true, false, true, false, false, false, true, false, false] rfl rfl (by kernel_rfl) (fun _ _ _ h => h) (Or.inl ⟨by rfl, ?_⟩) ?_ ?_
            rotate_left
            · intro w'
              go_simp
              with_reducible rfl
            rotate_left
            · simp only [Act.put, List.setIfInBounds_toArray, List.set_cons_zero, List.set_cons_succ, i64_w, i32_w]
              rfl
            refine take_ (i := 0) (N := some 53) (v := ?_) (a' := ?_) #[true, true, false, true, false, false, false, true, false, false] rfl rfl (by kernel_rfl) (fun _ _ _ h => h) (Or.inl ⟨by rfl, ?_⟩) hHeld ?_ ?_
            rotate_left
            · rintro w' ⟨s0, s1, s2, s3⟩
              go_simp
              with_reducible rfl
            rotate_left
            · simp only [Act.put, List.setIfInBounds_toArray, List.set_cons_zero, List.set_cons_succ, i64_w, i32_w]
              rfl
            refine take_ (i := 2) (N := some 55) (v := ?_) (a' := ?_) #[true, true, true, true, false, false, false, true, false, false] rfl rfl (by kernel_rfl) (fun _ _ _ h => h) (Or.inl ⟨by rfl, ?_⟩) hHeld ?_ ?_
            rotate_left
            · rintro w' ⟨s0, s1, s2, s3⟩
              go_simp
              with_reducible rfl
            rotate_left
            · simp only [Act.put, List.setIfInBounds_toArray, List.set_cons_zero, List.set_cons_succ, i64_w, i32_w]
              rfl
            refine pure_ (i := 4) (N := some 57) (v := ?_) (a' := ?_) #[true, true, true, true, true, false, false, true, false, false] rfl rfl (by kernel_rfl) (fun _ _ _ h => h) (Or.inl ⟨by rfl, ?_⟩) ?_ ?_
            rotate_left
            · intro w'
              go_simp
              with_reducible rfl
            rotate_left
            · simp only [Act.put, List.setIfInBounds_toArray, List.set_cons_zero, List.set_cons_succ, i64_w, i32_w]
              rfl
            refine pure_ (i := 5) (N := some 58) (v := ?_) (a' := ?_) #[true, true, true, true, true, true, false, true, false, false] rfl rfl (by kernel_rfl) (fun _ _ _ h => h) (Or.inl ⟨by rfl, ?_⟩) ?_ ?_
            rotate_left
            · intro w'
              go_simp
              with_reducible rfl
            rotate_left
            · simp only [Act.put, List.setIfInBounds_toArray, List.set_cons_zero, List.set_cons_succ, i64_w, i32_w]
              rfl
            refine take_ (i := 6) (N := some 59) (v := ?_) (a' := ?_) #[true, true, true, true, true, true, true, true, false, false] rfl rfl (by kernel_rfl) (fun _ _ _ h => h) (Or.inl ⟨by rfl, ?_⟩) hHeld ?_ ?_
            rotate_left
            · rintro w' ⟨s0, s1, s2, s3⟩
              go_simp
              with_reducible rfl
            rotate_left
            · simp only [Act.put, List.setIfInBounds_toArray, List.set_cons_zero, List.set_cons_succ, i64_w, i32_w]
              rfl
            refine one_ (i := 8) (N := some 61) #[true, true, true, true, true, true, true, true, true, false] rfl rfl (by kernel_rfl) (by decide) (fun K hK => ?_)
            refine call_ 124 #[.agg #[.int .i64 root, .slice (some ad) ps.length c], .int .i64 (rd_T103 es x).f0, .slice Ao o.length co] (by rfl) rfl (by first | (go_simp; done) | (go_simp; rfl)) ?_
            refine (IH.out k1 (by have := HK1.out; omega) root _ _ o o2 _ n3_.out n0_.out H2.out).mono ?_
            rintro e w16 ⟨v16, rfl, ho, hb, hk, hw⟩
            refine ⟨v16, rfl, ?_⟩
            have BK3 := Aside0.mk ((hk.2 _ (blk_lt n1_.out) (fun e => Kd.R_ne n0_.out n1_.out (by decide) e)).trans n1_.out)
            have BK7 := Aside0.mk ((hk.2 _ (blk_lt n2_.out) (fun e => Kd.R_ne n0_.out n2_.out (by decide) e)).trans n2_.out)
            have KP := Aside0.mk (Kept.then_ n4_.out hk (fun k e => OW.out k e))
            have OW2 := Aside0.mk (show ∀ k, some k = v16.ownBlock → some k = (Value.slice Av xs.length cv).ownBlock ∨ w.heap.size ≤ k from fun k e => (hw k e).elim (fun h => OW.out k h) (fun h => .inr (Nat.le_trans n4_.out.1 h)))
            have HO := Aside0.mk ho
            have HBW := Aside0.mk hb
            have hy0 := hHeld.2.2.2
            clear n0_ n1_ n2_ n3_ n4_ ho hb hk hw OW
            refine hK.out _ _ ⟨(blk_cell BK3.out 0).trans rfl, (blk_cell BK3.out 1).trans rfl, (blk_cell BK7.out 1).trans rfl, (HBW.out.cell (World.block_lt_of_cell? w0 _ HY0.out)).trans HY0.out⟩ (fun hHeld => ?_)
            refine norm_ (a' := ?_) ?_ ?_
            rotate_left
            · simp only [Act.put, List.setIfInBounds_toArray, List.set_cons_zero, List.set_cons_succ, i64_w, i32_w]
              rfl
            refine pure_ (i := 9) (N := some 2) (v := ?_) (a' := ?_) #[true, true, true, true, true, true, true, true, true, true] rfl rfl (by kernel_rfl) (fun _ _ _ h => h) (Or.inl ⟨by rfl, ?_⟩) ?_ ?_
            rotate_left
            · intro w'
              go_simp
              with_reducible rfl
            rotate_left
            · simp only [Act.put, List.setIfInBounds_toArray, List.set_cons_zero, List.set_cons_succ, i64_w, i32_w]
              rfl
            refine done_ (by kernel_rfl) ?_
            go_wp2
            go_roundg k1
            case measure => have := HK1.out; omega
            case rel => exact ⟨o2, wrap64 (x + 1), rfl, H', ⟨by have := HK1.out; omega⟩, HO, BK3, BK7, HBW, KP, OW2⟩
          · rw [if_neg c2b] at H
            exact absurd H (by simp)
      · rw [if_neg c1] at H
        have c1b : decide (x < (es.length : Int)) = false := decide_eq_false c1
        obtain rfl := Option.some.inj H
        go_wp2
        go_ret
        exact ⟨_, rfl, HO.out, HBW.out, KP.out, OW.out⟩

theorem spec_walk (w0 : World) (A : Option Addr) (c : Nat) (ps : List S90) (hr0 : Kd.C k90 w0 A ps.length ps) (hc0 : ps.length ≤ c) : ∀ k k', k' ≤ k → WalkSaid w0 A c ps k'
  | 0, k', hk => by
    obtain rfl : k' = 0 := by omega
    intro root i v xs r w _ _ h
    simp [walkM] at h
  | k + 1, k', hk => by
    rcases Nat.lt_or_ge k' (k + 1) with hlt | hge
    · exact spec_walk w0 A c ps hr0 hc0 k k' (by omega)
    obtain rfl : k' = k + 1 := by omega
    intro root i v xs r w hb hv h
    rw [walkM] at h
    by_cases h1 : pgOk ps i
    · rw [if_pos h1] at h
      by_cases h3 : xs.length < 17592186044415
      · rw [if_pos h3] at h
        obtain ⟨q, hq⟩ := has_f xs i (by omega)
        by_cases h2 : i ∈ xs
        · rw [if_pos h2] at h
          obtain rfl := Option.some.inj h
          rw [decide_eq_true h2] at hq
          exact walk_met w0 A c ps hr0 hc0 root i v xs w hb hv h1 q hq
        · rw [if_neg h2] at h
          rw [decide_eq_false h2] at hq
          exact walk_new w0 A c ps hr0 hc0 k (fun k' hk' => spec_walk w0 A c ps hr0 hc0 k k' hk') root i v xs r w hb hv h1 q hq h3 h
      · rw [if_neg h3] at h
        exact absurd h (by simp)
    · rw [if_neg h1] at h
      obtain rfl := Option.some.inj h
      exact walk_out w0 A c ps hr0 hc0 root i v xs w hb hv h1

/-- The reference's Reach. -/
def spec_Reach.f (k : Nat) (a0_0 : Int) (l0_1 : List S90) : Option (List Int) := walkM k l0_1 a0_0 []
theorem spec_Reach.mono : ∀ a0 a1 k, LeO (spec_Reach.f k a0 a1) (spec_Reach.f (k + 1) a0 a1) := fun a0 a1 k => (walk_mono k).1 _ _ _
set_option maxHeartbeats 8000000 in
set_option maxRecDepth 100000 in
theorem spec_Reach.calls (k : Nat) (a0_0 : Int) (A0_1 : Option Addr) (c0_1 : Nat) (l0_1 : List (S90)) (r : List Int) (w : World) (hr0_1 : Kd.C k90 w A0_1 l0_1.length l0_1) (hc0_1 : l0_1.length ≤ c0_1) (h : spec_Reach.f k a0_0 l0_1 = some r) :
    Calls Try.prog 85 #[.agg #[.int .i64 a0_0, .slice A0_1 l0_1.length c0_1]] w fun e w' => ∃ v0_ : Value, e = .returned (v0_) ∧ Kd.R (Kd.int .i64) 3 w' w.heap.size (fun _ => True) v0_ r ∧ Below w.heap.size w w' := by
  have HS := Aside0.mk (spec_walk w A0_1 c0_1 l0_1 hr0_1 hc0_1 k k (Nat.le_refl _))
  have H' := Aside0.mk h
  clear hr0_1 hc0_1 h
  have hu2 := Try.underlying49
  go_enter Try.func85, Try.ntmps85
  go_wp2_with (first
    | ((with_reducible refine gate_dst (N := 1) rfl ?_); refine box_event ?hg (N := 1) ?hd (cs := #[.int .i64 a0_0, .slice A0_1 l0_1.length c0_1]) (t := 49) ?hr ?_; (case hd => rfl); (case hg => rfl); (case hr => first | (go_simp; done) | (go_simp; rfl)); intro g1 hg w1 hbox hb1; have hk0 : w1.cell? ⟨g1, 0, none⟩ = some (.int .i64 a0_0) := (blk_cell hbox 0).trans rfl; have hk1 : w1.cell? ⟨g1, 1, none⟩ = some (.slice A0_1 l0_1.length c0_1) := (blk_cell hbox 1).trans rfl; have HW1 := Aside0.mk hb1; clear hb1 hg hbox)
    | ((with_reducible refine gate_dst (N := 6) rfl ?_); refine Kd.R_lit (Kd.int .i64) _ 3 ?hg (N := 6) ?hd (xs := ([] : List Int)) (inner := []) (ok := fun _ => True) (okp := fun _ => True) ?hr ?hp (fun _ hk => hk) trivial (Below.refl _ _) (Nat.le_refl _) (by simp) ?_; (case hd => rfl); (case hg => rfl); (case hr => first | (go_simp; done) | (go_simp; rfl)); (case hp => exact (Reps.none _ _)); intro v6 w6 ho6 hb6 hg6 hn6; have HO6 := Aside0.mk ho6; have HB6 := Aside0.mk hb6; clear ho6 hb6 hg6 hn6)
    | (go_at_call 124; refine (HS.out a0_0 a0_0 _ [] r _ (below_step HW1.out HB6.out) (Kd.R_lower HO6.out HW1.out.size) H'.out).mono ?_; rintro e w7 ⟨v7, rfl, ho, hb, -, -⟩))
  go_ret
  exact ⟨_, rfl, ho, hb⟩

end Go.Proofs.Ytngjaajcdbodeaa.All

namespace Go.Proofs.Ytngjaajcdbodeaa.All
open Go.RowKit Go.Proofs.YtngjaajcdbodeaaW.PrintWords Go.Proofs.YtngjaajcdbodeaaW.PrintLast Go.Proofs.YtngjaajcdbodeaaW.PrintMore
attribute [local go_sem] max2_int min2_int max_two min_two max_three min_three max_four min_four   -- for this text's walks alone
set_option linter.unusedVariables false
set_option linter.unusedSimpArgs false

/-! ### impl_exists: function 77 -/
def impl_exists.f (a0_0 : Int) (l0_1 : List (S90)) (a1 : Int) : Option (Bool) := if a1 ≥ 0 then (some (decide (a1 < (l0_1.length : Int)))) else (some false)
set_option maxHeartbeats 8000000 in
set_option maxRecDepth 100000 in
theorem impl_exists.calls (a0_0 : Int) (A0_1 : Option Addr) (c0_1 : Nat) (l0_1 : List (S90)) (a1 : Int) (r : Bool) (w : World) (hr0_1 : Kd.C k90 w A0_1 l0_1.length l0_1) (hc0_1 : l0_1.length ≤ c0_1) (h : impl_exists.f a0_0 l0_1 a1 = some r) :
    Calls Try.prog 77 #[.agg #[.int .i64 a0_0, .slice A0_1 l0_1.length c0_1], .int .i64 a1] w fun e w' => e = .returned (.bool r) ∧ Below w.heap.size w w' := by
  have hu49 := Try.underlying49
  have HR0_1 := Aside0.mk hr0_1
  have HC0_1 := Aside0.mk hc0_1
  clear hr0_1 hc0_1
  have HB := Aside0.mk (Below.refl w.heap.size w)
  have H : (if a1 ≥ 0 then (some (decide (a1 < (l0_1.length : Int)))) else (some false)) = some r := h
  clear h
  by_cases c3 : a1 ≥ 0
  · rw [if_pos c3] at H
    have c3b0 : decide (0 ≤ a1) = true := decide_eq_true c3
    clear c3
    obtain rfl := Option.some.inj H
    go_enter Try.func77, Try.ntmps77
    go_wp2_with (first | ((with_reducible refine gate_dst (N := 2) rfl ?_); (try (refine gate_guard (by rfl) ?_; dsimp only)); refine box_event ?hg (N := 2) ?hd (cs := #[.int .i64 a0_0, .slice A0_1 l0_1.length c0_1]) (t := 49) ?hr ?_; (case hd => rfl); (case hg => rfl); (case hr => first | (go_simp; done) | (go_simp; rfl)); intro gb341 hg w4 hbox hb; have n0_ := Aside0.mk (below_step (by repeat (first | (with_reducible first | exact HB.out | apply below_alloc | apply pw_below_drewN | apply below_drew1) | exact HB.out)) hb); have n1_ := Aside0.mk (hbox); have n2_ := Aside0.mk ((by rw [hg]; exact (below_size (by repeat (first | (with_reducible first | exact HB.out | apply below_alloc | apply pw_below_drewN | apply below_drew1) | exact HB.out))) : w.heap.size ≤ gb341)); have n3_ := Aside0.mk ((by rw [hg]; exact (below_size (by repeat (first | (with_reducible first | exact HB.out | apply below_alloc | apply pw_below_drewN | apply below_drew1) | exact HB.out))) : w.heap.size ≤ gb341)); clear HB; have HB := n0_; have BK341 := n1_; have GW341 := n2_; have GE341 := n3_; clear n0_ n1_ n2_ n3_; clear hb hbox hg; have hcz5_0 : w4.cell? ⟨gb341, 0, none⟩ = some (.int .i64 a0_0) := (blk_cell BK341.out 0).trans rfl; have hcz5_1 : w4.cell? ⟨gb341, 1, none⟩ = some (.slice A0_1 l0_1.length c0_1) := (blk_cell BK341.out 1).trans rfl; have hfz5_0 := blk_frozen BK341.out 0; have hfz5_1 := blk_frozen BK341.out 1))
    go_ret
    exact ⟨by first | rfl | (simp [errW_none, errW_some] <;> rfl) | (simp [*, errW_none, errW_some] <;> rfl), by repeat (first | (with_reducible first | exact HB.out | apply below_alloc | apply pw_below_drewN | apply below_drew1 | refine below_set ?_ GE341.out) | exact HB.out)⟩
  · rw [if_neg c3] at H
    have c3b0 : decide (0 ≤ a1) = false := decide_eq_false c3
    clear c3
    obtain rfl := Option.some.inj H
    go_enter Try.func77, Try.ntmps77
    go_wp2_with (first | ((with_reducible refine gate_dst (N := 2) rfl ?_); (try (refine gate_guard (by rfl) ?_; dsimp only)); refine box_event ?hg (N := 2) ?hd (cs := #[.int .i64 a0_0, .slice A0_1 l0_1.length c0_1]) (t := 49) ?hr ?_; (case hd => rfl); (case hg => rfl); (case hr => first | (go_simp; done) | (go_simp; rfl)); intro gb341 hg w6 hbox hb; have n0_ := Aside0.mk (below_step (by repeat (first | (with_reducible first | exact HB.out | apply below_alloc | apply pw_below_drewN | apply below_drew1) | exact HB.out)) hb); have n1_ := Aside0.mk (hbox); have n2_ := Aside0.mk ((by rw [hg]; exact (below_size (by repeat (first | (with_reducible first | exact HB.out | apply below_alloc | apply pw_below_drewN | apply below_drew1) | exact HB.out))) : w.heap.size ≤ gb341)); have n3_ := Aside0.mk ((by rw [hg]; exact (below_size (by repeat (first | (with_reducible first | exact HB.out | apply below_alloc | apply pw_below_drewN | apply below_drew1) | exact HB.out))) : w.heap.size ≤ gb341)); clear HB; have HB := n0_; have BK341 := n1_; have GW341 := n2_; have GE341 := n3_; clear n0_ n1_ n2_ n3_; clear hb hbox hg))
    go_ret
    exact ⟨by first | rfl | (simp [errW_none, errW_some] <;> rfl) | (simp [*, errW_none, errW_some] <;> rfl), by repeat (first | (with_reducible first | exact HB.out | apply below_alloc | apply pw_below_drewN | apply below_drew1 | refine below_set ?_ GE341.out) | exact HB.out)⟩

end Go.Proofs.Ytngjaajcdbodeaa.All

namespace Go.Proofs.Ytngjaajcdbodeaa.All
open Go.RowKit Go.Proofs.YtngjaajcdbodeaaW.PrintWords Go.Proofs.YtngjaajcdbodeaaW.PrintLast Go.Proofs.YtngjaajcdbodeaaW.PrintMore
attribute [local go_sem] max2_int min2_int max_two min_two max_three min_three max_four min_four   -- for this text's walks alone
set_option linter.unusedVariables false
set_option linter.unusedSimpArgs false

/-! ### impl_used: function 89 -/
def impl_used.f (a0_0 : Int) (l0_1 : List (S90)) (a1 : Int) : Option (Bool) := (impl_exists.f a0_0 l0_1 a1).bind fun t610 => (if t610 = true then (if 0 ≤ a1 then (if a1 < (l0_1.length : Int) then (some ((rd_T90 l0_1 a1).f0)) else (none)) else (none)) else (some false))
set_option maxHeartbeats 8000000 in
set_option maxRecDepth 100000 in
theorem impl_used.calls (a0_0 : Int) (A0_1 : Option Addr) (c0_1 : Nat) (l0_1 : List (S90)) (a1 : Int) (r : Bool) (w : World) (hr0_1 : Kd.C k90 w A0_1 l0_1.length l0_1) (hc0_1 : l0_1.length ≤ c0_1) (h : impl_used.f a0_0 l0_1 a1 = some r) :
    Calls Try.prog 89 #[.agg #[.int .i64 a0_0, .slice A0_1 l0_1.length c0_1], .int .i64 a1] w fun e w' => e = .returned (.bool r) ∧ Below w.heap.size w w' := by
  have hu49 := Try.underlying49
  have HR0_1 := Aside0.mk hr0_1
  have HC0_1 := Aside0.mk hc0_1
  clear hr0_1 hc0_1
  have HB := Aside0.mk (Below.refl w.heap.size w)
  have H : ((impl_exists.f a0_0 l0_1 a1).bind fun t610 => (if t610 = true then (if 0 ≤ a1 then (if a1 < (l0_1.length : Int) then (some ((rd_T90 l0_1 a1).f0)) else (none)) else (none)) else (some false))) = some r := h
  clear h
  replace H := Option.bind_eq_some_iff.mp H
  obtain ⟨t610, A30, H⟩ := H
  replace H : (if t610 = true then (if 0 ≤ a1 then (if a1 < (l0_1.length : Int) then (some ((rd_T90 l0_1 a1).f0)) else (none)) else (none)) else (some false)) = some r := H
  have A3 := Aside0.mk A30
  clear A30
  by_cases c4 : t610 = true
  · subst c4
    have H1 : (if 0 ≤ a1 then (if a1 < (l0_1.length : Int) then (some ((rd_T90 l0_1 a1).f0)) else (none)) else (none)) = some r := by rw [if_pos rfl] at H; exact H
    clear H
    have H := H1
    clear H1
    by_cases c5 : 0 ≤ a1
    · rw [if_pos c5] at H
      have c5b0 : decide (0 ≤ a1) = true := decide_eq_true c5
      clear c5
      by_cases c6 : a1 < (l0_1.length : Int)
      · rw [if_pos c6] at H
        have c6b0 : decide (a1 < (l0_1.length : Int)) = true := decide_eq_true c6
        clear c6
        obtain rfl := Option.some.inj H
        go_enter Try.func89, Try.ntmps89
        go_wp2_with (first | ((with_reducible refine gate_dst (N := 2) rfl ?_); refine box_event ?hg (N := 2) ?hd (cs := #[.int .i64 a0_0, .slice A0_1 l0_1.length c0_1]) (t := 49) ?hr ?_; (case hd => rfl); (case hg => rfl); (case hr => first | (go_simp; done) | (go_simp; rfl)); intro gb609 hg w7 hbox hb; have n0_ := Aside0.mk (below_step (by repeat (first | (with_reducible first | exact HB.out | apply below_alloc | apply pw_below_drewN | apply below_drew1) | exact HB.out)) hb); have n1_ := Aside0.mk (hbox); have n2_ := Aside0.mk ((by rw [hg]; exact (below_size (by repeat (first | (with_reducible first | exact HB.out | apply below_alloc | apply pw_below_drewN | apply below_drew1) | exact HB.out))) : w.heap.size ≤ gb609)); have n3_ := Aside0.mk ((by rw [hg]; exact (below_size (by repeat (first | (with_reducible first | exact HB.out | apply below_alloc | apply pw_below_drewN | apply below_drew1) | exact HB.out))) : w.heap.size ≤ gb609)); clear HB; have HB := n0_; have BK609 := n1_; have GW609 := n2_; have GE609 := n3_; clear n0_ n1_ n2_ n3_; clear hb hbox hg; have hcz8_0 : w7.cell? ⟨gb609, 0, none⟩ = some (.int .i64 a0_0) := (blk_cell BK609.out 0).trans rfl; have hcz8_1 : w7.cell? ⟨gb609, 1, none⟩ = some (.slice A0_1 l0_1.length c0_1) := (blk_cell BK609.out 1).trans rfl; have hfz8_0 := blk_frozen BK609.out 0; have hfz8_1 := blk_frozen BK609.out 1) | ((with_reducible refine gate_callee (f := 77) rfl ?_); refine goesL_ (some 7) rfl rfl Try.func77 (by kernel_rfl) rfl #[.agg #[.int .i64 a0_0, .slice A0_1 l0_1.length c0_1], .int .i64 a1] rfl (by (try simp only [List.map_toArray, List.map_cons, List.map_nil]); first | done | rfl | (simp only [List.length_drop, List.length_take]; rfl)) ?_; (with_reducible refine (impl_exists.calls a0_0 _ _ l0_1 a1 true _ ?side1 ?side2 A3.out).mono ?_); (case side1 => repeat (first | exact (Kd.C_below HR0_1.out HB.out) | (with_reducible refine Kd.C_alloc ?_ _) | (with_reducible refine Kd.C_drewN ?_ _) | (with_reducible refine Kd.C_drew ?_))); (case side2 => exact HC0_1.out); rintro e w9 ⟨rfl, hb⟩; refine ⟨_, rfl, ?_⟩; have n0_ := Aside0.mk (blk_below (g := gb609) (o := .cells #[.int .i64 a0_0, .slice A0_1 l0_1.length c0_1] 49 (0, 0)) (by (with_reducible repeat (first | refine blk_drewN ?_ _ | refine blk_drew ?_ | refine blk_alloc ?_ _)); exact BK609.out) hb); have n1_ := Aside0.mk (below_step (by repeat (first | (with_reducible first | exact HB.out | apply below_alloc | apply pw_below_drewN | apply below_drew1 | refine below_set ?_ GE609.out) | exact HB.out)) hb); clear BK609; clear HB; have BK609 := n0_; have HB := n1_; clear n0_ n1_; (try clear hb); (try clear hb2); (try clear hk); (try clear hi); have hcz10_0 : w9.cell? ⟨gb609, 0, none⟩ = some (.int .i64 a0_0) := (blk_cell BK609.out 0).trans rfl; have hcz10_1 : w9.cell? ⟨gb609, 1, none⟩ = some (.slice A0_1 l0_1.length c0_1) := (blk_cell BK609.out 1).trans rfl; have hfz10_0 := blk_frozen BK609.out 0; have hfz10_1 := blk_frozen BK609.out 1; have p611 : 0 ≤ (a1 : Int) := of_decide_eq_true (by first | (with_reducible assumption) | assumption); have q611 : a1 < (l0_1.length : Int) := of_decide_eq_true (by first | (with_reducible assumption) | assumption); obtain ⟨ad611, A611_2, c611_2, e611, hx611_0, hx611_1, hx611_2, hl611_2, hi611_2⟩ := at_T90 HR0_1.out a1 p611 q611; cases e611; replace hx611_0 := (HB.out.cell (World.block_lt_of_cell? w _ hx611_0)).trans hx611_0; replace hx611_1 := (HB.out.cell (World.block_lt_of_cell? w _ hx611_1)).trans hx611_1; replace hx611_2 := (HB.out.cell (World.block_lt_of_cell? w _ hx611_2)).trans hx611_2; have HR611_2 := Aside0.mk hi611_2; have HC611_2 := Aside0.mk hl611_2; clear hi611_2 hl611_2; replace p611 := eq_true p611; replace q611 := eq_true q611))
        go_ret
        exact ⟨by first | rfl | (simp [errW_none, errW_some] <;> rfl) | (simp [*, errW_none, errW_some] <;> rfl), by repeat (first | (with_reducible first | exact HB.out | apply below_alloc | apply pw_below_drewN | apply below_drew1 | refine below_set ?_ GE609.out) | exact HB.out)⟩
      · rw [if_neg c6] at H
        exact absurd H (by simp)
    · rw [if_neg c5] at H
      exact absurd H (by simp)
  · replace c4 := Bool.eq_false_iff.mpr c4
    subst c4
    have H1 : (some false) = some r := by rw [if_neg (show ¬ (false = true) by decide)] at H; exact H
    clear H
    have H := H1
    clear H1
    obtain rfl := Option.some.inj H
    go_enter Try.func89, Try.ntmps89
    go_wp2_with (first | ((with_reducible refine gate_dst (N := 2) rfl ?_); refine box_event ?hg (N := 2) ?hd (cs := #[.int .i64 a0_0, .slice A0_1 l0_1.length c0_1]) (t := 49) ?hr ?_; (case hd => rfl); (case hg => rfl); (case hr => first | (go_simp; done) | (go_simp; rfl)); intro gb609 hg w11 hbox hb; have n0_ := Aside0.mk (below_step (by repeat (first | (with_reducible first | exact HB.out | apply below_alloc | apply pw_below_drewN | apply below_drew1) | exact HB.out)) hb); have n1_ := Aside0.mk (hbox); have n2_ := Aside0.mk ((by rw [hg]; exact (below_size (by repeat (first | (with_reducible first | exact HB.out | apply below_alloc | apply pw_below_drewN | apply below_drew1) | exact HB.out))) : w.heap.size ≤ gb609)); have n3_ := Aside0.mk ((by rw [hg]; exact (below_size (by repeat (first | (with_reducible first | exact HB.out | apply below_alloc | apply pw_below_drewN | apply below_drew1) | exact HB.out))) : w.heap.size ≤ gb609)); clear HB; have HB := n0_; have BK609 := n1_; have GW609 := n2_; have GE609 := n3_; clear n0_ n1_ n2_ n3_; clear hb hbox hg; have hcz12_0 : w11.cell? ⟨gb609, 0, none⟩ = some (.int .i64 a0_0) := (blk_cell BK609.out 0).trans rfl; have hcz12_1 : w11.cell? ⟨gb609, 1, none⟩ = some (.slice A0_1 l0_1.length c0_1) := (blk_cell BK609.out 1).trans rfl; have hfz12_0 := blk_frozen BK609.out 0; have hfz12_1 := blk_frozen BK609.out 1) | ((with_reducible refine gate_callee (f := 77) rfl ?_); refine goesL_ (some 7) rfl rfl Try.func77 (by kernel_rfl) rfl #[.agg #[.int .i64 a0_0, .slice A0_1 l0_1.length c0_1], .int .i64 a1] rfl (by (try simp only [List.map_toArray, List.map_cons, List.map_nil]); first | done | rfl | (simp only [List.length_drop, List.length_take]; rfl)) ?_; (with_reducible refine (impl_exists.calls a0_0 _ _ l0_1 a1 false _ ?side1 ?side2 A3.out).mono ?_); (case side1 => repeat (first | exact (Kd.C_below HR0_1.out HB.out) | (with_reducible refine Kd.C_alloc ?_ _) | (with_reducible refine Kd.C_drewN ?_ _) | (with_reducible refine Kd.C_drew ?_))); (case side2 => exact HC0_1.out); rintro e w13 ⟨rfl, hb⟩; refine ⟨_, rfl, ?_⟩; have n0_ := Aside0.mk (blk_below (g := gb609) (o := .cells #[.int .i64 a0_0, .slice A0_1 l0_1.length c0_1] 49 (0, 0)) (by (with_reducible repeat (first | refine blk_drewN ?_ _ | refine blk_drew ?_ | refine blk_alloc ?_ _)); exact BK609.out) hb); have n1_ := Aside0.mk (below_step (by repeat (first | (with_reducible first | exact HB.out | apply below_alloc | apply pw_below_drewN | apply below_drew1 | refine below_set ?_ GE609.out) | exact HB.out)) hb); clear BK609; clear HB; have BK609 := n0_; have HB := n1_; clear n0_ n1_; (try clear hb); (try clear hb2); (try clear hk); (try clear hi)))
    go_ret
    exact ⟨by first | rfl | (simp [errW_none, errW_some] <;> rfl) | (simp [*, errW_none, errW_some] <;> rfl), by repeat (first | (with_reducible first | exact HB.out | apply below_alloc | apply pw_below_drewN | apply below_drew1 | refine below_set ?_ GE609.out) | exact HB.out)⟩

end Go.Proofs.Ytngjaajcdbodeaa.All

/- The program's walk over the pages, by a closure over a map and a row: it comes to the model of the reference's walk. No condition. -/
namespace Go.Proofs.Ytngjaajcdbodeaa.All
open Go.RowKit Go.Proofs.YtngjaajcdbodeaaW.PrintWords Go.Proofs.YtngjaajcdbodeaaW.PrintLast Go.Proofs.YtngjaajcdbodeaaW.PrintMore
set_option linter.unusedVariables false
set_option linter.unusedSimpArgs false

/-- Block b is the map of those that were met. -/
def MetOk (w : World) (b : Nat) (out : List Int) : Prop := ∃ (n : Nat) (D : DataW Unit), n ≤ out.length ∧ Go.Maps.IsMap D ∧ w.ownsMap Try.prog 3 (plainElem Try.prog 3) b n D ∧ ∀ i, (Lit.int .i64 i).wf = true → D.atKey (.int .i64 i) (.lit (.int .i64 0)) = .lit (.int .i64 (if i ∈ out then 1 else 0))
theorem MetOk.step {w w' : World} {b : Nat} {out : List Int} (h : MetOk w b out) (he : w'.heap[b]? = w.heap[b]?) : MetOk w' b out := by
  obtain ⟨n, D, h1, h2, ⟨es, clock, hb, hr⟩, h4⟩ := h
  exact ⟨n, D, h1, h2, ⟨es, clock, he.trans hb, hr⟩, h4⟩
theorem MetOk.isMap {w : World} {b : Nat} {out : List Int} (h : MetOk w b out) : ∃ es clock, w.heap[b]? = some (.map es clock) := by
  obtain ⟨n, D, h1, h2, ⟨es, clock, hb, hr⟩, h4⟩ := h
  exact ⟨es, clock, hb⟩
theorem MetOk.made (w : World) : MetOk (w.alloc (.map #[] 0)) w.heap.size [] := ⟨0, .map [], Nat.le_refl _, ⟨[], rfl⟩, World.ownsMap_made w _ _ _, fun i _ => rfl⟩
theorem MetOk.put {w' : World} {b : Nat} {out : List Int} {i : Int} {n : Nat} {D : DataW Unit} (hn : n ≤ out.length) (hm : Go.Maps.IsMap D) (h : w'.ownsMap Try.prog 3 (plainElem Try.prog 3) b (n + 1) (D.put (.int .i64 i) (.lit (.int .i64 1)))) (ha : ∀ i, (Lit.int .i64 i).wf = true → D.atKey (.int .i64 i) (.lit (.int .i64 0)) = .lit (.int .i64 (if i ∈ out then 1 else 0))) : MetOk w' b (out ++ [i]) := by
  refine ⟨n + 1, _, by simp; omega, ?_, h, fun j hj => ?_⟩
  · obtain ⟨es, rfl⟩ := hm
    exact ⟨_, DataW.put_eq _ _ _⟩
  · by_cases hji : j = i
    · subst hji
      rw [Go.Maps.atKey_put_same hm (show WideAt.IsKeyLit (.int .i64 j) from trivial)]
      simp
    · rw [Go.Maps.atKey_put_other (fun e => hji (by injection e)), ha j hj]
      simp [hji]
/-- What stands while the walk goes on. -/
structure VState (w0 : World) (g2 g5 g6 g7 bm : Nat) (root : Int) (A : Option Addr) (c n : Nat) (w : World) (out mo : List Int) : Prop where
  below : Below w0.heap.size w0 w
  box : w.heap[g2]? = some (.cells #[.int .i64 root, .slice A n c] 49 (0, 0))
  met : w.heap[g6]? = some (.cells #[.map (some bm)] 104 (0, 0))
  row : ∃ A v c, v = .slice A out.length c ∧ w.heap[g5]? = some (.cells #[v] 64 (0, 0)) ∧ Kd.R (Kd.int .i64) 3 w w0.heap.size (fun _ => True) v out
  fn : w.heap[g7]? = some (.cells #[.func (.func 144) #[] #[.pointer (some ⟨g2, 0, none⟩), .pointer (some ⟨g6, 0, none⟩), .pointer (some ⟨g5, 0, none⟩), .pointer (some ⟨g7, 0, none⟩)]] 137 (0, 0))
  map : MetOk w bm mo
  g5b : w0.heap.size ≤ g5
  bmb : w0.heap.size ≤ bm
section
variable {w0 : World} {g2 g5 g6 g7 bm : Nat} {root : Int} {A : Option Addr} {c n : Nat} {w w' : World} {out mo mo' : List Int}
theorem VState.next (h : VState w0 g2 g5 g6 g7 bm root A c n w out mo) (hb : Below w.heap.size w w') : VState w0 g2 g5 g6 g7 bm root A c n w' out mo := by
  obtain ⟨Av, v, cv, ev, h5, hr⟩ := h.row
  obtain ⟨es, clock, hm⟩ := h.map.isMap
  exact ⟨below_step h.below hb, blk_below h.box hb, blk_below h.met hb, ⟨Av, v, cv, ev, blk_below h5 hb, Kd.R_below hr hb⟩, blk_below h.fn hb, h.map.step ((blk_below hm hb).trans hm.symm), h.g5b, h.bmb⟩
theorem VState.drewN (h : VState w0 g2 g5 g6 g7 bm root A c n w out mo) (m : Nat) : VState w0 g2 g5 g6 g7 bm root A c n (w.drewN m) out mo := h.next (pw_below_drewN (Below.refl _ _) m)
theorem blkNe {g g' : Nat} {t t' : TypeId} {cs cs' : Array Value} (h : w.heap[g]? = some (.cells cs t (0, 0))) (h' : w.heap[g']? = some (.cells cs' t' (0, 0))) (hne : t ≠ t') : g ≠ g' := by
  rintro rfl
  rw [h] at h'
  injection h' with h'
  injection h' with _ ht
  exact hne ht
theorem cells_ne_map {g b : Nat} {cs : Array Value} {t : TypeId} {fr : Nat × Nat} {es : Array _} {clock : Nat} (hc : w.heap[g]? = some (.cells cs t fr)) (hm : w.heap[b]? = some (.map es clock)) : some g ≠ some b := by
  intro e
  injection e with e
  subst e
  rw [hc] at hm
  cases hm
theorem VState.put (h : VState w0 g2 g5 g6 g7 bm root A c n w out mo) (hg : w.grownBy w' (some bm)) (hm : MetOk w' bm mo') : VState w0 g2 g5 g6 g7 bm root A c n w' out mo' := by
  obtain ⟨Av, v, cv, ev, h5, hr⟩ := h.row
  obtain ⟨es, clock, hmm⟩ := h.map.isMap
  refine ⟨h.below.grown hg h.below.size (fun k hk => ?_), blk_grown h.box hg (cells_ne_map h.box hmm), blk_grown h.met hg (cells_ne_map h.met hmm), ⟨Av, v, cv, ev, blk_grown h5 hg (cells_ne_map h5 hmm), ?_⟩, blk_grown h.fn hg (cells_ne_map h.fn hmm), hm, h.g5b, h.bmb⟩
  · injection hk with hk
    rw [← hk]
    exact h.bmb
  · refine Kd.R_mono (Kd.R_step (Kd.R_bound hr) (fun k hk hlt => hg.block k hlt ?_)) (fun _ _ => trivial)
    obtain ⟨_, _, _, q, hq, cells, hc⟩ := hk
    exact cells_ne_map hc hmm
theorem VState.app (h : VState w0 g2 g5 g6 g7 bm root A c n w out mo) {v v5 : Value} {xs : List Int} (hcell : w.heap[g5]? = some (.cells #[v] 64 (0, 0))) (hv : Kd.R (Kd.int .i64) 3 w w0.heap.size (fun _ => True) v out) (hg : w.grownBy w' v.ownBlock) (hb : Below w0.heap.size w0 w') (hr : Kd.R (Kd.int .i64) 3 w' w0.heap.size (fun _ => True) v5 xs) :
    VState w0 g2 g5 g6 g7 bm root A c n (w'.setCell ⟨g5, 0, none⟩ v5) xs mo := by
  obtain ⟨es, clock, hmm⟩ := h.map.isMap
  obtain ⟨A5, c5, e5⟩ := Kd.R_slice hr
  have k2 := blk_grown h.box hg (Kd.R_ne hv h.box (by decide))
  have k6 := blk_grown h.met hg (Kd.R_ne hv h.met (by decide))
  have k5 := blk_grown hcell hg (Kd.R_ne hv hcell (by decide))
  have k7 := blk_grown h.fn hg (Kd.R_ne hv h.fn (by decide))
  have km : w'.heap[bm]? = w.heap[bm]? := hg.block bm (blk_lt hmm) (fun e => by
    obtain ⟨inner, ho⟩ := Kd.R_own hv
    obtain ⟨cells, hc⟩ := Kd.R_typed hv bm e.symm
    exact cells_ne_map hc hmm rfl)
  have far : ∀ {g : Nat}, g ≠ g5 → (w'.setCell ⟨g5, 0, none⟩ v5).heap[g]? = w'.heap[g]? := fun hne => Below.heap_setCell w' _ v5 _ hne
  exact ⟨below_set hb h.g5b, (far (blkNe k2 k5 (by decide))).trans k2, (far (blkNe k6 k5 (by decide))).trans k6, ⟨A5, v5, c5, e5, blk_put k5 0 v5 rfl, Kd.R_mono (Kd.R_far (Kd.R_types hr k5 (by decide)) (fun _ hk => hk.2) v5) (fun _ _ => trivial)⟩,
    (far (blkNe k7 k5 (by decide))).trans k7, h.map.step ((far (fun e => cells_ne_map hcell hmm (by rw [e]))).trans km), h.g5b, h.bmb⟩
end

def VisitSaid (w0 : World) (g2 g5 g6 g7 bm : Nat) (root : Int) (A : Option Addr) (c : Nat) (ps : List S90) (k : Nat) : Prop :=
  ∀ (i : Int) (xs r : List Int) (w : World), VState w0 g2 g5 g6 g7 bm root A c ps.length w xs xs → walkM k ps i xs = some r →
    Calls Try.prog 144 #[.int .i64 i, .pointer (some ⟨g2, 0, none⟩), .pointer (some ⟨g6, 0, none⟩), .pointer (some ⟨g5, 0, none⟩), .pointer (some ⟨g7, 0, none⟩)] w (fun e w' => ∃ v, e = .returned v ∧ VState w0 g2 g5 g6 g7 bm root A c ps.length w' r r)


theorem used_f (a : Int) (ps : List S90) (i : Int) : impl_used.f a ps i = some (decide (pgOk ps i)) := by
  unfold impl_used.f impl_exists.f pgOk
  by_cases h0 : i ≥ 0
  · rw [if_pos h0]
    simp only [Option.bind_some]
    by_cases h1 : i < ps.length
    · simp only [h1, decide_true, if_true]
      rw [if_pos (by omega)]
      simp [show (0 : Int) ≤ i from h0]
    · simp [h1]
  · rw [if_neg h0]
    simp [h0]

set_option maxHeartbeats 8000000 in
set_option maxRecDepth 100000 in
theorem visit_out (w0 : World) (g2 g5 g6 g7 bm : Nat) (A : Option Addr) (c : Nat) (ps : List S90) (hr0 : Kd.C k90 w0 A ps.length ps) (hc0 : ps.length ≤ c)
    (root i : Int) (xs : List Int) (w : World) (hv : VState w0 g2 g5 g6 g7 bm root A c ps.length w xs xs) (hno : ¬ pgOk ps i) :
    Calls Try.prog 144 #[.int .i64 i, .pointer (some ⟨g2, 0, none⟩), .pointer (some ⟨g6, 0, none⟩), .pointer (some ⟨g5, 0, none⟩), .pointer (some ⟨g7, 0, none⟩)] w (fun e w' => ∃ v, e = .returned v ∧ VState w0 g2 g5 g6 g7 bm root A c ps.length w' xs xs) := by
  have HR := Aside0.mk hr0
  have HC := Aside0.mk hc0
  have HV := Aside0.mk hv
  have HU := Aside0.mk ((used_f root ps i).trans (congrArg some (decide_eq_false hno)))
  clear hr0 hc0 hv hno
  have hu1 := Try.underlying90
  have hu2 := Try.underlying49
  have hk0 : w.cell? ⟨g2, 0, none⟩ = some (.int .i64 root) := (blk_cell HV.out.box 0).trans rfl
  have hk1 : w.cell? ⟨g2, 1, none⟩ = some (.slice A ps.length c) := (blk_cell HV.out.box 1).trans rfl
  go_enter Try.func144, Try.ntmps144
  go_wp2_with (go_at_call 89; refine (impl_used.calls root _ c ps i _ _ (Kd.C_below HR.out HV.out.below) HC.out HU.out).mono ?_; rintro e w1 ⟨rfl, hb1⟩; have HV1 := Aside0.mk (HV.out.next hb1); clear hb1 hk0 hk1 HV)
  refine bodyPost_ret (results_none rfl _ _ _) rfl ?_
  exact ⟨_, rfl, HV1.out⟩

theorem zero_int (w : World) : (zeroValue 3).run Try.prog w = .ok (.int .i64 0) w := by kernel_rfl
theorem look_eq {D : DataW Unit} {i c m : Int} (h : D.atKey (.int .i64 i) (.lit (.int .i64 0)) = .lit (.int .i64 m)) (hc : D.atKey (.int .i64 i) (.lit (.int .i64 0)) = .lit (.int .i64 c)) : c = m := by
  rw [h] at hc
  injection hc with hc
  injection hc with _ hc
  exact hc.symm
set_option maxHeartbeats 8000000 in
set_option maxRecDepth 100000 in
theorem visit_met (w0 : World) (g2 g5 g6 g7 bm : Nat) (A : Option Addr) (c : Nat) (ps : List S90) (hr0 : Kd.C k90 w0 A ps.length ps) (hc0 : ps.length ≤ c)
    (root i : Int) (xs : List Int) (w : World) (hv : VState w0 g2 g5 g6 g7 bm root A c ps.length w xs xs) (hyes : pgOk ps i) (hwf : (Lit.int .i64 i).wf = true) (hin : i ∈ xs) :
    Calls Try.prog 144 #[.int .i64 i, .pointer (some ⟨g2, 0, none⟩), .pointer (some ⟨g6, 0, none⟩), .pointer (some ⟨g5, 0, none⟩), .pointer (some ⟨g7, 0, none⟩)] w (fun e w' => ∃ v, e = .returned v ∧ VState w0 g2 g5 g6 g7 bm root A c ps.length w' xs xs) := by
  have HR := Aside0.mk hr0
  have HC := Aside0.mk hc0
  have HV := Aside0.mk hv
  have HU := Aside0.mk ((used_f root ps i).trans (congrArg some (decide_eq_true hyes)))
  have HIN := Aside0.mk hin
  have HWF := Aside0.mk hwf
  clear hr0 hc0 hv hyes hin hwf
  have hu1 := Try.underlying90
  have hu2 := Try.underlying49
  have hk0 : w.cell? ⟨g2, 0, none⟩ = some (.int .i64 root) := (blk_cell HV.out.box 0).trans rfl
  have hk1 : w.cell? ⟨g2, 1, none⟩ = some (.slice A ps.length c) := (blk_cell HV.out.box 1).trans rfl
  go_enter Try.func144, Try.ntmps144
  go_wp2_with (first
    | (go_at_call 89; refine (impl_used.calls root _ c ps i _ _ (Kd.C_below HR.out HV.out.below) HC.out HU.out).mono ?_; rintro e w1 ⟨rfl, hb1⟩; have HV1 := Aside0.mk (HV.out.next hb1); clear hb1 hk0 hk1 HV; have hk6 : w1.cell? ⟨g6, 0, none⟩ = some (.map (some bm)) := (blk_cell HV1.out.met 0).trans rfl; obtain ⟨nm, Dm, hnm, him, hom, hcm⟩ := HV1.out.map; have HNM := Aside0.mk hnm; have HIM := Aside0.mk him; have HOM := Aside0.mk hom; have HCM := Aside0.mk hcm; clear hnm him hom hcm) | ((try (refine gate_guard (by rfl) ?_; dsimp only)); at_lookup; refine wpList_lookup_own_int _ rfl _ _ 104 rfl 3 3 .i64 (Go.Maps.int_keyed Try.underlying3) Try.underlying104 Try.underlying3 (zero_int _) bm nm Dm rfl HOM.out _ _ rfl (Go.Maps.keyOf_int_mk Try.underlying3 HWF.out) ?_; intro cm hat hwc; obtain rfl : cm = 1 := (look_eq (HCM.out i HWF.out) hat).trans (if_pos HIN.out); clear hat hwc))
  refine bodyPost_ret (results_none rfl _ _ _) rfl ?_
  exact ⟨_, rfl, HV1.out⟩

theorem walkL_leaf {k : Nat} {ps : List S90} {es : List S103} {o r : List Int} {x : Int} (h : walkL k ps true es o x = some r) : r = o := by
  cases k with
  | zero => simp [walkL] at h
  | succ k =>
    rw [walkL, if_pos rfl] at h
    split at h <;> exact (Option.some.inj h).symm
theorem set5_below {W w7 : World} {g : Nat} (h : Below W.heap.size W w7) (hg : g = W.heap.size) (a b c d e : Value) : Below W.heap.size W (((((w7.setCell ⟨g, 0, none⟩ a).setCell ⟨g, 1, none⟩ b).setCell ⟨g, 2, none⟩ c).setCell ⟨g, 3, none⟩ d).setCell ⟨g, 4, none⟩ e) := by
  have hl := Nat.le_of_eq hg.symm
  exact below_set (below_set (below_set (below_set (below_set h hl) hl) hl) hl) hl
theorem VState.fncell {w0 : World} {g2 g5 g6 g7 bm : Nat} {root : Int} {A : Option Addr} {c n : Nat} {w : World} {out mo : List Int} (h : VState w0 g2 g5 g6 g7 bm root A c n w out mo) : w.cell? ⟨g7, 0, none⟩ = some (.func (.func 144) #[] #[.pointer (some ⟨g2, 0, none⟩), .pointer (some ⟨g6, 0, none⟩), .pointer (some ⟨g5, 0, none⟩), .pointer (some ⟨g7, 0, none⟩)]) := (blk_cell h.fn 0).trans rfl
theorem set5_cell {w7 : World} {g t : Nat} {z0 z1 z2 z3 z4 : Value} (h : w7.heap[g]? = some (.cells #[z0, z1, z2, z3, z4] t (0, 0))) (a b c d e : Value) : (((((w7.setCell ⟨g, 0, none⟩ a).setCell ⟨g, 1, none⟩ b).setCell ⟨g, 2, none⟩ c).setCell ⟨g, 3, none⟩ d).setCell ⟨g, 4, none⟩ e).cell? ⟨g, 0, none⟩ = some a := by
  have h1 := blk_put (cs' := #[a, z1, z2, z3, z4]) h 0 a rfl
  have h2 := blk_put (cs' := #[a, b, z2, z3, z4]) h1 1 b rfl
  have h3 := blk_put (cs' := #[a, b, c, z3, z4]) h2 2 c rfl
  have h4 := blk_put (cs' := #[a, b, c, d, z4]) h3 3 d rfl
  have h5 := blk_put (cs' := #[a, b, c, d, e]) h4 4 e rfl
  exact (blk_cell h5 0).trans rfl
theorem store5_run (o : Oper) (a : Act) (p v : Tmp) (hop : o.op = .store 103 (.tmp p) (.tmp v)) (g : Nat) (w7 : World) (b0 b1 b2 b3 b4 : Int) (hp : a.eval (.tmp p) = .pointer (some ⟨g, 0, none⟩)) (hv : a.eval (.tmp v) = .agg #[.int .i64 b0, .int .i64 b1, .int .i64 b2, .int .i64 b3, .int .i64 b4])
    (hbox : w7.heap[g]? = some (.cells #[.int .i64 0, .int .i64 0, .int .i64 0, .int .i64 0, .int .i64 0] 103 (0, 0))) :
    (execOp a.eval o).run Try.prog w7 = .ok .skip (((((w7.setCell ⟨g, 0, none⟩ (.int .i64 b0)).setCell ⟨g, 1, none⟩ (.int .i64 b1)).setCell ⟨g, 2, none⟩ (.int .i64 b2)).setCell ⟨g, 3, none⟩ (.int .i64 b3)).setCell ⟨g, 4, none⟩ (.int .i64 b4)) := by
  have hu1 := Try.underlying103
  have hs0 : w7.cell? ⟨g, 0, none⟩ = some (.int .i64 0) := (blk_cell hbox 0).trans rfl
  have hs1 : w7.cell? ⟨g, 1, none⟩ = some (.int .i64 0) := (blk_cell hbox 1).trans rfl
  have hs2 : w7.cell? ⟨g, 2, none⟩ = some (.int .i64 0) := (blk_cell hbox 2).trans rfl
  have hs3 : w7.cell? ⟨g, 3, none⟩ = some (.int .i64 0) := (blk_cell hbox 3).trans rfl
  have hs4 : w7.cell? ⟨g, 4, none⟩ = some (.int .i64 0) := (blk_cell hbox 4).trans rfl
  have hf0 := blk_frozen hbox 0
  have hf1 := blk_frozen hbox 1
  have hf2 := blk_frozen hbox 2
  have hf3 := blk_frozen hbox 3
  have hf4 := blk_frozen hbox 4
  clear hbox
  unfold execOp
  rw [hop]
  simp only [hp, hv]
  clear hop hp hv
  first | (go_simp; done) | (go_simp; rfl)
theorem hinfoInt5 : (Try.prog.info? 3).map (fun i => (i.zero, i.size, i.bytes)) = some (some (.int .i64 0), 1, 8) := hinfoInt
set_option maxHeartbeats 16000000 in
set_option maxRecDepth 100000 in
theorem visit_new (w0 : World) (g2 g5 g6 g7 bm : Nat) (A : Option Addr) (c : Nat) (ps : List S90) (hr0 : Kd.C k90 w0 A ps.length ps) (hc0 : ps.length ≤ c)
    (root i : Int) (xs : List Int) (w : World) (hv : VState w0 g2 g5 g6 g7 bm root A c ps.length w xs xs) (hyes : pgOk ps i) (hwf : (Lit.int .i64 i).wf = true) (hin : ¬ i ∈ xs) (hlen : xs.length < 17592186044415)
    (k : Nat) (ih : ∀ k', k' ≤ k → VisitSaid w0 g2 g5 g6 g7 bm root A c ps k') (r : List Int) (h : walkL k ps (rd_T90 ps i).f1.f0 (rd_T90 ps i).f1.f1 (xs ++ [i]) 0 = some r) :
    Calls Try.prog 144 #[.int .i64 i, .pointer (some ⟨g2, 0, none⟩), .pointer (some ⟨g6, 0, none⟩), .pointer (some ⟨g5, 0, none⟩), .pointer (some ⟨g7, 0, none⟩)] w (fun e w' => ∃ v, e = .returned v ∧ VState w0 g2 g5 g6 g7 bm root A c ps.length w' r r) := by
  have HR := Aside0.mk hr0
  have HC := Aside0.mk hc0
  have HV := Aside0.mk hv
  have HU := Aside0.mk ((used_f root ps i).trans (congrArg some (decide_eq_true hyes)))
  have HIN := Aside0.mk hin
  have HWF := Aside0.mk hwf
  have HLEN := Aside0.mk hlen
  have IH := Aside0.mk ih
  have H' := Aside0.mk h
  clear hr0 hc0 hv hin hwf hlen ih h
  have hu1 := Try.underlying90
  have hu2 := Try.underlying49
  have hk0 : w.cell? ⟨g2, 0, none⟩ = some (.int .i64 root) := (blk_cell HV.out.box 0).trans rfl
  have hk1 : w.cell? ⟨g2, 1, none⟩ = some (.slice A ps.length c) := (blk_cell HV.out.box 1).trans rfl
  have hu3 := Try.underlying54
  obtain ⟨h0, h1, hus⟩ := hyes
  obtain ⟨ad, A2, c2, e2, hz0, hz1, hz2, hl2, hC2⟩ := at_T90 HR.out i h0 h1
  subst e2
  have HC2 := Aside0.mk hC2
  have HL2 := Aside0.mk hl2
  have HZ1 := Aside0.mk hz1
  have HZ2 := Aside0.mk hz2
  clear hC2 hl2 hz0 hz1 hz2 hus
  obtain ⟨bl, hbl⟩ : ∃ b : Bool, b = (rd_T90 ps i).f1.f0 := ⟨_, rfl⟩
  obtain ⟨es, hes⟩ : ∃ l : List S103, l = (rd_T90 ps i).f1.f1 := ⟨_, rfl⟩
  rw [← hbl] at HZ1 H'
  rw [← hes] at HZ2 H' HC2 HL2
  clear hbl hes
  cases bl with
  | true =>
    go_enter Try.func144, Try.ntmps144
    go_wp2_with (first
      | (go_at_call 89; refine (impl_used.calls root _ c ps i _ _ (Kd.C_below HR.out HV.out.below) HC.out HU.out).mono ?_; rintro e w1 ⟨rfl, hb1⟩; have HV1 := Aside0.mk (HV.out.next hb1); clear hb1 hk0 hk1 HV; have hk6 : w1.cell? ⟨g6, 0, none⟩ = some (.map (some bm)) := (blk_cell HV1.out.met 0).trans rfl; obtain ⟨nm, Dm, hnm, him, hom, hcm⟩ := HV1.out.map; have HNM := Aside0.mk hnm; have HIM := Aside0.mk him; have HOM := Aside0.mk hom; have HCM := Aside0.mk hcm; clear hnm him hom hcm) | ((try (refine gate_guard (by rfl) ?_; dsimp only)); at_lookup; refine wpList_lookup_own_int _ rfl _ _ 104 rfl 3 3 .i64 (Go.Maps.int_keyed Try.underlying3) Try.underlying104 Try.underlying3 (zero_int _) bm nm Dm rfl HOM.out _ _ rfl (Go.Maps.keyOf_int_mk Try.underlying3 HWF.out) ?_; intro cm hat hwc; obtain rfl : cm = 0 := (look_eq (HCM.out i HWF.out) hat).trans (if_neg HIN.out); clear hat hwc)
      | (at_mapUpdate; refine wpList_mapUpdate_own _ rfl _ _ _ 104 rfl 3 3 (Go.Maps.int_keyed Try.underlying3) Try.underlying104 _ bm nm Dm rfl HOM.out (by have := HNM.out; have := HLEN.out; unfold maxLen; omega) _ _ (.int .i64 i) rfl rfl (Go.Maps.keyOf_int_mk Try.underlying3 HWF.out) (.lit (.int .i64 1)) [] (plainElem_int Try.underlying3 (by decide)) ?_; intro w2 hown2 hg2; have HV2 := Aside0.mk (HV1.out.put hg2 (MetOk.put HNM.out HIM.out hown2 HCM.out)); clear hown2 hg2 hk6; obtain ⟨Av, vv, cv, evv, h5c, hvr⟩ := HV2.out.row; subst evv; have HVR := Aside0.mk hvr; have H5C := Aside0.mk h5c; have hk5 : w2.cell? ⟨g5, 0, none⟩ = some (.slice Av xs.length cv) := (blk_cell h5c 0).trans rfl; have hf5 := blk_frozen h5c 0; clear hvr h5c)
      | ((with_reducible refine gate_builtin (b := .append) (xs := #[.tmp 20, .tmp 22]) rfl ?_); at_builtin; refine Kd.R_append (Kd.int .i64) (w0 := w0) w0.heap.size rfl (.tmp 20) (.tmp 22) 64 3 (.int .i64 0) 8 rfl Try.underlying64 hinfoInt rfl (by decide) (by omega) (.slice Av xs.length cv) xs i [.int .i64 i] (fun _ => True) (fun _ => False) rfl rfl rfl (fun _ hk => hk.elim) (fun _ _ => trivial) HVR.out HV2.out.below HV2.out.below.size (by have := HLEN.out; omega) ?_; intro v5 w5 ho5 hb5 hg5 hat5; obtain ⟨A5, c5, e5⟩ := Kd.R_slice ho5; subst e5; have HV5 := Aside0.mk (HV2.out.app H5C.out HVR.out hg5 hb5 ho5); have hk5b : w5.cell? ⟨g5, 0, none⟩ = some (.slice Av xs.length cv) := (blk_cell (blk_grown H5C.out hg5 (Kd.R_ne HVR.out H5C.out (by decide))) 0).trans rfl; have hf5b := blk_frozen (blk_grown H5C.out hg5 (Kd.R_ne HVR.out H5C.out (by decide))) 0; clear ho5 hb5 hg5 hat5 hk5 hf5 HV2 HV1)
      | ((with_reducible refine gate_store (t := 64) (p := 3) rfl ?_); refine store_event (t := 64) (p := 3) (v := ?vo8) (w1 := (w5.setCell ⟨g5, 0, none⟩ (.slice A5 (xs ++ [i]).length c5))) ?hg ?ho ?hn ?hr ?_; (case ho => rfl); (case hg => rfl); (case hn => rfl); (case hr => first | (go_simp; done) | (go_simp; rfl)); intro w6 hw; rw [← hw] at HV5; clear hw; have hx1 := (HV5.out.below.cell (World.block_lt_of_cell? w0 _ HZ1.out)).trans HZ1.out; have hx2 := (HV5.out.below.cell (World.block_lt_of_cell? w0 _ HZ2.out)).trans HZ2.out; have hk1 : w6.cell? ⟨g2, 1, none⟩ = some (.slice (some ad) ps.length c) := (blk_cell HV5.out.box 1).trans rfl))
    go_end0
    obtain rfl := walkL_leaf H'.out
    exact ⟨_, rfl, HV5.out⟩
  | false =>
    go_enter Try.func144, Try.ntmps144
    go_wp2_with (first
      | (go_at_call 89; refine (impl_used.calls root _ c ps i _ _ (Kd.C_below HR.out HV.out.below) HC.out HU.out).mono ?_; rintro e w1 ⟨rfl, hb1⟩; have HV1 := Aside0.mk (HV.out.next hb1); clear hb1 hk0 hk1 HV; have hk6 : w1.cell? ⟨g6, 0, none⟩ = some (.map (some bm)) := (blk_cell HV1.out.met 0).trans rfl; obtain ⟨nm, Dm, hnm, him, hom, hcm⟩ := HV1.out.map; have HNM := Aside0.mk hnm; have HIM := Aside0.mk him; have HOM := Aside0.mk hom; have HCM := Aside0.mk hcm; clear hnm him hom hcm) | ((try (refine gate_guard (by rfl) ?_; dsimp only)); at_lookup; refine wpList_lookup_own_int _ rfl _ _ 104 rfl 3 3 .i64 (Go.Maps.int_keyed Try.underlying3) Try.underlying104 Try.underlying3 (zero_int _) bm nm Dm rfl HOM.out _ _ rfl (Go.Maps.keyOf_int_mk Try.underlying3 HWF.out) ?_; intro cm hat hwc; obtain rfl : cm = 0 := (look_eq (HCM.out i HWF.out) hat).trans (if_neg HIN.out); clear hat hwc)
      | (at_mapUpdate; refine wpList_mapUpdate_own _ rfl _ _ _ 104 rfl 3 3 (Go.Maps.int_keyed Try.underlying3) Try.underlying104 _ bm nm Dm rfl HOM.out (by have := HNM.out; have := HLEN.out; unfold maxLen; omega) _ _ (.int .i64 i) rfl rfl (Go.Maps.keyOf_int_mk Try.underlying3 HWF.out) (.lit (.int .i64 1)) [] (plainElem_int Try.underlying3 (by decide)) ?_; intro w2 hown2 hg2; have HV2 := Aside0.mk (HV1.out.put hg2 (MetOk.put HNM.out HIM.out hown2 HCM.out)); clear hown2 hg2 hk6; obtain ⟨Av, vv, cv, evv, h5c, hvr⟩ := HV2.out.row; subst evv; have HVR := Aside0.mk hvr; have H5C := Aside0.mk h5c; have hk5 : w2.cell? ⟨g5, 0, none⟩ = some (.slice Av xs.length cv) := (blk_cell h5c 0).trans rfl; have hf5 := blk_frozen h5c 0; clear hvr h5c)
      | ((with_reducible refine gate_builtin (b := .append) (xs := #[.tmp 20, .tmp 22]) rfl ?_); at_builtin; refine Kd.R_append (Kd.int .i64) (w0 := w0) w0.heap.size rfl (.tmp 20) (.tmp 22) 64 3 (.int .i64 0) 8 rfl Try.underlying64 hinfoInt rfl (by decide) (by omega) (.slice Av xs.length cv) xs i [.int .i64 i] (fun _ => True) (fun _ => False) rfl rfl rfl (fun _ hk => hk.elim) (fun _ _ => trivial) HVR.out HV2.out.below HV2.out.below.size (by have := HLEN.out; omega) ?_; intro v5 w5 ho5 hb5 hg5 hat5; obtain ⟨A5, c5, e5⟩ := Kd.R_slice ho5; subst e5; have HV5 := Aside0.mk (HV2.out.app H5C.out HVR.out hg5 hb5 ho5); have hk5b : w5.cell? ⟨g5, 0, none⟩ = some (.slice Av xs.length cv) := (blk_cell (blk_grown H5C.out hg5 (Kd.R_ne HVR.out H5C.out (by decide))) 0).trans rfl; have hf5b := blk_frozen (blk_grown H5C.out hg5 (Kd.R_ne HVR.out H5C.out (by decide))) 0; clear ho5 hb5 hg5 hat5 hk5 hf5 HV2 HV1)
      | ((with_reducible refine gate_store (t := 64) (p := 3) rfl ?_); refine store_event (t := 64) (p := 3) (v := ?vo8) (w1 := (w5.setCell ⟨g5, 0, none⟩ (.slice A5 (xs ++ [i]).length c5))) ?hg ?ho ?hn ?hr ?_; (case ho => rfl); (case hg => rfl); (case hn => rfl); (case hr => first | (go_simp; done) | (go_simp; rfl)); intro w6 hw; rw [← hw] at HV5; clear hw; have hx1 := (HV5.out.below.cell (World.block_lt_of_cell? w0 _ HZ1.out)).trans HZ1.out; have hx2 := (HV5.out.below.cell (World.block_lt_of_cell? w0 _ HZ2.out)).trans HZ2.out; have hk1 : w6.cell? ⟨g2, 1, none⟩ = some (.slice (some ad) ps.length c) := (blk_cell HV5.out.box 1).trans rfl))
    go_loopg [40] k (fun kq v40 w' => ∃ (o : List Int) (x : Int), v40 = .int .i64 x ∧ Aside0 (walkL kq ps false es o x = some r) ∧ Aside0 (kq ≤ k) ∧ Aside0 (VState w0 g2 g5 g6 g7 bm root (some ad) c ps.length w' o o))
    case atStart => exact ⟨xs ++ [i], 0, rfl, H', ⟨Nat.le_refl _⟩, HV5⟩
    case round =>
      clear H' HV5 hx1 hx2 hk1
      obtain ⟨o, x, rfl, HA, HK1, HV⟩ := hrel
      cases gk with
      | zero => exact absurd HA.out (by simp [walkL])
      | succ k1 =>
        have H := HA.out
        clear HA
        rw [walkL] at H
        by_cases c1 : x < (es.length : Int)
        · rw [if_pos c1, if_neg (by decide)] at H
          have c1b : decide (x < (es.length : Int)) = true := decide_eq_true c1
          by_cases c2b : 0 ≤ x
          · rw [if_pos c2b] at H
            obtain ⟨o2, h2, H⟩ := Option.bind_eq_some_iff.mp H
            have H2 := Aside0.mk h2
            have H' := Aside0.mk H
            clear H h2
            obtain ⟨ad2, e2, hy0, hy1, hy2, hy3, hy4⟩ := at_T103 HC2.out x c2b c1
            subst e2
            replace hy0 := (HV.out.below.cell (World.block_lt_of_cell? w0 _ hy0)).trans hy0
            replace hy1 := (HV.out.below.cell (World.block_lt_of_cell? w0 _ hy1)).trans hy1
            replace hy2 := (HV.out.below.cell (World.block_lt_of_cell? w0 _ hy2)).trans hy2
            replace hy3 := (HV.out.below.cell (World.block_lt_of_cell? w0 _ hy3)).trans hy3
            replace hy4 := (HV.out.below.cell (World.block_lt_of_cell? w0 _ hy4)).trans hy4
            go_wp2_with (first
              | ((with_reducible refine gate_dst (N := 7) rfl ?_); refine box_event ?hg (N := 7) ?hd (cs := #[.int .i64 0, .int .i64 0, .int .i64 0, .int .i64 0, .int .i64 0]) (t := 103) ?hr ?_; (case hd => rfl); (case hg => rfl); (case hr => first | (go_simp; done) | (go_simp; rfl)); intro gv hg w7 hbox hb7; have hs0 : w7.cell? ⟨gv, 0, none⟩ = some (.int .i64 0) := (blk_cell hbox 0).trans rfl; have hs1 : w7.cell? ⟨gv, 1, none⟩ = some (.int .i64 0) := (blk_cell hbox 1).trans rfl; have hs2 : w7.cell? ⟨gv, 2, none⟩ = some (.int .i64 0) := (blk_cell hbox 2).trans rfl; have hs3 : w7.cell? ⟨gv, 3, none⟩ = some (.int .i64 0) := (blk_cell hbox 3).trans rfl; have hs4 : w7.cell? ⟨gv, 4, none⟩ = some (.int .i64 0) := (blk_cell hbox 4).trans rfl; have hf0 := blk_frozen hbox 0; have hf1 := blk_frozen hbox 1; have hf2 := blk_frozen hbox 2; have hf3 := blk_frozen hbox 3; have hf4 := blk_frozen hbox 4; have HW7 := Aside0.mk hb7; have BK7 := Aside0.mk hbox; have GW7 := Aside0.mk hg; clear hb7 hg hbox)
              | ((with_reducible refine gate_store (t := 103) (p := 7) rfl ?_); refine store_event (t := 103) (p := 7) (v := ?vo9) (w1 := (((((w7.setCell ⟨gv, 0, none⟩ (.int .i64 (rd_T103 es x).f0)).setCell ⟨gv, 1, none⟩ (.int .i64 (rd_T103 es x).f1.f0)).setCell ⟨gv, 2, none⟩ (.int .i64 (rd_T103 es x).f1.f1)).setCell ⟨gv, 3, none⟩ (.int .i64 (rd_T103 es x).f1.f2)).setCell ⟨gv, 4, none⟩ (.int .i64 (rd_T103 es x).f1.f3))) ?hg ?ho ?hn ?hr ?_; (case ho => rfl); (case hg => rfl); (case hn => rfl); (case hr => exact store5_run _ _ 7 43 rfl gv w7 _ _ _ _ _ rfl rfl BK7.out); intro w8 hw; have hb8 := set5_below HW7.out GW7.out (.int .i64 (rd_T103 es x).f0) (.int .i64 (rd_T103 es x).f1.f0) (.int .i64 (rd_T103 es x).f1.f1) (.int .i64 (rd_T103 es x).f1.f2) (.int .i64 (rd_T103 es x).f1.f3); rw [← hw] at hb8; have HV8 := Aside0.mk (HV.out.next hb8); have hk7 : w8.cell? ⟨gv, 0, none⟩ = some (.int .i64 (rd_T103 es x).f0) := (by rw [hw]; exact set5_cell BK7.out _ _ _ _ _); have hk4 := HV8.out.fncell; clear hw hb8 hs0 hs1 hs2 hs3 hs4 hf0 hf1 hf2 hf3 hf4 HW7 BK7 GW7)
              | (go_at_call 144; refine (IH.out k1 (by have := HK1.out; omega) _ o o2 _ HV8.out H2.out).mono ?_; rintro e w9 ⟨v9, rfl, hv9⟩; clear hk7 hk4))
            go_roundg k1
            case measure => have := HK1.out; omega
            case rel => exact ⟨o2, wrap64 (x + 1), rfl, H', ⟨by have := HK1.out; omega⟩, ⟨hv9⟩⟩
          · rw [if_neg c2b] at H
            exact absurd H (by simp)
        · rw [if_neg c1] at H
          have c1b : decide (x < (es.length : Int)) = false := decide_eq_false c1
          obtain rfl := Option.some.inj H
          go_wp2
          go_end0
          exact ⟨⟨_, rfl⟩, HV.out⟩

theorem visit_all (w0 : World) (g2 g5 g6 g7 bm : Nat) (root : Int) (A : Option Addr) (c : Nat) (ps : List S90) (hr0 : Kd.C k90 w0 A ps.length ps) (hc0 : ps.length ≤ c) : ∀ k k', k' ≤ k → VisitSaid w0 g2 g5 g6 g7 bm root A c ps k'
  | 0, k', hk => by
    obtain rfl : k' = 0 := by omega
    intro i xs r w _ h
    simp [walkM] at h
  | k + 1, k', hk => by
    rcases Nat.lt_or_ge k' (k + 1) with hlt | hge
    · exact visit_all w0 g2 g5 g6 g7 bm root A c ps hr0 hc0 k k' (by omega)
    obtain rfl : k' = k + 1 := by omega
    intro i xs r w hv h
    rw [walkM] at h
    have hmax : ps.length ≤ 9223372036854775807 := hr0.2.1
    by_cases h1 : pgOk ps i
    · rw [if_pos h1] at h
      have hwf : (Lit.int .i64 i).wf = true := by
        have h2 := h1.1
        have h3 := h1.2.1
        unfold Lit.wf
        rw [Bool.and_eq_true, decide_eq_true_eq, decide_eq_true_eq]
        have e1 : IntKind.i64.min = -9223372036854775808 := by decide
        have e2 : IntKind.i64.max = 9223372036854775807 := by decide
        rw [e1, e2]
        omega
      by_cases h3 : xs.length < 17592186044415
      · rw [if_pos h3] at h
        by_cases h2 : i ∈ xs
        · rw [if_pos h2] at h
          obtain rfl := Option.some.inj h
          exact visit_met w0 g2 g5 g6 g7 bm A c ps hr0 hc0 root i xs w hv h1 hwf h2
        · rw [if_neg h2] at h
          exact visit_new w0 g2 g5 g6 g7 bm A c ps hr0 hc0 root i xs w hv h1 hwf h2 h3 k (fun k' hk' => visit_all w0 g2 g5 g6 g7 bm root A c ps hr0 hc0 k k' hk') r h
      · rw [if_neg h3] at h
        exact absurd h (by simp)
    · rw [if_neg h1] at h
      obtain rfl := Option.some.inj h
      exact visit_out w0 g2 g5 g6 g7 bm A c ps hr0 hc0 root i xs w hv h1

theorem MetOk.below {w w' : World} {b : Nat} {out : List Int} (h : MetOk w b out) (hb : Below w.heap.size w w') : MetOk w' b out := by
  obtain ⟨es, clock, hm⟩ := h.isMap
  exact h.step ((blk_below hm hb).trans hm.symm)
theorem blkFarH {w : World} {g g' : Nat} {o : Obj} (h : w.heap[g]? = some o) (hne : g ≠ g') (v : Value) : (w.setCell ⟨g', 0, none⟩ v).heap[g]? = some o := (Below.heap_setCell w _ v _ hne).trans h
theorem MetOk.far {w : World} {b g : Nat} {out : List Int} {cs : Array Value} {t : TypeId} {fr : Nat × Nat} (h : MetOk w b out) (hc : w.heap[g]? = some (.cells cs t fr)) (v : Value) : MetOk (w.setCell ⟨g, 0, none⟩ v) b out := by
  obtain ⟨es, clock, hm⟩ := h.isMap
  exact h.step (Below.heap_setCell w _ v _ (fun e => cells_ne_map hc hm (by rw [e])))
theorem func_store (o : Oper) (a : Act) (p v : Tmp) (hop : o.op = .store 137 (.tmp p) (.tmp v)) (g : Nat) (w : World) (f : FuncId) (fs : Array Value) (hp : a.eval (.tmp p) = .pointer (some ⟨g, 0, none⟩)) (hv : a.eval (.tmp v) = .func (.func f) #[] fs)
    (hbox : w.heap[g]? = some (.cells #[.nilFunc] 137 (0, 0))) : (execOp a.eval o).run Try.prog w = .ok .skip (w.setCell ⟨g, 0, none⟩ (.func (.func f) #[] fs)) := by
  have hs : w.cell? ⟨g, 0, none⟩ = some .nilFunc := (blk_cell hbox 0).trans rfl
  have hf := blk_frozen hbox 0
  have hu := Try.underlying137
  unfold execOp
  rw [hop]
  simp only [hp, hv]
  have hone : (Value.func (.func f) #[] fs).oneCell' = true := rfl
  clear hop hp hv hbox
  first | (go_simp; done) | (go_simp; rfl) | (go_simp; rw [run_store _ _ _ _ _ hone]; simp [hs, hf]; done)
theorem map_event {ops : Array Oper} {rest : List Oper} {o : Oper} {a : Act} {Q : Exit → Act → World → Prop} {W : World} (hgd : o.guard = none) {N : Tmp} (hd : o.dst = some N) (hop : o.op = .makeMap 104 none)
    (h : ∀ g, g = W.heap.size → ∀ w1, MetOk w1 g [] → Below W.heap.size W w1 → wpList Try.prog ops Q rest (a.put o.dst (.map (some g))) w1) : wpList Try.prog ops Q (o :: rest) a W := by
  refine Kd.event_run (v := .map (some W.heap.size)) (w1 := W.alloc (.map #[] 0)) hgd ?_ (h _ rfl _ (MetOk.made W) (below_alloc (Below.refl _ _) _))
  unfold execOp
  rw [hop]
  simp [run_makeMap, Result.andThen]
theorem start_state {w w9 w10 : World} {g2 g5 g6 g7 bm : Nat} {root : Int} {A : Option Addr} {c n : Nat} (hb : Below w.heap.size w w9) (h2 : w9.heap[g2]? = some (.cells #[.int .i64 root, .slice A n c] 49 (0, 0))) (h6 : w9.heap[g6]? = some (.cells #[.map (some bm)] 104 (0, 0))) (h5 : w9.heap[g5]? = some (.cells #[.slice none 0 0] 64 (0, 0))) (h7 : w9.heap[g7]? = some (.cells #[.nilFunc] 137 (0, 0))) (hm : MetOk w9 bm []) (ge5 : w.heap.size ≤ g5) (gem : w.heap.size ≤ bm) (ge7 : w.heap.size ≤ g7) (hw : w10 = w9.setCell ⟨g7, 0, none⟩ (.func (.func 144) #[] #[.pointer (some ⟨g2, 0, none⟩), .pointer (some ⟨g6, 0, none⟩), .pointer (some ⟨g5, 0, none⟩), .pointer (some ⟨g7, 0, none⟩)])) : VState w g2 g5 g6 g7 bm root A c n w10 [] [] := by
  subst hw
  exact ⟨below_set hb ge7, blkFarH h2 (blkNe h2 h7 (by decide)) _, blkFarH h6 (blkNe h6 h7 (by decide)) _, ⟨none, _, 0, rfl, blkFarH h5 (blkNe h5 h7 (by decide)) _, Kd.R_nil _ _ _ _ _⟩, blk_put h7 0 _ rfl, hm.far h7 _, ge5, gem⟩

/-- The program's walk. -/
def impl_reachFrom.f (k : Nat) (a0_0 : Int) (l0_1 : List S90) (a1 : Int) : Option (List Int) := walkM k l0_1 a1 []
theorem impl_reachFrom.mono : ∀ a0 a1 a2 k, LeO (impl_reachFrom.f k a0 a1 a2) (impl_reachFrom.f (k + 1) a0 a1 a2) := fun a0 a1 a2 k => (walk_mono k).1 _ _ _
set_option maxHeartbeats 8000000 in
set_option maxRecDepth 100000 in
theorem impl_reachFrom.calls (k : Nat) (a0_0 : Int) (A0_1 : Option Addr) (c0_1 : Nat) (l0_1 : List S90) (a1 : Int) (r : List Int) (w : World) (hr0_1 : Kd.C k90 w A0_1 l0_1.length l0_1) (hc0_1 : l0_1.length ≤ c0_1) (h : impl_reachFrom.f k a0_0 l0_1 a1 = some r) :
    Calls Try.prog 127 #[.agg #[.int .i64 a0_0, .slice A0_1 l0_1.length c0_1], .int .i64 a1] w fun e w' => ∃ v0_ : Value, e = .returned (v0_) ∧ Kd.R (Kd.int .i64) 3 w' w.heap.size (fun _ => True) v0_ r ∧ Below w.heap.size w w' := by
  have HS := Aside0.mk (fun g2 g5 g6 g7 bm => visit_all w g2 g5 g6 g7 bm a0_0 A0_1 c0_1 l0_1 hr0_1 hc0_1 k k (Nat.le_refl _))
  have H' := Aside0.mk h
  clear hr0_1 hc0_1 h
  have hu2 := Try.underlying49
  go_enter Try.func127, Try.ntmps127
  go_wp2_with (first
    | ((with_reducible refine gate_dst (N := 2) rfl ?_); refine box_event ?hg (N := 2) ?hd (cs := #[.int .i64 a0_0, .slice A0_1 l0_1.length c0_1]) (t := 49) ?hr ?_; (case hd => rfl); (case hg => rfl); (case hr => first | (go_simp; done) | (go_simp; rfl)); intro g2 hg w2 hbox hb; have B2 := Aside0.mk hb; have BK2 := Aside0.mk hbox; clear hb hg hbox)
    | ((with_reducible refine gate_dst (N := 5) rfl ?_); refine box_event ?hg (N := 5) ?hd (cs := #[.slice none 0 0]) (t := 64) ?hr ?_; (case hd => rfl); (case hg => rfl); (case hr => first | (go_simp; done) | (go_simp; rfl)); intro g5 hg w5 hbox hb; have B5 := Aside0.mk (below_step B2.out hb); have BK2 := Aside0.mk (blk_below BK2.out hb); have BK5 := Aside0.mk hbox; have GE5 := Aside0.mk (by rw [hg]; exact B2.out.size : w.heap.size ≤ g5); clear hb hg hbox)
    | ((with_reducible refine gate_dst (N := 8) rfl ?_); refine map_event rfl (N := 8) rfl rfl ?_; intro bm hg w8 hmet hb; have B8 := Aside0.mk (below_step B5.out hb); have BK2 := Aside0.mk (blk_below BK2.out hb); have BK5 := Aside0.mk (blk_below BK5.out hb); have GE8 := Aside0.mk (by rw [hg]; exact B5.out.size : w.heap.size ≤ bm); have MET := Aside0.mk hmet; clear hb hg hmet)
    | ((with_reducible refine gate_dst (N := 6) rfl ?_); refine box_event ?hg (N := 6) ?hd (cs := #[.map none]) (t := 104) ?hr ?_; (case hd => rfl); (case hg => rfl); (case hr => first | (go_simp; done) | (go_simp; rfl)); intro g6 hg w6 hbox hb; have B6 := Aside0.mk (below_step B8.out hb); have BK2 := Aside0.mk (blk_below BK2.out hb); have BK5 := Aside0.mk (blk_below BK5.out hb); have MET := Aside0.mk (MET.out.below hb); have BK6 := Aside0.mk hbox; have GE6 := Aside0.mk (by rw [hg]; exact B8.out.size : w.heap.size ≤ g6); have hs6 : w6.cell? ⟨g6, 0, none⟩ = some (.map none) := (blk_cell hbox 0).trans rfl; have hf6 := blk_frozen hbox 0; clear hb hg hbox)
    | ((with_reducible refine gate_store (t := 104) (p := 6) rfl ?_); refine store_event (t := 104) (p := 6) (v := ?vo1) (w1 := (w6.setCell ⟨g6, 0, none⟩ (.map (some bm)))) ?hg ?ho ?hn ?hr ?_; (case ho => rfl); (case hg => rfl); (case hn => rfl); (case hr => first | (go_simp; done) | (go_simp; rfl)); intro w7 hw; have BK2 := Aside0.mk (hw ▸ blkFarH BK2.out (blkNe BK2.out BK6.out (by decide)) (.map (some bm))); have BK5 := Aside0.mk (hw ▸ blkFarH BK5.out (blkNe BK5.out BK6.out (by decide)) (.map (some bm))); have MET := Aside0.mk (hw ▸ MET.out.far BK6.out (.map (some bm))); have B7 := Aside0.mk (hw ▸ below_set B6.out GE6.out : Below w.heap.size w w7); have BK6 := Aside0.mk (hw ▸ blk_put (cs' := #[.map (some bm)]) BK6.out 0 (.map (some bm)) rfl : w7.heap[g6]? = some (.cells #[.map (some bm)] 104 (0, 0))); clear hw hs6 hf6)
    | ((with_reducible refine gate_dst (N := 7) rfl ?_); refine box_event ?hg (N := 7) ?hd (cs := #[.nilFunc]) (t := 137) ?hr ?_; (case hd => rfl); (case hg => rfl); (case hr => first | (go_simp; done) | (go_simp; rfl)); intro g7 hg w9 hbox hb; have B9 := Aside0.mk (below_step B7.out hb); have BK2 := Aside0.mk (blk_below BK2.out hb); have BK5 := Aside0.mk (blk_below BK5.out hb); have BK6 := Aside0.mk (blk_below BK6.out hb); have MET := Aside0.mk (MET.out.below hb); have BK7 := Aside0.mk hbox; have GE7 := Aside0.mk (by rw [hg]; exact B7.out.size : w.heap.size ≤ g7); have hs7 : w9.cell? ⟨g7, 0, none⟩ = some .nilFunc := (blk_cell hbox 0).trans rfl; have hf7 := blk_frozen hbox 0; clear hb hg hbox)
    | ((with_reducible refine gate_store (t := 137) (p := 7) rfl ?_); refine store_event (t := 137) (p := 7) (v := ?vo2) (w1 := (w9.setCell ⟨g7, 0, none⟩ (.func (.func 144) #[] #[.pointer (some ⟨g2, 0, none⟩), .pointer (some ⟨g6, 0, none⟩), .pointer (some ⟨g5, 0, none⟩), .pointer (some ⟨g7, 0, none⟩)]))) ?hg ?ho ?hn ?hr ?_; (case ho => rfl); (case hg => rfl); (case hn => rfl); (case hr => exact func_store _ _ 7 9 rfl g7 w9 _ _ rfl rfl BK7.out); intro w10 hw; have HV := Aside0.mk (start_state B9.out BK2.out BK6.out BK5.out BK7.out MET.out GE5.out GE8.out GE7.out hw); have hk7 : w10.cell? ⟨g7, 0, none⟩ = some (.func (.func 144) #[] #[.pointer (some ⟨g2, 0, none⟩), .pointer (some ⟨g6, 0, none⟩), .pointer (some ⟨g5, 0, none⟩), .pointer (some ⟨g7, 0, none⟩)]) := HV.out.fncell; clear hw hs7 hf7)
    | (go_at_call 144; refine (HS.out g2 g5 g6 g7 bm a1 [] r _ HV.out H'.out).mono ?_; rintro e w11 ⟨v11, rfl, hv⟩; obtain ⟨Av, vv, cv, evv, h5c, hvr⟩ := hv.row; subst evv; have HVR := Aside0.mk hvr; have HBB := Aside0.mk hv.below; have hk5 : w11.cell? ⟨g5, 0, none⟩ = some (.slice Av r.length cv) := (blk_cell h5c 0).trans rfl; clear hv hvr h5c))
  go_ret
  exact ⟨_, rfl, HVR.out, HBB.out⟩

end Go.Proofs.Ytngjaajcdbodeaa.All

namespace Go.Proofs.Ytngjaajcdbodeaa.All
open Go.RowKit Go.Proofs.YtngjaajcdbodeaaW.PrintWords Go.Proofs.YtngjaajcdbodeaaW.PrintLast Go.Proofs.YtngjaajcdbodeaaW.PrintMore
attribute [local go_sem] max2_int min2_int max_two min_two max_three min_three max_four min_four   -- for this text's walks alone
set_option linter.unusedVariables false
set_option linter.unusedSimpArgs false

/-! ### impl_in: function 88 -/
def impl_in.f (a0 : Int) (a1 : Int) (a2 : Int) : Option (Bool) := if a1 ≤ a0 then (some (decide (a0 ≤ a2))) else (some false)
set_option maxHeartbeats 8000000 in
set_option maxRecDepth 100000 in
theorem impl_in.calls (a0 : Int) (a1 : Int) (a2 : Int) (r : Bool) (w : World) (h : impl_in.f a0 a1 a2 = some r) :
    Calls Try.prog 88 #[.int .i64 a0, .int .i64 a1, .int .i64 a2] w fun e w' => e = .returned (.bool r) ∧ Drawn0 w w' := by
  have H : (if a1 ≤ a0 then (some (decide (a0 ≤ a2))) else (some false)) = some r := h
  clear h
  by_cases c4 : a1 ≤ a0
  · rw [if_pos c4] at H
    have c4b0 : decide (a1 ≤ a0) = true := decide_eq_true c4
    clear c4
    obtain rfl := Option.some.inj H
    go_enter Try.func88, Try.ntmps88
    go_wp2
    go_ret
    exact ⟨by first | rfl | (simp; done) | (simp [*]; done), by repeat (first | exact Drawn0.refl _ | apply Drawn0.step)⟩
  · rw [if_neg c4] at H
    have c4b0 : decide (a1 ≤ a0) = false := decide_eq_false c4
    clear c4
    obtain rfl := Option.some.inj H
    go_enter Try.func88, Try.ntmps88
    go_wp2
    go_ret
    exact ⟨by first | rfl | (simp; done) | (simp [*]; done), by repeat (first | exact Drawn0.refl _ | apply Drawn0.step)⟩

end Go.Proofs.Ytngjaajcdbodeaa.All

/- EntryAt returns the place of the first entry of a number, or -1, for every list and number. No condition. -/
namespace Go.Proofs.Ytngjaajcdbodeaa.All
open Go.RowKit Go.Proofs.YtngjaajcdbodeaaW.PrintWords Go.Proofs.YtngjaajcdbodeaaW.PrintLast Go.Proofs.YtngjaajcdbodeaaW.PrintMore
set_option linter.unusedVariables false
set_option linter.unusedSimpArgs false

/-! ### impl_EntryAt: by hand -/
def impl_EntryAt.l0 : Nat → List S103 → Int → Int → Option Int
  | 0, _, _, _ => none
  | k + 1, x0, x1, x5 => if x5 < (x0.length : Int) then (if 0 ≤ x5 then (if (rd_T103 x0 x5).f0 = x1 then some x5 else impl_EntryAt.l0 k x0 x1 (wrap64 (x5 + 1))) else none) else some (-1)
def impl_EntryAt.f (k : Nat) (l0 : List S103) (a1 : Int) : Option Int := impl_EntryAt.l0 k l0 a1 0
theorem impl_EntryAt.mono_l : ∀ k, (∀ y0 y1 y2, LeO (impl_EntryAt.l0 k y0 y1 y2) (impl_EntryAt.l0 (k + 1) y0 y1 y2))
  | 0 => fun _ _ _ r h => by simp [impl_EntryAt.l0] at h
  | k + 1 => by
    have ih0 := impl_EntryAt.mono_l k
    intro y0 y1 y2
    unfold impl_EntryAt.l0
    exact LeO.ite (LeO.ite (LeO.ite (LeO.refl _) (ih0 _ _ _)) (LeO.refl _)) (LeO.refl _)
theorem impl_EntryAt.mono : ∀ a0 a1 k, LeO (impl_EntryAt.f k a0 a1) (impl_EntryAt.f (k + 1) a0 a1) := fun a0 a1 k => impl_EntryAt.mono_l k _ _ _
set_option maxHeartbeats 8000000 in
set_option maxRecDepth 100000 in
theorem slices_IndexFunc_Entry.calls (k : Nat) (A0 : Option Addr) (c0 : Nat) (l0 : List S103) (a1 r : Int) (g : Nat) (w : World) (hr0 : Kd.C k103 w A0 l0.length l0) (hc0 : l0.length ≤ c0) (hcell : w.cell? ⟨g, 0, none⟩ = some (.int .i64 a1)) (h : impl_EntryAt.l0 k l0 a1 0 = some r) :
    Calls Try.prog 133 #[.slice A0 l0.length c0, .func (.func 134) #[] #[.pointer (some ⟨g, 0, none⟩)]] w fun e w' => e = .returned (.int .i64 r) ∧ Below w.heap.size w w' := by
  have HR := Aside0.mk hr0
  have HC := Aside0.mk hc0
  have HG := Aside0.mk hcell
  have HB := Aside0.mk (Below.refl w.heap.size w)
  clear hr0 hc0 hcell
  have H' := Aside0.mk h
  clear h
  have hu1 := Try.underlying103
  go_enter Try.func133, Try.ntmps133
  go_wp2
  go_loopg [8] k (fun kq v8 w' => ∃ (x5_1 : Int), v8 = .int .i64 x5_1 ∧ Aside0 (impl_EntryAt.l0 kq l0 a1 x5_1 = some r) ∧ Aside0 (kq ≤ k) ∧ Aside0 (Below w.heap.size w w'))
  case atStart => exact ⟨0, rfl, H', ⟨Nat.le_refl _⟩, HB⟩
  case round =>
    clear H' HB
    obtain ⟨x5_1, rfl, HA, HK1, HB⟩ := hrel
    cases gk with
    | zero => exact absurd HA.out (by simp [impl_EntryAt.l0])
    | succ k1 =>
      have H := HA.out
      clear HA
      simp only [impl_EntryAt.l0] at H
      by_cases c3 : x5_1 < (l0.length : Int)
      · rw [if_pos c3] at H
        by_cases c4 : 0 ≤ x5_1
        · rw [if_pos c4] at H
          obtain ⟨ad, e, hx0, hx1, hx2, hx3, hx4⟩ := at_T103 HR.out x5_1 c4 c3
          cases e
          replace hx0 := (HB.out.cell (World.block_lt_of_cell? w _ hx0)).trans hx0
          replace hx1 := (HB.out.cell (World.block_lt_of_cell? w _ hx1)).trans hx1
          replace hx2 := (HB.out.cell (World.block_lt_of_cell? w _ hx2)).trans hx2
          replace hx3 := (HB.out.cell (World.block_lt_of_cell? w _ hx3)).trans hx3
          replace hx4 := (HB.out.cell (World.block_lt_of_cell? w _ hx4)).trans hx4
          have hxg := (HB.out.cell (World.block_lt_of_cell? w _ HG.out)).trans HG.out
          have hlg : g < wr.heap.size := World.block_lt_of_cell? wr _ hxg
          have c3b0 : decide (x5_1 < (l0.length : Int)) = true := decide_eq_true c3
          by_cases c5 : (rd_T103 l0 x5_1).f0 = a1
          · rw [if_pos c5] at H
            obtain rfl := Option.some.inj H
            have c5b : ((rd_T103 l0 x5_1).f0 == a1) = true := beq_iff_eq.mpr c5
            clear c5 H
            go_wp2
            go_ret
            exact ⟨rfl, below_alloc HB.out _⟩
          · rw [if_neg c5] at H
            have H' := Aside0.mk H
            clear H
            have c5b : ((rd_T103 l0 x5_1).f0 == a1) = false := beq_eq_false_iff_ne.mpr c5
            clear c5
            go_wp2
            go_roundg k1
            case measure => have := HK1.out; omega
            case rel => exact ⟨_, rfl, H', ⟨by have := HK1.out; omega⟩, ⟨below_alloc HB.out _⟩⟩
        · rw [if_neg c4] at H
          exact absurd H (by simp)
      · rw [if_neg c3] at H
        have c3b0 : decide (x5_1 < (l0.length : Int)) = false := decide_eq_false c3
        clear c3
        obtain rfl := Option.some.inj H
        go_wp2
        go_ret
        exact ⟨rfl, HB.out⟩

set_option maxHeartbeats 4000000 in
set_option maxRecDepth 100000 in
theorem impl_EntryAt.calls (k : Nat) (A0 : Option Addr) (c0 : Nat) (l0 : List S103) (a1 r : Int) (w : World) (hr0 : Kd.C k103 w A0 l0.length l0) (hc0 : l0.length ≤ c0) (h : impl_EntryAt.f k l0 a1 = some r) :
    Calls Try.prog 103 #[.slice A0 l0.length c0, .int .i64 a1] w fun e w' => e = .returned (.int .i64 r) ∧ Below w.heap.size w w' := by
  have HR := Aside0.mk hr0
  have HC := Aside0.mk hc0
  have H' := Aside0.mk h
  clear hr0 hc0 h
  go_enter Try.func103, Try.ntmps103
  go_wp2_with (go_at_call 133; refine (slices_IndexFunc_Entry.calls k _ _ l0 a1 r _ _ (Kd.C_alloc HR.out _) HC.out ((blk_cell (heap_alloc_new w (.cells #[.int .i64 a1] 3)) 0).trans rfl) H'.out).mono ?_; rintro e w' ⟨rfl, hb⟩)
  go_ret
  exact ⟨rfl, below_step (below_alloc (Below.refl _ _) _) hb⟩

end Go.Proofs.Ytngjaajcdbodeaa.All

namespace Go.Proofs.Ytngjaajcdbodeaa.All
open Go.RowKit Go.Proofs.YtngjaajcdbodeaaW.PrintWords Go.Proofs.YtngjaajcdbodeaaW.PrintLast Go.Proofs.YtngjaajcdbodeaaW.PrintMore
attribute [local go_sem] max2_int min2_int max_two min_two max_three min_three max_four min_four   -- for this text's walks alone
set_option linter.unusedVariables false
set_option linter.unusedSimpArgs false

/-! ### impl_BoxOk: function 112 -/
def impl_BoxOk.f (a0_0 : Int) (a0_1 : Int) (a0_2 : Int) (a0_3 : Int) : Option (Bool) := (impl_in.f a0_0 0 a0_2).bind fun t171 => (if t171 = true then ((impl_in.f a0_2 0 255).bind fun t172 => (if t172 = true then ((impl_in.f a0_1 0 a0_3).bind fun t173 => (if t173 = true then ((impl_in.f a0_3 0 255).bind fun t174 => (some t174)) else (some false))) else (some false))) else (some false))
set_option maxHeartbeats 8000000 in
set_option maxRecDepth 100000 in
theorem impl_BoxOk.calls (a0_0 : Int) (a0_1 : Int) (a0_2 : Int) (a0_3 : Int) (r : Bool) (w : World) (h : impl_BoxOk.f a0_0 a0_1 a0_2 a0_3 = some r) :
    Calls Try.prog 112 #[.agg #[.int .i64 a0_0, .int .i64 a0_1, .int .i64 a0_2, .int .i64 a0_3]] w fun e w' => e = .returned (.bool r) ∧ Below w.heap.size w w' := by
  have hu32 := Try.underlying32
  have HB := Aside0.mk (Below.refl w.heap.size w)
  have H : ((impl_in.f a0_0 0 a0_2).bind fun t171 => (if t171 = true then ((impl_in.f a0_2 0 255).bind fun t172 => (if t172 = true then ((impl_in.f a0_1 0 a0_3).bind fun t173 => (if t173 = true then ((impl_in.f a0_3 0 255).bind fun t174 => (some t174)) else (some false))) else (some false))) else (some false))) = some r := h
  clear h
  replace H := Option.bind_eq_some_iff.mp H
  obtain ⟨t171, A20, H⟩ := H
  replace H : (if t171 = true then ((impl_in.f a0_2 0 255).bind fun t172 => (if t172 = true then ((impl_in.f a0_1 0 a0_3).bind fun t173 => (if t173 = true then ((impl_in.f a0_3 0 255).bind fun t174 => (some t174)) else (some false))) else (some false))) else (some false)) = some r := H
  have A2 := Aside0.mk A20
  clear A20
  by_cases c3 : t171 = true
  · subst c3
    have H1 : ((impl_in.f a0_2 0 255).bind fun t172 => (if t172 = true then ((impl_in.f a0_1 0 a0_3).bind fun t173 => (if t173 = true then ((impl_in.f a0_3 0 255).bind fun t174 => (some t174)) else (some false))) else (some false))) = some r := by rw [if_pos rfl] at H; exact H
    clear H
    have H := H1
    clear H1
    replace H := Option.bind_eq_some_iff.mp H
    obtain ⟨t172, A40, H⟩ := H
    replace H : (if t172 = true then ((impl_in.f a0_1 0 a0_3).bind fun t173 => (if t173 = true then ((impl_in.f a0_3 0 255).bind fun t174 => (some t174)) else (some false))) else (some false)) = some r := H
    have A4 := Aside0.mk A40
    clear A40
    by_cases c5 : t172 = true
    · subst c5
      have H1 : ((impl_in.f a0_1 0 a0_3).bind fun t173 => (if t173 = true then ((impl_in.f a0_3 0 255).bind fun t174 => (some t174)) else (some false))) = some r := by rw [if_pos rfl] at H; exact H
      clear H
      have H := H1
      clear H1
      replace H := Option.bind_eq_some_iff.mp H
      obtain ⟨t173, A60, H⟩ := H
      replace H : (if t173 = true then ((impl_in.f a0_3 0 255).bind fun t174 => (some t174)) else (some false)) = some r := H
      have A6 := Aside0.mk A60
      clear A60
      by_cases c7 : t173 = true
      · subst c7
        have H1 : ((impl_in.f a0_3 0 255).bind fun t174 => (some t174)) = some r := by rw [if_pos rfl] at H; exact H
        clear H
        have H := H1
        clear H1
        replace H := Option.bind_eq_some_iff.mp H
        obtain ⟨t174, A80, H⟩ := H
        replace H : (some t174) = some r := H
        have A8 := Aside0.mk A80
        clear A80
        obtain rfl := Option.some.inj H
        go_enter Try.func112, Try.ntmps112
        go_wp2_with (first | ((with_reducible refine gate_dst (N := 1) rfl ?_); refine box_event ?hg (N := 1) ?hd (cs := #[.int .i64 a0_0, .int .i64 a0_1, .int .i64 a0_2, .int .i64 a0_3]) (t := 32) ?hr ?_; (case hd => rfl); (case hg => rfl); (case hr => first | (go_simp; done) | (go_simp; rfl)); intro gb170 hg w9 hbox hb; have n0_ := Aside0.mk (below_step (by repeat (first | (with_reducible first | exact HB.out | apply below_alloc | apply pw_below_drewN | apply below_drew1) | exact HB.out)) hb); have n1_ := Aside0.mk (hbox); have n2_ := Aside0.mk ((by rw [hg]; exact (below_size (by repeat (first | (with_reducible first | exact HB.out | apply below_alloc | apply pw_below_drewN | apply below_drew1) | exact HB.out))) : w.heap.size ≤ gb170)); have n3_ := Aside0.mk ((by rw [hg]; exact (below_size (by repeat (first | (with_reducible first | exact HB.out | apply below_alloc | apply pw_below_drewN | apply below_drew1) | exact HB.out))) : w.heap.size ≤ gb170)); clear HB; have HB := n0_; have BK170 := n1_; have GW170 := n2_; have GE170 := n3_; clear n0_ n1_ n2_ n3_; clear hb hbox hg; have hcz10_0 : w9.cell? ⟨gb170, 0, none⟩ = some (.int .i64 a0_0) := (blk_cell BK170.out 0).trans rfl; have hcz10_1 : w9.cell? ⟨gb170, 1, none⟩ = some (.int .i64 a0_1) := (blk_cell BK170.out 1).trans rfl; have hcz10_2 : w9.cell? ⟨gb170, 2, none⟩ = some (.int .i64 a0_2) := (blk_cell BK170.out 2).trans rfl; have hcz10_3 : w9.cell? ⟨gb170, 3, none⟩ = some (.int .i64 a0_3) := (blk_cell BK170.out 3).trans rfl; have hfz10_0 := blk_frozen BK170.out 0; have hfz10_1 := blk_frozen BK170.out 1; have hfz10_2 := blk_frozen BK170.out 2; have hfz10_3 := blk_frozen BK170.out 3) | ((with_reducible refine gate_callee (f := 88) rfl ?_); refine goesL_ (some 7) rfl rfl Try.func88 (by kernel_rfl) rfl #[.int .i64 a0_0, .int .i64 0, .int .i64 a0_2] rfl (by (try simp only [List.map_toArray, List.map_cons, List.map_nil]); first | done | rfl | (simp only [List.length_drop, List.length_take]; rfl)) ?_; (with_reducible refine (impl_in.calls a0_0 0 a0_2 true _ A2.out).mono ?_); rintro e w' ⟨rfl, ⟨nd, rfl⟩⟩; refine ⟨_, rfl, ?_⟩) | (go_at_call 88; (with_reducible refine (impl_in.calls a0_2 0 255 true _ A4.out).mono ?_); rintro e w' ⟨rfl, ⟨nd, rfl⟩⟩) | (go_at_call 88; (with_reducible refine (impl_in.calls a0_1 0 a0_3 true _ A6.out).mono ?_); rintro e w' ⟨rfl, ⟨nd, rfl⟩⟩) | (go_at_call 88; (with_reducible refine (impl_in.calls a0_3 0 255 t174 _ A8.out).mono ?_); rintro e w' ⟨rfl, ⟨nd, rfl⟩⟩))
        go_ret
        exact ⟨by first | rfl | (simp [errW_none, errW_some] <;> rfl) | (simp [*, errW_none, errW_some] <;> rfl), by repeat (first | (with_reducible first | exact HB.out | apply below_alloc | apply pw_below_drewN | apply below_drew1 | refine below_set ?_ GE170.out) | exact HB.out)⟩
      · replace c7 := Bool.eq_false_iff.mpr c7
        subst c7
        have H1 : (some false) = some r := by rw [if_neg (show ¬ (false = true) by decide)] at H; exact H
        clear H
        have H := H1
        clear H1
        obtain rfl := Option.some.inj H
        go_enter Try.func112, Try.ntmps112
        go_wp2_with (first | ((with_reducible refine gate_dst (N := 1) rfl ?_); refine box_event ?hg (N := 1) ?hd (cs := #[.int .i64 a0_0, .int .i64 a0_1, .int .i64 a0_2, .int .i64 a0_3]) (t := 32) ?hr ?_; (case hd => rfl); (case hg => rfl); (case hr => first | (go_simp; done) | (go_simp; rfl)); intro gb170 hg w11 hbox hb; have n0_ := Aside0.mk (below_step (by repeat (first | (with_reducible first | exact HB.out | apply below_alloc | apply pw_below_drewN | apply below_drew1) | exact HB.out)) hb); have n1_ := Aside0.mk (hbox); have n2_ := Aside0.mk ((by rw [hg]; exact (below_size (by repeat (first | (with_reducible first | exact HB.out | apply below_alloc | apply pw_below_drewN | apply below_drew1) | exact HB.out))) : w.heap.size ≤ gb170)); have n3_ := Aside0.mk ((by rw [hg]; exact (below_size (by repeat (first | (with_reducible first | exact HB.out | apply below_alloc | apply pw_below_drewN | apply below_drew1) | exact HB.out))) : w.heap.size ≤ gb170)); clear HB; have HB := n0_; have BK170 := n1_; have GW170 := n2_; have GE170 := n3_; clear n0_ n1_ n2_ n3_; clear hb hbox hg; have hcz12_0 : w11.cell? ⟨gb170, 0, none⟩ = some (.int .i64 a0_0) := (blk_cell BK170.out 0).trans rfl; have hcz12_1 : w11.cell? ⟨gb170, 1, none⟩ = some (.int .i64 a0_1) := (blk_cell BK170.out 1).trans rfl; have hcz12_2 : w11.cell? ⟨gb170, 2, none⟩ = some (.int .i64 a0_2) := (blk_cell BK170.out 2).trans rfl; have hcz12_3 : w11.cell? ⟨gb170, 3, none⟩ = some (.int .i64 a0_3) := (blk_cell BK170.out 3).trans rfl; have hfz12_0 := blk_frozen BK170.out 0; have hfz12_1 := blk_frozen BK170.out 1; have hfz12_2 := blk_frozen BK170.out 2; have hfz12_3 := blk_frozen BK170.out 3) | ((with_reducible refine gate_callee (f := 88) rfl ?_); refine goesL_ (some 7) rfl rfl Try.func88 (by kernel_rfl) rfl #[.int .i64 a0_0, .int .i64 0, .int .i64 a0_2] rfl (by (try simp only [List.map_toArray, List.map_cons, List.map_nil]); first | done | rfl | (simp only [List.length_drop, List.length_take]; rfl)) ?_; (with_reducible refine (impl_in.calls a0_0 0 a0_2 true _ A2.out).mono ?_); rintro e w' ⟨rfl, ⟨nd, rfl⟩⟩; refine ⟨_, rfl, ?_⟩) | (go_at_call 88; (with_reducible refine (impl_in.calls a0_2 0 255 true _ A4.out).mono ?_); rintro e w' ⟨rfl, ⟨nd, rfl⟩⟩) | (go_at_call 88; (with_reducible refine (impl_in.calls a0_1 0 a0_3 false _ A6.out).mono ?_); rintro e w' ⟨rfl, ⟨nd, rfl⟩⟩))
        go_ret
        exact ⟨by first | rfl | (simp [errW_none, errW_some] <;> rfl) | (simp [*, errW_none, errW_some] <;> rfl), by repeat (first | (with_reducible first | exact HB.out | apply below_alloc | apply pw_below_drewN | apply below_drew1 | refine below_set ?_ GE170.out) | exact HB.out)⟩
    · replace c5 := Bool.eq_false_iff.mpr c5
      subst c5
      have H1 : (some false) = some r := by rw [if_neg (show ¬ (false = true) by decide)] at H; exact H
      clear H
      have H := H1
      clear H1
      obtain rfl := Option.some.inj H
      go_enter Try.func112, Try.ntmps112
      go_wp2_with (first | ((with_reducible refine gate_dst (N := 1) rfl ?_); refine box_event ?hg (N := 1) ?hd (cs := #[.int .i64 a0_0, .int .i64 a0_1, .int .i64 a0_2, .int .i64 a0_3]) (t := 32) ?hr ?_; (case hd => rfl); (case hg => rfl); (case hr => first | (go_simp; done) | (go_simp; rfl)); intro gb170 hg w13 hbox hb; have n0_ := Aside0.mk (below_step (by repeat (first | (with_reducible first | exact HB.out | apply below_alloc | apply pw_below_drewN | apply below_drew1) | exact HB.out)) hb); have n1_ := Aside0.mk (hbox); have n2_ := Aside0.mk ((by rw [hg]; exact (below_size (by repeat (first | (with_reducible first | exact HB.out | apply below_alloc | apply pw_below_drewN | apply below_drew1) | exact HB.out))) : w.heap.size ≤ gb170)); have n3_ := Aside0.mk ((by rw [hg]; exact (below_size (by repeat (first | (with_reducible first | exact HB.out | apply below_alloc | apply pw_below_drewN | apply below_drew1) | exact HB.out))) : w.heap.size ≤ gb170)); clear HB; have HB := n0_; have BK170 := n1_; have GW170 := n2_; have GE170 := n3_; clear n0_ n1_ n2_ n3_; clear hb hbox hg; have hcz14_0 : w13.cell? ⟨gb170, 0, none⟩ = some (.int .i64 a0_0) := (blk_cell BK170.out 0).trans rfl; have hcz14_1 : w13.cell? ⟨gb170, 1, none⟩ = some (.int .i64 a0_1) := (blk_cell BK170.out 1).trans rfl; have hcz14_2 : w13.cell? ⟨gb170, 2, none⟩ = some (.int .i64 a0_2) := (blk_cell BK170.out 2).trans rfl; have hcz14_3 : w13.cell? ⟨gb170, 3, none⟩ = some (.int .i64 a0_3) := (blk_cell BK170.out 3).trans rfl; have hfz14_0 := blk_frozen BK170.out 0; have hfz14_1 := blk_frozen BK170.out 1; have hfz14_2 := blk_frozen BK170.out 2; have hfz14_3 := blk_frozen BK170.out 3) | ((with_reducible refine gate_callee (f := 88) rfl ?_); refine goesL_ (some 7) rfl rfl Try.func88 (by kernel_rfl) rfl #[.int .i64 a0_0, .int .i64 0, .int .i64 a0_2] rfl (by (try simp only [List.map_toArray, List.map_cons, List.map_nil]); first | done | rfl | (simp only [List.length_drop, List.length_take]; rfl)) ?_; (with_reducible refine (impl_in.calls a0_0 0 a0_2 true _ A2.out).mono ?_); rintro e w' ⟨rfl, ⟨nd, rfl⟩⟩; refine ⟨_, rfl, ?_⟩) | (go_at_call 88; (with_reducible refine (impl_in.calls a0_2 0 255 false _ A4.out).mono ?_); rintro e w' ⟨rfl, ⟨nd, rfl⟩⟩))
      go_ret
      exact ⟨by first | rfl | (simp [errW_none, errW_some] <;> rfl) | (simp [*, errW_none, errW_some] <;> rfl), by repeat (first | (with_reducible first | exact HB.out | apply below_alloc | apply pw_below_drewN | apply below_drew1 | refine below_set ?_ GE170.out) | exact HB.out)⟩
  · replace c3 := Bool.eq_false_iff.mpr c3
    subst c3
    have H1 : (some false) = some r := by rw [if_neg (show ¬ (false = true) by decide)] at H; exact H
    clear H
    have H := H1
    clear H1
    obtain rfl := Option.some.inj H
    go_enter Try.func112, Try.ntmps112
    go_wp2_with (first | ((with_reducible refine gate_dst (N := 1) rfl ?_); refine box_event ?hg (N := 1) ?hd (cs := #[.int .i64 a0_0, .int .i64 a0_1, .int .i64 a0_2, .int .i64 a0_3]) (t := 32) ?hr ?_; (case hd => rfl); (case hg => rfl); (case hr => first | (go_simp; done) | (go_simp; rfl)); intro gb170 hg w15 hbox hb; have n0_ := Aside0.mk (below_step (by repeat (first | (with_reducible first | exact HB.out | apply below_alloc | apply pw_below_drewN | apply below_drew1) | exact HB.out)) hb); have n1_ := Aside0.mk (hbox); have n2_ := Aside0.mk ((by rw [hg]; exact (below_size (by repeat (first | (with_reducible first | exact HB.out | apply below_alloc | apply pw_below_drewN | apply below_drew1) | exact HB.out))) : w.heap.size ≤ gb170)); have n3_ := Aside0.mk ((by rw [hg]; exact (below_size (by repeat (first | (with_reducible first | exact HB.out | apply below_alloc | apply pw_below_drewN | apply below_drew1) | exact HB.out))) : w.heap.size ≤ gb170)); clear HB; have HB := n0_; have BK170 := n1_; have GW170 := n2_; have GE170 := n3_; clear n0_ n1_ n2_ n3_; clear hb hbox hg; have hcz16_0 : w15.cell? ⟨gb170, 0, none⟩ = some (.int .i64 a0_0) := (blk_cell BK170.out 0).trans rfl; have hcz16_1 : w15.cell? ⟨gb170, 1, none⟩ = some (.int .i64 a0_1) := (blk_cell BK170.out 1).trans rfl; have hcz16_2 : w15.cell? ⟨gb170, 2, none⟩ = some (.int .i64 a0_2) := (blk_cell BK170.out 2).trans rfl; have hcz16_3 : w15.cell? ⟨gb170, 3, none⟩ = some (.int .i64 a0_3) := (blk_cell BK170.out 3).trans rfl; have hfz16_0 := blk_frozen BK170.out 0; have hfz16_1 := blk_frozen BK170.out 1; have hfz16_2 := blk_frozen BK170.out 2; have hfz16_3 := blk_frozen BK170.out 3) | ((with_reducible refine gate_callee (f := 88) rfl ?_); refine goesL_ (some 7) rfl rfl Try.func88 (by kernel_rfl) rfl #[.int .i64 a0_0, .int .i64 0, .int .i64 a0_2] rfl (by (try simp only [List.map_toArray, List.map_cons, List.map_nil]); first | done | rfl | (simp only [List.length_drop, List.length_take]; rfl)) ?_; (with_reducible refine (impl_in.calls a0_0 0 a0_2 false _ A2.out).mono ?_); rintro e w' ⟨rfl, ⟨nd, rfl⟩⟩; refine ⟨_, rfl, ?_⟩))
    go_ret
    exact ⟨by first | rfl | (simp [errW_none, errW_some] <;> rfl) | (simp [*, errW_none, errW_some] <;> rfl), by repeat (first | (with_reducible first | exact HB.out | apply below_alloc | apply pw_below_drewN | apply below_drew1 | refine below_set ?_ GE170.out) | exact HB.out)⟩

end Go.Proofs.Ytngjaajcdbodeaa.All

namespace Go.Proofs.Ytngjaajcdbodeaa.All
open Go.RowKit Go.Proofs.YtngjaajcdbodeaaW.PrintWords Go.Proofs.YtngjaajcdbodeaaW.PrintLast Go.Proofs.YtngjaajcdbodeaaW.PrintMore
attribute [local go_sem] max2_int min2_int max_two min_two max_three min_three max_four min_four   -- for this text's walks alone
set_option linter.unusedVariables false
set_option linter.unusedSimpArgs false

/-! ### impl_NodeOk: function 90 -/
mutual
def impl_NodeOk.j0 : Nat → Bool → Bool → List (S103) → Option (Bool)
  | 0, _, _, _ => none
  | k + 1, x19, x613000, x613001 => if x19 = true then (some false) else (impl_NodeOk.l0 k x613001 (x613001.length : Int) 0 x613000 x613001)
def impl_NodeOk.l0 : Nat → List (S103) → Int → Int → Bool → List (S103) → Option (Bool)
  | 0, _, _, _, _, _ => none
  | k + 1, x21, x22, x23, x613000, x613001 => if x23 < x22 then (if 0 ≤ x23 then (if x23 < (x21.length : Int) then (if x613000 = true then ((impl_in.f ((rd_T103 x21 x23).f0) 1 999).bind fun t615 => (if t615 = true then ((impl_BoxOk.f ((rd_T103 x21 x23).f1.f0) ((rd_T103 x21 x23).f1.f1) ((rd_T103 x21 x23).f1.f2) ((rd_T103 x21 x23).f1.f3)).bind fun t616 => (if t616 = true then ((impl_EntryAt.f k x613001 ((rd_T103 x21 x23).f0)).bind fun t617 => (if t617 = x23 then (impl_NodeOk.l0 k x21 x22 (wrap64 (x23 + 1)) x613000 x613001) else (some false))) else (some false))) else (some false))) else ((impl_in.f ((rd_T103 x21 x23).f0) 0 47).bind fun t618 => (if t618 = true then ((impl_BoxOk.f ((rd_T103 x21 x23).f1.f0) ((rd_T103 x21 x23).f1.f1) ((rd_T103 x21 x23).f1.f2) ((rd_T103 x21 x23).f1.f3)).bind fun t619 => (if t619 = true then ((impl_EntryAt.f k x613001 ((rd_T103 x21 x23).f0)).bind fun t620 => (if t620 = x23 then (impl_NodeOk.l0 k x21 x22 (wrap64 (x23 + 1)) x613000 x613001) else (some false))) else (some false))) else (some false)))) else (none)) else (none)) else (some true)
end
def impl_NodeOk.f (k : Nat) (a0_0 : Bool) (l0_1 : List (S103)) : Option (Bool) := if (l0_1.length : Int) > 4 then (impl_NodeOk.j0 k true a0_0 l0_1) else (if a0_0 = true then (impl_NodeOk.j0 k false a0_0 l0_1) else (impl_NodeOk.j0 k ((l0_1.length : Int) == 0) a0_0 l0_1))
theorem impl_NodeOk.mono_l : ∀ k, (∀ y0 y1 y2, LeO (impl_NodeOk.j0 k y0 y1 y2) (impl_NodeOk.j0 (k + 1) y0 y1 y2)) ∧ (∀ y0 y1 y2 y3 y4, LeO (impl_NodeOk.l0 k y0 y1 y2 y3 y4) (impl_NodeOk.l0 (k + 1) y0 y1 y2 y3 y4))
  | 0 => ⟨fun _ _ _ r h => by simp [impl_NodeOk.j0] at h, fun _ _ _ _ _ r h => by simp [impl_NodeOk.l0] at h⟩
  | k + 1 => by
    obtain ⟨ih0, ih1⟩ := impl_NodeOk.mono_l k
    refine ⟨?_, ?_⟩
    · intro y0 y1 y2
      unfold impl_NodeOk.j0
      repeat' first
      | (with_reducible exact ih0 _ _ _)
      | (with_reducible exact ih1 _ _ _ _ _)
      | (with_reducible exact impl_EntryAt.mono _ _ _)
      | (with_reducible exact LeO.refl _)
      | (with_reducible exact LeO.none _)
      | (with_reducible refine LeO.ite ?_ ?_)
      | (with_reducible refine LeO.bind ?_ (fun _ => ?_))
      | exact ih0 _ _ _
      | exact ih1 _ _ _ _ _
      | exact impl_EntryAt.mono _ _ _
      | exact LeO.none _
      | refine LeO.ite ?_ ?_
      | refine LeO.bind ?_ (fun _ => ?_)
    · intro y0 y1 y2 y3 y4
      unfold impl_NodeOk.l0
      repeat' first
      | (with_reducible exact ih0 _ _ _)
      | (with_reducible exact ih1 _ _ _ _ _)
      | (with_reducible exact impl_EntryAt.mono _ _ _)
      | (with_reducible exact LeO.refl _)
      | (with_reducible exact LeO.none _)
      | (with_reducible refine LeO.ite ?_ ?_)
      | (with_reducible refine LeO.bind ?_ (fun _ => ?_))
      | exact ih0 _ _ _
      | exact ih1 _ _ _ _ _
      | exact impl_EntryAt.mono _ _ _
      | exact LeO.none _
      | refine LeO.ite ?_ ?_
      | refine LeO.bind ?_ (fun _ => ?_)
theorem impl_NodeOk.mono : ∀ a0 a1 k, LeO (impl_NodeOk.f k a0 a1) (impl_NodeOk.f (k + 1) a0 a1) := by
  intro a0 a1 k
  obtain ⟨ih0, ih1⟩ := impl_NodeOk.mono_l k
  unfold impl_NodeOk.f
  repeat' first
      | (with_reducible exact ih0 _ _ _)
      | (with_reducible exact ih1 _ _ _ _ _)
      | (with_reducible exact impl_EntryAt.mono _ _ _)
      | (with_reducible exact LeO.refl _)
      | (with_reducible exact LeO.none _)
      | (with_reducible refine LeO.ite ?_ ?_)
      | (with_reducible refine LeO.bind ?_ (fun _ => ?_))
      | exact ih0 _ _ _
      | exact ih1 _ _ _ _ _
      | exact impl_EntryAt.mono _ _ _
      | exact LeO.none _
      | refine LeO.ite ?_ ?_
      | refine LeO.bind ?_ (fun _ => ?_)
set_option maxHeartbeats 8000000 in
set_option maxRecDepth 100000 in
theorem impl_NodeOk.calls (k : Nat) (a0_0 : Bool) (A0_1 : Option Addr) (c0_1 : Nat) (l0_1 : List (S103)) (r : Bool) (w : World) (hr0_1 : Kd.C k103 w A0_1 l0_1.length l0_1) (hc0_1 : l0_1.length ≤ c0_1) (h : impl_NodeOk.f k a0_0 l0_1 = some r) :
    Calls Try.prog 90 #[.agg #[.bool a0_0, .slice A0_1 l0_1.length c0_1]] w fun e w' => e = .returned (.bool r) ∧ Below w.heap.size w w' := by
  have hu54 := Try.underlying54
  have hu103 := Try.underlying103
  have hu32 := Try.underlying32
  have HR0_1 := Aside0.mk hr0_1
  have HC0_1 := Aside0.mk hc0_1
  clear hr0_1 hc0_1
  have HB := Aside0.mk (Below.refl w.heap.size w)
  have H : (if (l0_1.length : Int) > 4 then (impl_NodeOk.j0 k true a0_0 l0_1) else (if a0_0 = true then (impl_NodeOk.j0 k false a0_0 l0_1) else (impl_NodeOk.j0 k ((l0_1.length : Int) == 0) a0_0 l0_1))) = some r := h
  clear h
  have HC2 := Aside0.mk H
  clear H
  go_enter Try.func90, Try.ntmps90
  go_upto_region 1 with (first | ((with_reducible refine gate_dst (N := 1) rfl ?_); (try (refine gate_guard (by rfl) ?_; dsimp only)); refine box_event ?hg (N := 1) ?hd (cs := #[.bool a0_0, .slice A0_1 l0_1.length c0_1]) (t := 54) ?hr ?_; (case hd => rfl); (case hg => rfl); (case hr => first | (go_simp; done) | (go_simp; rfl)); intro gb612 hg w3 hbox hb; have n0_ := Aside0.mk (below_step (by repeat (first | (with_reducible first | exact HB.out | apply below_alloc | apply pw_below_drewN | apply below_drew1) | exact HB.out)) hb); have n1_ := Aside0.mk (hbox); have n2_ := Aside0.mk ((by rw [hg]; exact (below_size (by repeat (first | (with_reducible first | exact HB.out | apply below_alloc | apply pw_below_drewN | apply below_drew1) | exact HB.out))) : w.heap.size ≤ gb612)); have n3_ := Aside0.mk ((by rw [hg]; exact (below_size (by repeat (first | (with_reducible first | exact HB.out | apply below_alloc | apply pw_below_drewN | apply below_drew1) | exact HB.out))) : w.heap.size ≤ gb612)); clear HB; have HB := n0_; have BK612 := n1_; have GW612 := n2_; have GE612 := n3_; clear n0_ n1_ n2_ n3_; clear hb hbox hg))
  (try simp only [Act.put, List.setIfInBounds_toArray, List.set_cons_zero, List.set_cons_succ])
  go_cut [19] (fun v19 wc => ∃ (kq : Nat) (x19_1 : Bool), v19 = .bool x19_1 ∧ Aside0 (impl_NodeOk.j0 kq x19_1 a0_0 l0_1 = some r) ∧ Aside0 (kq ≤ k) ∧ Aside0 (wc.heap[gb612]? = some (.cells #[.bool a0_0, (.slice A0_1 l0_1.length c0_1)] 54 (0, 0))) ∧ Aside0 (Below w.heap.size w wc))
  case first =>
    have H := HC2.out
    clear HC2
    by_cases c4 : (l0_1.length : Int) > 4
    · rw [if_pos c4] at H
      have c4b0 : decide (4 < (l0_1.length : Int)) = true := decide_eq_true c4
      have c4b1 : decide (4 < l0_1.length) = true := decide_eq_true (by omega)
      clear c4
      (first | rw [c4b0] | (simp only [i64_w, i32_w]; rw [c4b0]) | skip)
      have H' := Aside0.mk H
      clear H
      have hcz5_0 : w3.cell? ⟨gb612, 0, none⟩ = some (.bool a0_0) := (blk_cell BK612.out 0).trans rfl
      have hcz5_1 : w3.cell? ⟨gb612, 1, none⟩ = some (.slice A0_1 l0_1.length c0_1) := (blk_cell BK612.out 1).trans rfl
      have hfz5_0 := blk_frozen BK612.out 0
      have hfz5_1 := blk_frozen BK612.out 1
      go_wp2
      go_meet
      case rel => exact ⟨_, (true), (by first | rfl | (simp; done) | (simp [*]; done)), H', ⟨by first | omega | exact Nat.le_refl _⟩, ⟨by (with_reducible repeat (first | refine blk_drewN ?_ _ | refine blk_drew ?_ | refine blk_alloc ?_ _)); exact BK612.out⟩, ⟨by repeat (first | (with_reducible first | exact HB.out | apply below_alloc | apply pw_below_drewN | apply below_drew1 | refine below_set ?_ GE612.out) | exact HB.out)⟩⟩
    · rw [if_neg c4] at H
      have c4b0 : decide (4 < (l0_1.length : Int)) = false := decide_eq_false c4
      have c4b1 : decide (4 < l0_1.length) = false := decide_eq_false (by omega)
      clear c4
      (first | rw [c4b0] | (simp only [i64_w, i32_w]; rw [c4b0]) | skip)
      by_cases c6 : a0_0 = true
      · subst c6
        have H1 : (impl_NodeOk.j0 k false true l0_1) = some r := by rw [if_pos rfl] at H; exact H
        clear H
        have H := H1
        clear H1
        have H' := Aside0.mk H
        clear H
        have hcz7_0 : w3.cell? ⟨gb612, 0, none⟩ = some (.bool true) := (blk_cell BK612.out 0).trans rfl
        have hcz7_1 : w3.cell? ⟨gb612, 1, none⟩ = some (.slice A0_1 l0_1.length c0_1) := (blk_cell BK612.out 1).trans rfl
        have hfz7_0 := blk_frozen BK612.out 0
        have hfz7_1 := blk_frozen BK612.out 1
        go_wp2
        go_meet
        case rel => exact ⟨_, (false), (by first | rfl | (simp; done) | (simp [*]; done)), H', ⟨by first | omega | exact Nat.le_refl _⟩, ⟨by (with_reducible repeat (first | refine blk_drewN ?_ _ | refine blk_drew ?_ | refine blk_alloc ?_ _)); exact BK612.out⟩, ⟨by repeat (first | (with_reducible first | exact HB.out | apply below_alloc | apply pw_below_drewN | apply below_drew1 | refine below_set ?_ GE612.out) | exact HB.out)⟩⟩
      · replace c6 := Bool.eq_false_iff.mpr c6
        subst c6
        have H1 : (impl_NodeOk.j0 k ((l0_1.length : Int) == 0) false l0_1) = some r := by rw [if_neg (show ¬ (false = true) by decide)] at H; exact H
        clear H
        have H := H1
        clear H1
        have H' := Aside0.mk H
        clear H
        have hcz8_0 : w3.cell? ⟨gb612, 0, none⟩ = some (.bool false) := (blk_cell BK612.out 0).trans rfl
        have hcz8_1 : w3.cell? ⟨gb612, 1, none⟩ = some (.slice A0_1 l0_1.length c0_1) := (blk_cell BK612.out 1).trans rfl
        have hfz8_0 := blk_frozen BK612.out 0
        have hfz8_1 := blk_frozen BK612.out 1
        go_wp2
        go_meet
        case rel => exact ⟨_, (((l0_1.length : Int) == 0)), (by first | rfl | (simp; done) | (simp [*]; done)), H', ⟨by first | omega | exact Nat.le_refl _⟩, ⟨by (with_reducible repeat (first | refine blk_drewN ?_ _ | refine blk_drew ?_ | refine blk_alloc ?_ _)); exact BK612.out⟩, ⟨by repeat (first | (with_reducible first | exact HB.out | apply below_alloc | apply pw_below_drewN | apply below_drew1 | refine below_set ?_ GE612.out) | exact HB.out)⟩⟩
  case rest =>
    clear HC2
    try clear p2
    try clear c4
    try clear c4b0
    try clear c4b1
    try clear c6
    try clear hcz5_0
    try clear hcz5_1
    try clear hcz7_0
    try clear hcz7_1
    try clear hcz8_0
    try clear hcz8_1
    try clear hfz5_0
    try clear hfz5_1
    try clear hfz7_0
    try clear hfz7_1
    try clear hfz8_0
    try clear hfz8_1
    obtain ⟨kq, x19_1, rfl, HA, HJ1, BK612, HB⟩ := hcut
    cases kq with
    | zero => exact absurd HA.out (by simp [impl_NodeOk.j0])
    | succ kj1 =>
      have H := HA.out
      clear HA
      simp only [impl_NodeOk.j0] at H
      by_cases c9 : x19_1 = true
      · subst c9
        have H1 : (some false) = some r := by rw [if_pos rfl] at H; exact H
        clear H
        have H := H1
        clear H1
        obtain rfl := Option.some.inj H
        go_wp2
        go_ret
        exact ⟨by first | rfl | (simp [errW_none, errW_some] <;> rfl) | (simp [*, errW_none, errW_some] <;> rfl), by repeat (first | (with_reducible first | exact HB.out | apply below_alloc | apply pw_below_drewN | apply below_drew1 | refine below_set ?_ GE612.out) | exact HB.out)⟩
      · replace c9 := Bool.eq_false_iff.mpr c9
        subst c9
        have H1 : (impl_NodeOk.l0 kj1 l0_1 (l0_1.length : Int) 0 a0_0 l0_1) = some r := by rw [if_neg (show ¬ (false = true) by decide)] at H; exact H
        clear H
        have H := H1
        clear H1
        have H' := Aside0.mk H
        clear H
        have hcz10_0 : wc.cell? ⟨gb612, 0, none⟩ = some (.bool a0_0) := (blk_cell BK612.out 0).trans rfl
        have hcz10_1 : wc.cell? ⟨gb612, 1, none⟩ = some (.slice A0_1 l0_1.length c0_1) := (blk_cell BK612.out 1).trans rfl
        have hfz10_0 := blk_frozen BK612.out 0
        have hfz10_1 := blk_frozen BK612.out 1
        go_wp2
        go_loopg [23] kj1 (fun kq v23 w' => ∃ (x23_2 : Int), v23 = .int .i64 x23_2 ∧ Aside0 (impl_NodeOk.l0 kq l0_1 (l0_1.length : Int) x23_2 a0_0 l0_1 = some r) ∧ Aside0 (kq ≤ kj1) ∧ Aside0 (w'.heap[gb612]? = some (.cells #[.bool a0_0, (.slice A0_1 l0_1.length c0_1)] 54 (0, 0))) ∧ Aside0 (Below w.heap.size w w'))
        case atStart => exact ⟨(0), (by first | rfl | (simp; done) | (simp [*]; done)), H', ⟨Nat.le_refl _⟩, ⟨by (with_reducible repeat (first | refine blk_drewN ?_ _ | refine blk_drew ?_ | refine blk_alloc ?_ _)); exact BK612.out⟩, ⟨by repeat (first | (with_reducible first | exact HB.out | apply below_alloc | apply pw_below_drewN | apply below_drew1 | refine below_set ?_ GE612.out) | exact HB.out)⟩⟩
        case round =>
          clear H'
          try clear p2
          try clear c4
          try clear c4b0
          try clear c4b1
          try clear c6
          try clear c9
          try clear hcz10_0
          try clear hcz10_1
          try clear hcz5_0
          try clear hcz5_1
          try clear hcz7_0
          try clear hcz7_1
          try clear hcz8_0
          try clear hcz8_1
          try clear hfz10_0
          try clear hfz10_1
          try clear hfz5_0
          try clear hfz5_1
          try clear hfz7_0
          try clear hfz7_1
          try clear hfz8_0
          try clear hfz8_1
          try clear p2
          obtain ⟨x23_2, rfl, HA, HK2, BK612, HB⟩ := hrel
          cases gk with
          | zero => exact absurd HA.out (by simp [impl_NodeOk.l0])
          | succ k2 =>
            have H := HA.out
            clear HA
            simp only [impl_NodeOk.l0] at H
            by_cases c11 : x23_2 < (l0_1.length : Int)
            · rw [if_pos c11] at H
              have c11b0 : decide (x23_2 < (l0_1.length : Int)) = true := decide_eq_true c11
              clear c11
              by_cases c12 : 0 ≤ x23_2
              · rw [if_pos c12] at H
                have c12b0 : decide (0 ≤ x23_2) = true := decide_eq_true c12
                clear c12
                by_cases c13 : x23_2 < (l0_1.length : Int)
                · rw [if_pos c13] at H
                  have c13b0 : decide (x23_2 < (l0_1.length : Int)) = true := decide_eq_true c13
                  clear c13
                  by_cases c14 : a0_0 = true
                  · subst c14
                    have H1 : ((impl_in.f ((rd_T103 l0_1 x23_2).f0) 1 999).bind fun t615 => (if t615 = true then ((impl_BoxOk.f ((rd_T103 l0_1 x23_2).f1.f0) ((rd_T103 l0_1 x23_2).f1.f1) ((rd_T103 l0_1 x23_2).f1.f2) ((rd_T103 l0_1 x23_2).f1.f3)).bind fun t616 => (if t616 = true then ((impl_EntryAt.f k2 l0_1 ((rd_T103 l0_1 x23_2).f0)).bind fun t617 => (if t617 = x23_2 then (impl_NodeOk.l0 k2 l0_1 (l0_1.length : Int) (wrap64 (x23_2 + 1)) true l0_1) else (some false))) else (some false))) else (some false))) = some r := by rw [if_pos rfl] at H; exact H
                    clear H
                    have H := H1
                    clear H1
                    replace H := Option.bind_eq_some_iff.mp H
                    obtain ⟨t615, A150, H⟩ := H
                    replace H : (if t615 = true then ((impl_BoxOk.f ((rd_T103 l0_1 x23_2).f1.f0) ((rd_T103 l0_1 x23_2).f1.f1) ((rd_T103 l0_1 x23_2).f1.f2) ((rd_T103 l0_1 x23_2).f1.f3)).bind fun t616 => (if t616 = true then ((impl_EntryAt.f k2 l0_1 ((rd_T103 l0_1 x23_2).f0)).bind fun t617 => (if t617 = x23_2 then (impl_NodeOk.l0 k2 l0_1 (l0_1.length : Int) (wrap64 (x23_2 + 1)) true l0_1) else (some false))) else (some false))) else (some false)) = some r := H
                    have A15 := Aside0.mk A150
                    clear A150
                    by_cases c16 : t615 = true
                    · subst c16
                      have H1 : ((impl_BoxOk.f ((rd_T103 l0_1 x23_2).f1.f0) ((rd_T103 l0_1 x23_2).f1.f1) ((rd_T103 l0_1 x23_2).f1.f2) ((rd_T103 l0_1 x23_2).f1.f3)).bind fun t616 => (if t616 = true then ((impl_EntryAt.f k2 l0_1 ((rd_T103 l0_1 x23_2).f0)).bind fun t617 => (if t617 = x23_2 then (impl_NodeOk.l0 k2 l0_1 (l0_1.length : Int) (wrap64 (x23_2 + 1)) true l0_1) else (some false))) else (some false))) = some r := by rw [if_pos rfl] at H; exact H
                      clear H
                      have H := H1
                      clear H1
                      replace H := Option.bind_eq_some_iff.mp H
                      obtain ⟨t616, A170, H⟩ := H
                      replace H : (if t616 = true then ((impl_EntryAt.f k2 l0_1 ((rd_T103 l0_1 x23_2).f0)).bind fun t617 => (if t617 = x23_2 then (impl_NodeOk.l0 k2 l0_1 (l0_1.length : Int) (wrap64 (x23_2 + 1)) true l0_1) else (some false))) else (some false)) = some r := H
                      have A17 := Aside0.mk A170
                      clear A170
                      by_cases c18 : t616 = true
                      · subst c18
                        have H1 : ((impl_EntryAt.f k2 l0_1 ((rd_T103 l0_1 x23_2).f0)).bind fun t617 => (if t617 = x23_2 then (impl_NodeOk.l0 k2 l0_1 (l0_1.length : Int) (wrap64 (x23_2 + 1)) true l0_1) else (some false))) = some r := by rw [if_pos rfl] at H; exact H
                        clear H
                        have H := H1
                        clear H1
                        replace H := Option.bind_eq_some_iff.mp H
                        obtain ⟨t617, A190, H⟩ := H
                        replace H : (if t617 = x23_2 then (impl_NodeOk.l0 k2 l0_1 (l0_1.length : Int) (wrap64 (x23_2 + 1)) true l0_1) else (some false)) = some r := H
                        have A19 := Aside0.mk A190
                        clear A190
                        by_cases c20 : t617 = x23_2
                        · rw [if_pos c20] at H
                          have c20b0 : (t617 == x23_2) = true := beq_iff_eq.mpr c20
                          have c20b1 : (t617 != x23_2) = false := bne_eq_false_iff_eq.mpr c20
                          clear c20
                          have H' := Aside0.mk H
                          clear H
                          have p613 : 0 ≤ (x23_2 : Int) := of_decide_eq_true (by first | (with_reducible assumption) | assumption)
                          have q613 : x23_2 < (l0_1.length : Int) := of_decide_eq_true (by first | (with_reducible assumption) | assumption)
                          obtain ⟨ad613, e613, hx613_0, hx613_1, hx613_2, hx613_3, hx613_4⟩ := at_T103 HR0_1.out x23_2 p613 q613
                          cases e613
                          replace hx613_0 := (HB.out.cell (World.block_lt_of_cell? w _ hx613_0)).trans hx613_0
                          replace hx613_1 := (HB.out.cell (World.block_lt_of_cell? w _ hx613_1)).trans hx613_1
                          replace hx613_2 := (HB.out.cell (World.block_lt_of_cell? w _ hx613_2)).trans hx613_2
                          replace hx613_3 := (HB.out.cell (World.block_lt_of_cell? w _ hx613_3)).trans hx613_3
                          replace hx613_4 := (HB.out.cell (World.block_lt_of_cell? w _ hx613_4)).trans hx613_4
                          replace p613 := eq_true p613
                          replace q613 := eq_true q613
                          go_wp2_with (first | ((with_reducible refine gate_dst (N := 4) rfl ?_); (try (refine gate_guard (by rfl) ?_; dsimp only)); refine box_event ?hg (N := 4) ?hd (cs := #[.int .i64 0, .int .i64 0, .int .i64 0, .int .i64 0, .int .i64 0]) (t := 103) ?hr ?_; (case hd => rfl); (case hg => rfl); (case hr => first | (go_simp; done) | (go_simp; rfl)); intro gb614 hg w21 hbox hb; have n0_ := Aside0.mk (blk_below (g := gb612) (o := .cells #[.bool true, .slice (some ad613) l0_1.length c0_1] 54 (0, 0)) (by (with_reducible repeat (first | refine blk_drewN ?_ _ | refine blk_drew ?_ | refine blk_alloc ?_ _)); exact BK612.out) hb); have n1_ := Aside0.mk (below_step (by repeat (first | (with_reducible first | exact HB.out | apply below_alloc | apply pw_below_drewN | apply below_drew1 | refine below_set ?_ GE612.out) | exact HB.out)) hb); have n2_ := Aside0.mk (hbox); have n3_ := Aside0.mk ((by rw [hg]; exact (below_size (by repeat (first | (with_reducible first | exact HB.out | apply below_alloc | apply pw_below_drewN | apply below_drew1 | refine below_set ?_ GE612.out) | exact HB.out))) : w.heap.size ≤ gb614)); have n4_ := Aside0.mk ((by rw [hg]; exact (below_size (by repeat (first | (with_reducible first | exact HB.out | apply below_alloc | apply pw_below_drewN | apply below_drew1 | refine below_set ?_ GE612.out) | exact HB.out))) : w.heap.size ≤ gb614)); have n5_ := Aside0.mk ((by rw [hg]; exact Nat.ne_of_lt (blk_lt (g := gb612) (o := .cells #[.bool true, .slice (some ad613) l0_1.length c0_1] 54 (0, 0)) (by (with_reducible repeat (first | refine blk_drewN ?_ _ | refine blk_drew ?_ | refine blk_alloc ?_ _)); exact BK612.out)) : gb612 ≠ gb614)); have n6_ := Aside0.mk ((by rw [hg]; exact Nat.ne_of_gt (blk_lt (g := gb612) (o := .cells #[.bool true, .slice (some ad613) l0_1.length c0_1] 54 (0, 0)) (by (with_reducible repeat (first | refine blk_drewN ?_ _ | refine blk_drew ?_ | refine blk_alloc ?_ _)); exact BK612.out)) : gb614 ≠ gb612)); clear BK612; clear HB; have BK612 := n0_; have HB := n1_; have BK614 := n2_; have GW614 := n3_; have GE614 := n4_; have NB612_614 := n5_; have NB614_612 := n6_; clear n0_ n1_ n2_ n3_ n4_ n5_ n6_; clear hb hbox hg; have hnb22 := NB614_612.out; have hnc22 := NB612_614.out; have hcz23_0 : w21.cell? ⟨gb614, 0, none⟩ = some (.int .i64 0) := (blk_cell BK614.out 0).trans rfl; have hcz23_1 : w21.cell? ⟨gb614, 1, none⟩ = some (.int .i64 0) := (blk_cell BK614.out 1).trans rfl; have hcz23_2 : w21.cell? ⟨gb614, 2, none⟩ = some (.int .i64 0) := (blk_cell BK614.out 2).trans rfl; have hcz23_3 : w21.cell? ⟨gb614, 3, none⟩ = some (.int .i64 0) := (blk_cell BK614.out 3).trans rfl; have hcz23_4 : w21.cell? ⟨gb614, 4, none⟩ = some (.int .i64 0) := (blk_cell BK614.out 4).trans rfl; have hfz23_0 := blk_frozen BK614.out 0; have hfz23_1 := blk_frozen BK614.out 1; have hfz23_2 := blk_frozen BK614.out 2; have hfz23_3 := blk_frozen BK614.out 3; have hfz23_4 := blk_frozen BK614.out 4; have hcz24_0 : w21.cell? ⟨gb612, 0, none⟩ = some (.bool true) := (blk_cell BK612.out 0).trans rfl; have hcz24_1 : w21.cell? ⟨gb612, 1, none⟩ = some (.slice (some ad613) l0_1.length c0_1) := (blk_cell BK612.out 1).trans rfl; have hfz24_0 := blk_frozen BK612.out 0; have hfz24_1 := blk_frozen BK612.out 1) | (go_at_call 88; (with_reducible refine (impl_in.calls ((rd_T103 l0_1 x23_2).f0) 1 999 true _ A15.out).mono ?_); rintro e w' ⟨rfl, ⟨nd, rfl⟩⟩) | (go_at_call 112; (with_reducible refine (impl_BoxOk.calls ((rd_T103 l0_1 x23_2).f1.f0) ((rd_T103 l0_1 x23_2).f1.f1) ((rd_T103 l0_1 x23_2).f1.f2) ((rd_T103 l0_1 x23_2).f1.f3) true _ A17.out).mono ?_); rintro e w25 ⟨rfl, hb⟩; have n0_ := Aside0.mk (blk_below (g := gb612) (o := .cells #[.bool true, .slice (some ad613) l0_1.length c0_1] 54 (0, 0)) (by (with_reducible repeat (first | refine blk_drewN ?_ _ | refine blk_drew ?_ | refine blk_alloc ?_ _)); refine blk_far ?_ NB612_614.out _; (with_reducible repeat (first | refine blk_drewN ?_ _ | refine blk_drew ?_ | refine blk_alloc ?_ _)); refine blk_far ?_ NB612_614.out _; (with_reducible repeat (first | refine blk_drewN ?_ _ | refine blk_drew ?_ | refine blk_alloc ?_ _)); refine blk_far ?_ NB612_614.out _; (with_reducible repeat (first | refine blk_drewN ?_ _ | refine blk_drew ?_ | refine blk_alloc ?_ _)); refine blk_far ?_ NB612_614.out _; (with_reducible repeat (first | refine blk_drewN ?_ _ | refine blk_drew ?_ | refine blk_alloc ?_ _)); refine blk_far ?_ NB612_614.out _; (with_reducible repeat (first | refine blk_drewN ?_ _ | refine blk_drew ?_ | refine blk_alloc ?_ _)); exact BK612.out) hb); have n1_ := Aside0.mk (blk_below (g := gb614) (o := .cells #[.int .i64 ((rd_T103 l0_1 x23_2).f0), .int .i64 ((rd_T103 l0_1 x23_2).f1.f0), .int .i64 ((rd_T103 l0_1 x23_2).f1.f1), .int .i64 ((rd_T103 l0_1 x23_2).f1.f2), .int .i64 ((rd_T103 l0_1 x23_2).f1.f3)] 103 (0, 0)) (by (with_reducible repeat (first | refine blk_drewN ?_ _ | refine blk_drew ?_ | refine blk_alloc ?_ _)); refine blk_put (cs := #[.int .i64 ((rd_T103 l0_1 x23_2).f0), .int .i64 ((rd_T103 l0_1 x23_2).f1.f0), .int .i64 ((rd_T103 l0_1 x23_2).f1.f1), .int .i64 ((rd_T103 l0_1 x23_2).f1.f2), .int .i64 0]) ?_ 4 _ rfl; (with_reducible repeat (first | refine blk_drewN ?_ _ | refine blk_drew ?_ | refine blk_alloc ?_ _)); refine blk_put (cs := #[.int .i64 ((rd_T103 l0_1 x23_2).f0), .int .i64 ((rd_T103 l0_1 x23_2).f1.f0), .int .i64 ((rd_T103 l0_1 x23_2).f1.f1), .int .i64 0, .int .i64 0]) ?_ 3 _ rfl; (with_reducible repeat (first | refine blk_drewN ?_ _ | refine blk_drew ?_ | refine blk_alloc ?_ _)); refine blk_put (cs := #[.int .i64 ((rd_T103 l0_1 x23_2).f0), .int .i64 ((rd_T103 l0_1 x23_2).f1.f0), .int .i64 0, .int .i64 0, .int .i64 0]) ?_ 2 _ rfl; (with_reducible repeat (first | refine blk_drewN ?_ _ | refine blk_drew ?_ | refine blk_alloc ?_ _)); refine blk_put (cs := #[.int .i64 ((rd_T103 l0_1 x23_2).f0), .int .i64 0, .int .i64 0, .int .i64 0, .int .i64 0]) ?_ 1 _ rfl; (with_reducible repeat (first | refine blk_drewN ?_ _ | refine blk_drew ?_ | refine blk_alloc ?_ _)); refine blk_put (cs := #[.int .i64 0, .int .i64 0, .int .i64 0, .int .i64 0, .int .i64 0]) ?_ 0 _ rfl; (with_reducible repeat (first | refine blk_drewN ?_ _ | refine blk_drew ?_ | refine blk_alloc ?_ _)); exact BK614.out) hb); have n2_ := Aside0.mk (below_step (by repeat (first | (with_reducible first | exact HB.out | apply below_alloc | apply pw_below_drewN | apply below_drew1 | refine below_set ?_ GE612.out | refine below_set ?_ GE614.out) | exact HB.out)) hb); clear BK612; clear BK614; clear HB; have BK612 := n0_; have BK614 := n1_; have HB := n2_; clear n0_ n1_ n2_; (try clear hb); (try clear hb2); (try clear hk); (try clear hi); have hcz26_0 : w25.cell? ⟨gb612, 0, none⟩ = some (.bool true) := (blk_cell BK612.out 0).trans rfl; have hcz26_1 : w25.cell? ⟨gb612, 1, none⟩ = some (.slice (some ad613) l0_1.length c0_1) := (blk_cell BK612.out 1).trans rfl; have hfz26_0 := blk_frozen BK612.out 0; have hfz26_1 := blk_frozen BK612.out 1; have hcz27_0 : w25.cell? ⟨gb614, 0, none⟩ = some (.int .i64 ((rd_T103 l0_1 x23_2).f0)) := (blk_cell BK614.out 0).trans rfl; have hcz27_1 : w25.cell? ⟨gb614, 1, none⟩ = some (.int .i64 ((rd_T103 l0_1 x23_2).f1.f0)) := (blk_cell BK614.out 1).trans rfl; have hcz27_2 : w25.cell? ⟨gb614, 2, none⟩ = some (.int .i64 ((rd_T103 l0_1 x23_2).f1.f1)) := (blk_cell BK614.out 2).trans rfl; have hcz27_3 : w25.cell? ⟨gb614, 3, none⟩ = some (.int .i64 ((rd_T103 l0_1 x23_2).f1.f2)) := (blk_cell BK614.out 3).trans rfl; have hcz27_4 : w25.cell? ⟨gb614, 4, none⟩ = some (.int .i64 ((rd_T103 l0_1 x23_2).f1.f3)) := (blk_cell BK614.out 4).trans rfl; have hfz27_0 := blk_frozen BK614.out 0; have hfz27_1 := blk_frozen BK614.out 1; have hfz27_2 := blk_frozen BK614.out 2; have hfz27_3 := blk_frozen BK614.out 3; have hfz27_4 := blk_frozen BK614.out 4) | (go_at_call 103; (with_reducible refine (impl_EntryAt.calls k2 _ _ l0_1 ((rd_T103 l0_1 x23_2).f0) t617 _ ?side1 ?side2 A19.out).mono ?_); (case side1 => repeat (first | exact (Kd.C_below HR0_1.out HB.out) | (with_reducible refine Kd.C_alloc ?_ _) | (with_reducible refine Kd.C_drewN ?_ _) | (with_reducible refine Kd.C_drew ?_))); (case side2 => exact HC0_1.out); rintro e w28 ⟨rfl, hb⟩; have n0_ := Aside0.mk (blk_below (g := gb612) (o := .cells #[.bool true, .slice (some ad613) l0_1.length c0_1] 54 (0, 0)) (by (with_reducible repeat (first | refine blk_drewN ?_ _ | refine blk_drew ?_ | refine blk_alloc ?_ _)); exact BK612.out) hb); have n1_ := Aside0.mk (blk_below (g := gb614) (o := .cells #[.int .i64 ((rd_T103 l0_1 x23_2).f0), .int .i64 ((rd_T103 l0_1 x23_2).f1.f0), .int .i64 ((rd_T103 l0_1 x23_2).f1.f1), .int .i64 ((rd_T103 l0_1 x23_2).f1.f2), .int .i64 ((rd_T103 l0_1 x23_2).f1.f3)] 103 (0, 0)) (by (with_reducible repeat (first | refine blk_drewN ?_ _ | refine blk_drew ?_ | refine blk_alloc ?_ _)); exact BK614.out) hb); have n2_ := Aside0.mk (below_step (by repeat (first | (with_reducible first | exact HB.out | apply below_alloc | apply pw_below_drewN | apply below_drew1 | refine below_set ?_ GE612.out | refine below_set ?_ GE614.out) | exact HB.out)) hb); clear BK612; clear BK614; clear HB; have BK612 := n0_; have BK614 := n1_; have HB := n2_; clear n0_ n1_ n2_; (try clear hb); (try clear hb2); (try clear hk); (try clear hi)))
                          go_roundg k2
                          case measure => have := HJ1.out; have := HK2.out; omega
                          case rel => exact ⟨(wrap64 (x23_2 + 1)), (by first | rfl | (simp; done) | (simp [*]; done)), H', ⟨by have := HJ1.out; have := HK2.out; omega⟩, ⟨by (with_reducible repeat (first | refine blk_drewN ?_ _ | refine blk_drew ?_ | refine blk_alloc ?_ _)); exact BK612.out⟩, ⟨by repeat (first | (with_reducible first | exact HB.out | apply below_alloc | apply pw_below_drewN | apply below_drew1 | refine below_set ?_ GE612.out | refine below_set ?_ GE614.out) | exact HB.out)⟩⟩
                        · rw [if_neg c20] at H
                          have c20b0 : (t617 == x23_2) = false := beq_eq_false_iff_ne.mpr c20
                          have c20b1 : (t617 != x23_2) = true := bne_iff_ne.mpr c20
                          obtain rfl := Option.some.inj H
                          have p613 : 0 ≤ (x23_2 : Int) := of_decide_eq_true (by first | (with_reducible assumption) | assumption)
                          have q613 : x23_2 < (l0_1.length : Int) := of_decide_eq_true (by first | (with_reducible assumption) | assumption)
                          obtain ⟨ad613, e613, hx613_0, hx613_1, hx613_2, hx613_3, hx613_4⟩ := at_T103 HR0_1.out x23_2 p613 q613
                          cases e613
                          replace hx613_0 := (HB.out.cell (World.block_lt_of_cell? w _ hx613_0)).trans hx613_0
                          replace hx613_1 := (HB.out.cell (World.block_lt_of_cell? w _ hx613_1)).trans hx613_1
                          replace hx613_2 := (HB.out.cell (World.block_lt_of_cell? w _ hx613_2)).trans hx613_2
                          replace hx613_3 := (HB.out.cell (World.block_lt_of_cell? w _ hx613_3)).trans hx613_3
                          replace hx613_4 := (HB.out.cell (World.block_lt_of_cell? w _ hx613_4)).trans hx613_4
                          replace p613 := eq_true p613
                          replace q613 := eq_true q613
                          go_wp2_with (first | ((with_reducible refine gate_dst (N := 4) rfl ?_); (try (refine gate_guard (by rfl) ?_; dsimp only)); refine box_event ?hg (N := 4) ?hd (cs := #[.int .i64 0, .int .i64 0, .int .i64 0, .int .i64 0, .int .i64 0]) (t := 103) ?hr ?_; (case hd => rfl); (case hg => rfl); (case hr => first | (go_simp; done) | (go_simp; rfl)); intro gb614 hg w29 hbox hb; have n0_ := Aside0.mk (blk_below (g := gb612) (o := .cells #[.bool true, .slice (some ad613) l0_1.length c0_1] 54 (0, 0)) (by (with_reducible repeat (first | refine blk_drewN ?_ _ | refine blk_drew ?_ | refine blk_alloc ?_ _)); exact BK612.out) hb); have n1_ := Aside0.mk (below_step (by repeat (first | (with_reducible first | exact HB.out | apply below_alloc | apply pw_below_drewN | apply below_drew1 | refine below_set ?_ GE612.out) | exact HB.out)) hb); have n2_ := Aside0.mk (hbox); have n3_ := Aside0.mk ((by rw [hg]; exact (below_size (by repeat (first | (with_reducible first | exact HB.out | apply below_alloc | apply pw_below_drewN | apply below_drew1 | refine below_set ?_ GE612.out) | exact HB.out))) : w.heap.size ≤ gb614)); have n4_ := Aside0.mk ((by rw [hg]; exact (below_size (by repeat (first | (with_reducible first | exact HB.out | apply below_alloc | apply pw_below_drewN | apply below_drew1 | refine below_set ?_ GE612.out) | exact HB.out))) : w.heap.size ≤ gb614)); have n5_ := Aside0.mk ((by rw [hg]; exact Nat.ne_of_lt (blk_lt (g := gb612) (o := .cells #[.bool true, .slice (some ad613) l0_1.length c0_1] 54 (0, 0)) (by (with_reducible repeat (first | refine blk_drewN ?_ _ | refine blk_drew ?_ | refine blk_alloc ?_ _)); exact BK612.out)) : gb612 ≠ gb614)); have n6_ := Aside0.mk ((by rw [hg]; exact Nat.ne_of_gt (blk_lt (g := gb612) (o := .cells #[.bool true, .slice (some ad613) l0_1.length c0_1] 54 (0, 0)) (by (with_reducible repeat (first | refine blk_drewN ?_ _ | refine blk_drew ?_ | refine blk_alloc ?_ _)); exact BK612.out)) : gb614 ≠ gb612)); clear BK612; clear HB; have BK612 := n0_; have HB := n1_; have BK614 := n2_; have GW614 := n3_; have GE614 := n4_; have NB612_614 := n5_; have NB614_612 := n6_; clear n0_ n1_ n2_ n3_ n4_ n5_ n6_; clear hb hbox hg; have hnb30 := NB614_612.out; have hnc30 := NB612_614.out; have hcz31_0 : w29.cell? ⟨gb614, 0, none⟩ = some (.int .i64 0) := (blk_cell BK614.out 0).trans rfl; have hcz31_1 : w29.cell? ⟨gb614, 1, none⟩ = some (.int .i64 0) := (blk_cell BK614.out 1).trans rfl; have hcz31_2 : w29.cell? ⟨gb614, 2, none⟩ = some (.int .i64 0) := (blk_cell BK614.out 2).trans rfl; have hcz31_3 : w29.cell? ⟨gb614, 3, none⟩ = some (.int .i64 0) := (blk_cell BK614.out 3).trans rfl; have hcz31_4 : w29.cell? ⟨gb614, 4, none⟩ = some (.int .i64 0) := (blk_cell BK614.out 4).trans rfl; have hfz31_0 := blk_frozen BK614.out 0; have hfz31_1 := blk_frozen BK614.out 1; have hfz31_2 := blk_frozen BK614.out 2; have hfz31_3 := blk_frozen BK614.out 3; have hfz31_4 := blk_frozen BK614.out 4; have hcz32_0 : w29.cell? ⟨gb612, 0, none⟩ = some (.bool true) := (blk_cell BK612.out 0).trans rfl; have hcz32_1 : w29.cell? ⟨gb612, 1, none⟩ = some (.slice (some ad613) l0_1.length c0_1) := (blk_cell BK612.out 1).trans rfl; have hfz32_0 := blk_frozen BK612.out 0; have hfz32_1 := blk_frozen BK612.out 1) | (go_at_call 88; (with_reducible refine (impl_in.calls ((rd_T103 l0_1 x23_2).f0) 1 999 true _ A15.out).mono ?_); rintro e w' ⟨rfl, ⟨nd, rfl⟩⟩) | (go_at_call 112; (with_reducible refine (impl_BoxOk.calls ((rd_T103 l0_1 x23_2).f1.f0) ((rd_T103 l0_1 x23_2).f1.f1) ((rd_T103 l0_1 x23_2).f1.f2) ((rd_T103 l0_1 x23_2).f1.f3) true _ A17.out).mono ?_); rintro e w33 ⟨rfl, hb⟩; have n0_ := Aside0.mk (blk_below (g := gb612) (o := .cells #[.bool true, .slice (some ad613) l0_1.length c0_1] 54 (0, 0)) (by (with_reducible repeat (first | refine blk_drewN ?_ _ | refine blk_drew ?_ | refine blk_alloc ?_ _)); refine blk_far ?_ NB612_614.out _; (with_reducible repeat (first | refine blk_drewN ?_ _ | refine blk_drew ?_ | refine blk_alloc ?_ _)); refine blk_far ?_ NB612_614.out _; (with_reducible repeat (first | refine blk_drewN ?_ _ | refine blk_drew ?_ | refine blk_alloc ?_ _)); refine blk_far ?_ NB612_614.out _; (with_reducible repeat (first | refine blk_drewN ?_ _ | refine blk_drew ?_ | refine blk_alloc ?_ _)); refine blk_far ?_ NB612_614.out _; (with_reducible repeat (first | refine blk_drewN ?_ _ | refine blk_drew ?_ | refine blk_alloc ?_ _)); refine blk_far ?_ NB612_614.out _; (with_reducible repeat (first | refine blk_drewN ?_ _ | refine blk_drew ?_ | refine blk_alloc ?_ _)); exact BK612.out) hb); have n1_ := Aside0.mk (blk_below (g := gb614) (o := .cells #[.int .i64 ((rd_T103 l0_1 x23_2).f0), .int .i64 ((rd_T103 l0_1 x23_2).f1.f0), .int .i64 ((rd_T103 l0_1 x23_2).f1.f1), .int .i64 ((rd_T103 l0_1 x23_2).f1.f2), .int .i64 ((rd_T103 l0_1 x23_2).f1.f3)] 103 (0, 0)) (by (with_reducible repeat (first | refine blk_drewN ?_ _ | refine blk_drew ?_ | refine blk_alloc ?_ _)); refine blk_put (cs := #[.int .i64 ((rd_T103 l0_1 x23_2).f0), .int .i64 ((rd_T103 l0_1 x23_2).f1.f0), .int .i64 ((rd_T103 l0_1 x23_2).f1.f1), .int .i64 ((rd_T103 l0_1 x23_2).f1.f2), .int .i64 0]) ?_ 4 _ rfl; (with_reducible repeat (first | refine blk_drewN ?_ _ | refine blk_drew ?_ | refine blk_alloc ?_ _)); refine blk_put (cs := #[.int .i64 ((rd_T103 l0_1 x23_2).f0), .int .i64 ((rd_T103 l0_1 x23_2).f1.f0), .int .i64 ((rd_T103 l0_1 x23_2).f1.f1), .int .i64 0, .int .i64 0]) ?_ 3 _ rfl; (with_reducible repeat (first | refine blk_drewN ?_ _ | refine blk_drew ?_ | refine blk_alloc ?_ _)); refine blk_put (cs := #[.int .i64 ((rd_T103 l0_1 x23_2).f0), .int .i64 ((rd_T103 l0_1 x23_2).f1.f0), .int .i64 0, .int .i64 0, .int .i64 0]) ?_ 2 _ rfl; (with_reducible repeat (first | refine blk_drewN ?_ _ | refine blk_drew ?_ | refine blk_alloc ?_ _)); refine blk_put (cs := #[.int .i64 ((rd_T103 l0_1 x23_2).f0), .int .i64 0, .int .i64 0, .int .i64 0, .int .i64 0]) ?_ 1 _ rfl; (with_reducible repeat (first | refine blk_drewN ?_ _ | refine blk_drew ?_ | refine blk_alloc ?_ _)); refine blk_put (cs := #[.int .i64 0, .int .i64 0, .int .i64 0, .int .i64 0, .int .i64 0]) ?_ 0 _ rfl; (with_reducible repeat (first | refine blk_drewN ?_ _ | refine blk_drew ?_ | refine blk_alloc ?_ _)); exact BK614.out) hb); have n2_ := Aside0.mk (below_step (by repeat (first | (with_reducible first | exact HB.out | apply below_alloc | apply pw_below_drewN | apply below_drew1 | refine below_set ?_ GE612.out | refine below_set ?_ GE614.out) | exact HB.out)) hb); clear BK612; clear BK614; clear HB; have BK612 := n0_; have BK614 := n1_; have HB := n2_; clear n0_ n1_ n2_; (try clear hb); (try clear hb2); (try clear hk); (try clear hi); have hcz34_0 : w33.cell? ⟨gb612, 0, none⟩ = some (.bool true) := (blk_cell BK612.out 0).trans rfl; have hcz34_1 : w33.cell? ⟨gb612, 1, none⟩ = some (.slice (some ad613) l0_1.length c0_1) := (blk_cell BK612.out 1).trans rfl; have hfz34_0 := blk_frozen BK612.out 0; have hfz34_1 := blk_frozen BK612.out 1; have hcz35_0 : w33.cell? ⟨gb614, 0, none⟩ = some (.int .i64 ((rd_T103 l0_1 x23_2).f0)) := (blk_cell BK614.out 0).trans rfl; have hcz35_1 : w33.cell? ⟨gb614, 1, none⟩ = some (.int .i64 ((rd_T103 l0_1 x23_2).f1.f0)) := (blk_cell BK614.out 1).trans rfl; have hcz35_2 : w33.cell? ⟨gb614, 2, none⟩ = some (.int .i64 ((rd_T103 l0_1 x23_2).f1.f1)) := (blk_cell BK614.out 2).trans rfl; have hcz35_3 : w33.cell? ⟨gb614, 3, none⟩ = some (.int .i64 ((rd_T103 l0_1 x23_2).f1.f2)) := (blk_cell BK614.out 3).trans rfl; have hcz35_4 : w33.cell? ⟨gb614, 4, none⟩ = some (.int .i64 ((rd_T103 l0_1 x23_2).f1.f3)) := (blk_cell BK614.out 4).trans rfl; have hfz35_0 := blk_frozen BK614.out 0; have hfz35_1 := blk_frozen BK614.out 1; have hfz35_2 := blk_frozen BK614.out 2; have hfz35_3 := blk_frozen BK614.out 3; have hfz35_4 := blk_frozen BK614.out 4) | (go_at_call 103; (with_reducible refine (impl_EntryAt.calls k2 _ _ l0_1 ((rd_T103 l0_1 x23_2).f0) t617 _ ?side1 ?side2 A19.out).mono ?_); (case side1 => repeat (first | exact (Kd.C_below HR0_1.out HB.out) | (with_reducible refine Kd.C_alloc ?_ _) | (with_reducible refine Kd.C_drewN ?_ _) | (with_reducible refine Kd.C_drew ?_))); (case side2 => exact HC0_1.out); rintro e w36 ⟨rfl, hb⟩; have n0_ := Aside0.mk (blk_below (g := gb612) (o := .cells #[.bool true, .slice (some ad613) l0_1.length c0_1] 54 (0, 0)) (by (with_reducible repeat (first | refine blk_drewN ?_ _ | refine blk_drew ?_ | refine blk_alloc ?_ _)); exact BK612.out) hb); have n1_ := Aside0.mk (blk_below (g := gb614) (o := .cells #[.int .i64 ((rd_T103 l0_1 x23_2).f0), .int .i64 ((rd_T103 l0_1 x23_2).f1.f0), .int .i64 ((rd_T103 l0_1 x23_2).f1.f1), .int .i64 ((rd_T103 l0_1 x23_2).f1.f2), .int .i64 ((rd_T103 l0_1 x23_2).f1.f3)] 103 (0, 0)) (by (with_reducible repeat (first | refine blk_drewN ?_ _ | refine blk_drew ?_ | refine blk_alloc ?_ _)); exact BK614.out) hb); have n2_ := Aside0.mk (below_step (by repeat (first | (with_reducible first | exact HB.out | apply below_alloc | apply pw_below_drewN | apply below_drew1 | refine below_set ?_ GE612.out | refine below_set ?_ GE614.out) | exact HB.out)) hb); clear BK612; clear BK614; clear HB; have BK612 := n0_; have BK614 := n1_; have HB := n2_; clear n0_ n1_ n2_; (try clear hb); (try clear hb2); (try clear hk); (try clear hi)))
                          go_ret
                          exact ⟨by first | rfl | (simp [errW_none, errW_some] <;> rfl) | (simp [*, errW_none, errW_some] <;> rfl), by repeat (first | (with_reducible first | exact HB.out | apply below_alloc | apply pw_below_drewN | apply below_drew1 | refine below_set ?_ GE612.out | refine below_set ?_ GE614.out) | exact HB.out)⟩
                      · replace c18 := Bool.eq_false_iff.mpr c18
                        subst c18
                        have H1 : (some false) = some r := by rw [if_neg (show ¬ (false = true) by decide)] at H; exact H
                        clear H
                        have H := H1
                        clear H1
                        obtain rfl := Option.some.inj H
                        have p613 : 0 ≤ (x23_2 : Int) := of_decide_eq_true (by first | (with_reducible assumption) | assumption)
                        have q613 : x23_2 < (l0_1.length : Int) := of_decide_eq_true (by first | (with_reducible assumption) | assumption)
                        obtain ⟨ad613, e613, hx613_0, hx613_1, hx613_2, hx613_3, hx613_4⟩ := at_T103 HR0_1.out x23_2 p613 q613
                        cases e613
                        replace hx613_0 := (HB.out.cell (World.block_lt_of_cell? w _ hx613_0)).trans hx613_0
                        replace hx613_1 := (HB.out.cell (World.block_lt_of_cell? w _ hx613_1)).trans hx613_1
                        replace hx613_2 := (HB.out.cell (World.block_lt_of_cell? w _ hx613_2)).trans hx613_2
                        replace hx613_3 := (HB.out.cell (World.block_lt_of_cell? w _ hx613_3)).trans hx613_3
                        replace hx613_4 := (HB.out.cell (World.block_lt_of_cell? w _ hx613_4)).trans hx613_4
                        replace p613 := eq_true p613
                        replace q613 := eq_true q613
                        go_wp2_with (first | ((with_reducible refine gate_dst (N := 4) rfl ?_); (try (refine gate_guard (by rfl) ?_; dsimp only)); refine box_event ?hg (N := 4) ?hd (cs := #[.int .i64 0, .int .i64 0, .int .i64 0, .int .i64 0, .int .i64 0]) (t := 103) ?hr ?_; (case hd => rfl); (case hg => rfl); (case hr => first | (go_simp; done) | (go_simp; rfl)); intro gb614 hg w37 hbox hb; have n0_ := Aside0.mk (blk_below (g := gb612) (o := .cells #[.bool true, .slice (some ad613) l0_1.length c0_1] 54 (0, 0)) (by (with_reducible repeat (first | refine blk_drewN ?_ _ | refine blk_drew ?_ | refine blk_alloc ?_ _)); exact BK612.out) hb); have n1_ := Aside0.mk (below_step (by repeat (first | (with_reducible first | exact HB.out | apply below_alloc | apply pw_below_drewN | apply below_drew1 | refine below_set ?_ GE612.out) | exact HB.out)) hb); have n2_ := Aside0.mk (hbox); have n3_ := Aside0.mk ((by rw [hg]; exact (below_size (by repeat (first | (with_reducible first | exact HB.out | apply below_alloc | apply pw_below_drewN | apply below_drew1 | refine below_set ?_ GE612.out) | exact HB.out))) : w.heap.size ≤ gb614)); have n4_ := Aside0.mk ((by rw [hg]; exact (below_size (by repeat (first | (with_reducible first | exact HB.out | apply below_alloc | apply pw_below_drewN | apply below_drew1 | refine below_set ?_ GE612.out) | exact HB.out))) : w.heap.size ≤ gb614)); have n5_ := Aside0.mk ((by rw [hg]; exact Nat.ne_of_lt (blk_lt (g := gb612) (o := .cells #[.bool true, .slice (some ad613) l0_1.length c0_1] 54 (0, 0)) (by (with_reducible repeat (first | refine blk_drewN ?_ _ | refine blk_drew ?_ | refine blk_alloc ?_ _)); exact BK612.out)) : gb612 ≠ gb614)); have n6_ := Aside0.mk ((by rw [hg]; exact Nat.ne_of_gt (blk_lt (g := gb612) (o := .cells #[.bool true, .slice (some ad613) l0_1.length c0_1] 54 (0, 0)) (by (with_reducible repeat (first | refine blk_drewN ?_ _ | refine blk_drew ?_ | refine blk_alloc ?_ _)); exact BK612.out)) : gb614 ≠ gb612)); clear BK612; clear HB; have BK612 := n0_; have HB := n1_; have BK614 := n2_; have GW614 := n3_; have GE614 := n4_; have NB612_614 := n5_; have NB614_612 := n6_; clear n0_ n1_ n2_ n3_ n4_ n5_ n6_; clear hb hbox hg; have hnb38 := NB614_612.out; have hnc38 := NB612_614.out; have hcz39_0 : w37.cell? ⟨gb614, 0, none⟩ = some (.int .i64 0) := (blk_cell BK614.out 0).trans rfl; have hcz39_1 : w37.cell? ⟨gb614, 1, none⟩ = some (.int .i64 0) := (blk_cell BK614.out 1).trans rfl; have hcz39_2 : w37.cell? ⟨gb614, 2, none⟩ = some (.int .i64 0) := (blk_cell BK614.out 2).trans rfl; have hcz39_3 : w37.cell? ⟨gb614, 3, none⟩ = some (.int .i64 0) := (blk_cell BK614.out 3).trans rfl; have hcz39_4 : w37.cell? ⟨gb614, 4, none⟩ = some (.int .i64 0) := (blk_cell BK614.out 4).trans rfl; have hfz39_0 := blk_frozen BK614.out 0; have hfz39_1 := blk_frozen BK614.out 1; have hfz39_2 := blk_frozen BK614.out 2; have hfz39_3 := blk_frozen BK614.out 3; have hfz39_4 := blk_frozen BK614.out 4; have hcz40_0 : w37.cell? ⟨gb612, 0, none⟩ = some (.bool true) := (blk_cell BK612.out 0).trans rfl; have hcz40_1 : w37.cell? ⟨gb612, 1, none⟩ = some (.slice (some ad613) l0_1.length c0_1) := (blk_cell BK612.out 1).trans rfl; have hfz40_0 := blk_frozen BK612.out 0; have hfz40_1 := blk_frozen BK612.out 1) | (go_at_call 88; (with_reducible refine (impl_in.calls ((rd_T103 l0_1 x23_2).f0) 1 999 true _ A15.out).mono ?_); rintro e w' ⟨rfl, ⟨nd, rfl⟩⟩) | (go_at_call 112; (with_reducible refine (impl_BoxOk.calls ((rd_T103 l0_1 x23_2).f1.f0) ((rd_T103 l0_1 x23_2).f1.f1) ((rd_T103 l0_1 x23_2).f1.f2) ((rd_T103 l0_1 x23_2).f1.f3) false _ A17.out).mono ?_); rintro e w41 ⟨rfl, hb⟩; have n0_ := Aside0.mk (blk_below (g := gb612) (o := .cells #[.bool true, .slice (some ad613) l0_1.length c0_1] 54 (0, 0)) (by (with_reducible repeat (first | refine blk_drewN ?_ _ | refine blk_drew ?_ | refine blk_alloc ?_ _)); refine blk_far ?_ NB612_614.out _; (with_reducible repeat (first | refine blk_drewN ?_ _ | refine blk_drew ?_ | refine blk_alloc ?_ _)); refine blk_far ?_ NB612_614.out _; (with_reducible repeat (first | refine blk_drewN ?_ _ | refine blk_drew ?_ | refine blk_alloc ?_ _)); refine blk_far ?_ NB612_614.out _; (with_reducible repeat (first | refine blk_drewN ?_ _ | refine blk_drew ?_ | refine blk_alloc ?_ _)); refine blk_far ?_ NB612_614.out _; (with_reducible repeat (first | refine blk_drewN ?_ _ | refine blk_drew ?_ | refine blk_alloc ?_ _)); refine blk_far ?_ NB612_614.out _; (with_reducible repeat (first | refine blk_drewN ?_ _ | refine blk_drew ?_ | refine blk_alloc ?_ _)); exact BK612.out) hb); have n1_ := Aside0.mk (blk_below (g := gb614) (o := .cells #[.int .i64 ((rd_T103 l0_1 x23_2).f0), .int .i64 ((rd_T103 l0_1 x23_2).f1.f0), .int .i64 ((rd_T103 l0_1 x23_2).f1.f1), .int .i64 ((rd_T103 l0_1 x23_2).f1.f2), .int .i64 ((rd_T103 l0_1 x23_2).f1.f3)] 103 (0, 0)) (by (with_reducible repeat (first | refine blk_drewN ?_ _ | refine blk_drew ?_ | refine blk_alloc ?_ _)); refine blk_put (cs := #[.int .i64 ((rd_T103 l0_1 x23_2).f0), .int .i64 ((rd_T103 l0_1 x23_2).f1.f0), .int .i64 ((rd_T103 l0_1 x23_2).f1.f1), .int .i64 ((rd_T103 l0_1 x23_2).f1.f2), .int .i64 0]) ?_ 4 _ rfl; (with_reducible repeat (first | refine blk_drewN ?_ _ | refine blk_drew ?_ | refine blk_alloc ?_ _)); refine blk_put (cs := #[.int .i64 ((rd_T103 l0_1 x23_2).f0), .int .i64 ((rd_T103 l0_1 x23_2).f1.f0), .int .i64 ((rd_T103 l0_1 x23_2).f1.f1), .int .i64 0, .int .i64 0]) ?_ 3 _ rfl; (with_reducible repeat (first | refine blk_drewN ?_ _ | refine blk_drew ?_ | refine blk_alloc ?_ _)); refine blk_put (cs := #[.int .i64 ((rd_T103 l0_1 x23_2).f0), .int .i64 ((rd_T103 l0_1 x23_2).f1.f0), .int .i64 0, .int .i64 0, .int .i64 0]) ?_ 2 _ rfl; (with_reducible repeat (first | refine blk_drewN ?_ _ | refine blk_drew ?_ | refine blk_alloc ?_ _)); refine blk_put (cs := #[.int .i64 ((rd_T103 l0_1 x23_2).f0), .int .i64 0, .int .i64 0, .int .i64 0, .int .i64 0]) ?_ 1 _ rfl; (with_reducible repeat (first | refine blk_drewN ?_ _ | refine blk_drew ?_ | refine blk_alloc ?_ _)); refine blk_put (cs := #[.int .i64 0, .int .i64 0, .int .i64 0, .int .i64 0, .int .i64 0]) ?_ 0 _ rfl; (with_reducible repeat (first | refine blk_drewN ?_ _ | refine blk_drew ?_ | refine blk_alloc ?_ _)); exact BK614.out) hb); have n2_ := Aside0.mk (below_step (by repeat (first | (with_reducible first | exact HB.out | apply below_alloc | apply pw_below_drewN | apply below_drew1 | refine below_set ?_ GE612.out | refine below_set ?_ GE614.out) | exact HB.out)) hb); clear BK612; clear BK614; clear HB; have BK612 := n0_; have BK614 := n1_; have HB := n2_; clear n0_ n1_ n2_; (try clear hb); (try clear hb2); (try clear hk); (try clear hi)))
                        go_ret
                        exact ⟨by first | rfl | (simp [errW_none, errW_some] <;> rfl) | (simp [*, errW_none, errW_some] <;> rfl), by repeat (first | (with_reducible first | exact HB.out | apply below_alloc | apply pw_below_drewN | apply below_drew1 | refine below_set ?_ GE612.out | refine below_set ?_ GE614.out) | exact HB.out)⟩
                    · replace c16 := Bool.eq_false_iff.mpr c16
                      subst c16
                      have H1 : (some false) = some r := by rw [if_neg (show ¬ (false = true) by decide)] at H; exact H
                      clear H
                      have H := H1
                      clear H1
                      obtain rfl := Option.some.inj H
                      have p613 : 0 ≤ (x23_2 : Int) := of_decide_eq_true (by first | (with_reducible assumption) | assumption)
                      have q613 : x23_2 < (l0_1.length : Int) := of_decide_eq_true (by first | (with_reducible assumption) | assumption)
                      obtain ⟨ad613, e613, hx613_0, hx613_1, hx613_2, hx613_3, hx613_4⟩ := at_T103 HR0_1.out x23_2 p613 q613
                      cases e613
                      replace hx613_0 := (HB.out.cell (World.block_lt_of_cell? w _ hx613_0)).trans hx613_0
                      replace hx613_1 := (HB.out.cell (World.block_lt_of_cell? w _ hx613_1)).trans hx613_1
                      replace hx613_2 := (HB.out.cell (World.block_lt_of_cell? w _ hx613_2)).trans hx613_2
                      replace hx613_3 := (HB.out.cell (World.block_lt_of_cell? w _ hx613_3)).trans hx613_3
                      replace hx613_4 := (HB.out.cell (World.block_lt_of_cell? w _ hx613_4)).trans hx613_4
                      replace p613 := eq_true p613
                      replace q613 := eq_true q613
                      go_wp2_with (first | ((with_reducible refine gate_dst (N := 4) rfl ?_); (try (refine gate_guard (by rfl) ?_; dsimp only)); refine box_event ?hg (N := 4) ?hd (cs := #[.int .i64 0, .int .i64 0, .int .i64 0, .int .i64 0, .int .i64 0]) (t := 103) ?hr ?_; (case hd => rfl); (case hg => rfl); (case hr => first | (go_simp; done) | (go_simp; rfl)); intro gb614 hg w42 hbox hb; have n0_ := Aside0.mk (blk_below (g := gb612) (o := .cells #[.bool true, .slice (some ad613) l0_1.length c0_1] 54 (0, 0)) (by (with_reducible repeat (first | refine blk_drewN ?_ _ | refine blk_drew ?_ | refine blk_alloc ?_ _)); exact BK612.out) hb); have n1_ := Aside0.mk (below_step (by repeat (first | (with_reducible first | exact HB.out | apply below_alloc | apply pw_below_drewN | apply below_drew1 | refine below_set ?_ GE612.out) | exact HB.out)) hb); have n2_ := Aside0.mk (hbox); have n3_ := Aside0.mk ((by rw [hg]; exact (below_size (by repeat (first | (with_reducible first | exact HB.out | apply below_alloc | apply pw_below_drewN | apply below_drew1 | refine below_set ?_ GE612.out) | exact HB.out))) : w.heap.size ≤ gb614)); have n4_ := Aside0.mk ((by rw [hg]; exact (below_size (by repeat (first | (with_reducible first | exact HB.out | apply below_alloc | apply pw_below_drewN | apply below_drew1 | refine below_set ?_ GE612.out) | exact HB.out))) : w.heap.size ≤ gb614)); have n5_ := Aside0.mk ((by rw [hg]; exact Nat.ne_of_lt (blk_lt (g := gb612) (o := .cells #[.bool true, .slice (some ad613) l0_1.length c0_1] 54 (0, 0)) (by (with_reducible repeat (first | refine blk_drewN ?_ _ | refine blk_drew ?_ | refine blk_alloc ?_ _)); exact BK612.out)) : gb612 ≠ gb614)); have n6_ := Aside0.mk ((by rw [hg]; exact Nat.ne_of_gt (blk_lt (g := gb612) (o := .cells #[.bool true, .slice (some ad613) l0_1.length c0_1] 54 (0, 0)) (by (with_reducible repeat (first | refine blk_drewN ?_ _ | refine blk_drew ?_ | refine blk_alloc ?_ _)); exact BK612.out)) : gb614 ≠ gb612)); clear BK612; clear HB; have BK612 := n0_; have HB := n1_; have BK614 := n2_; have GW614 := n3_; have GE614 := n4_; have NB612_614 := n5_; have NB614_612 := n6_; clear n0_ n1_ n2_ n3_ n4_ n5_ n6_; clear hb hbox hg; have hnb43 := NB614_612.out; have hnc43 := NB612_614.out; have hcz44_0 : w42.cell? ⟨gb614, 0, none⟩ = some (.int .i64 0) := (blk_cell BK614.out 0).trans rfl; have hcz44_1 : w42.cell? ⟨gb614, 1, none⟩ = some (.int .i64 0) := (blk_cell BK614.out 1).trans rfl; have hcz44_2 : w42.cell? ⟨gb614, 2, none⟩ = some (.int .i64 0) := (blk_cell BK614.out 2).trans rfl; have hcz44_3 : w42.cell? ⟨gb614, 3, none⟩ = some (.int .i64 0) := (blk_cell BK614.out 3).trans rfl; have hcz44_4 : w42.cell? ⟨gb614, 4, none⟩ = some (.int .i64 0) := (blk_cell BK614.out 4).trans rfl; have hfz44_0 := blk_frozen BK614.out 0; have hfz44_1 := blk_frozen BK614.out 1; have hfz44_2 := blk_frozen BK614.out 2; have hfz44_3 := blk_frozen BK614.out 3; have hfz44_4 := blk_frozen BK614.out 4; have hcz45_0 : w42.cell? ⟨gb612, 0, none⟩ = some (.bool true) := (blk_cell BK612.out 0).trans rfl; have hcz45_1 : w42.cell? ⟨gb612, 1, none⟩ = some (.slice (some ad613) l0_1.length c0_1) := (blk_cell BK612.out 1).trans rfl; have hfz45_0 := blk_frozen BK612.out 0; have hfz45_1 := blk_frozen BK612.out 1) | (go_at_call 88; (with_reducible refine (impl_in.calls ((rd_T103 l0_1 x23_2).f0) 1 999 false _ A15.out).mono ?_); rintro e w' ⟨rfl, ⟨nd, rfl⟩⟩))
                      go_ret
                      exact ⟨by first | rfl | (simp [errW_none, errW_some] <;> rfl) | (simp [*, errW_none, errW_some] <;> rfl), by repeat (first | (with_reducible first | exact HB.out | apply below_alloc | apply pw_below_drewN | apply below_drew1 | refine below_set ?_ GE612.out | refine below_set ?_ GE614.out) | exact HB.out)⟩
                  · replace c14 := Bool.eq_false_iff.mpr c14
                    subst c14
                    have H1 : ((impl_in.f ((rd_T103 l0_1 x23_2).f0) 0 47).bind fun t618 => (if t618 = true then ((impl_BoxOk.f ((rd_T103 l0_1 x23_2).f1.f0) ((rd_T103 l0_1 x23_2).f1.f1) ((rd_T103 l0_1 x23_2).f1.f2) ((rd_T103 l0_1 x23_2).f1.f3)).bind fun t619 => (if t619 = true then ((impl_EntryAt.f k2 l0_1 ((rd_T103 l0_1 x23_2).f0)).bind fun t620 => (if t620 = x23_2 then (impl_NodeOk.l0 k2 l0_1 (l0_1.length : Int) (wrap64 (x23_2 + 1)) false l0_1) else (some false))) else (some false))) else (some false))) = some r := by rw [if_neg (show ¬ (false = true) by decide)] at H; exact H
                    clear H
                    have H := H1
                    clear H1
                    replace H := Option.bind_eq_some_iff.mp H
                    obtain ⟨t618, A460, H⟩ := H
                    replace H : (if t618 = true then ((impl_BoxOk.f ((rd_T103 l0_1 x23_2).f1.f0) ((rd_T103 l0_1 x23_2).f1.f1) ((rd_T103 l0_1 x23_2).f1.f2) ((rd_T103 l0_1 x23_2).f1.f3)).bind fun t619 => (if t619 = true then ((impl_EntryAt.f k2 l0_1 ((rd_T103 l0_1 x23_2).f0)).bind fun t620 => (if t620 = x23_2 then (impl_NodeOk.l0 k2 l0_1 (l0_1.length : Int) (wrap64 (x23_2 + 1)) false l0_1) else (some false))) else (some false))) else (some false)) = some r := H
                    have A46 := Aside0.mk A460
                    clear A460
                    by_cases c47 : t618 = true
                    · subst c47
                      have H1 : ((impl_BoxOk.f ((rd_T103 l0_1 x23_2).f1.f0) ((rd_T103 l0_1 x23_2).f1.f1) ((rd_T103 l0_1 x23_2).f1.f2) ((rd_T103 l0_1 x23_2).f1.f3)).bind fun t619 => (if t619 = true then ((impl_EntryAt.f k2 l0_1 ((rd_T103 l0_1 x23_2).f0)).bind fun t620 => (if t620 = x23_2 then (impl_NodeOk.l0 k2 l0_1 (l0_1.length : Int) (wrap64 (x23_2 + 1)) false l0_1) else (some false))) else (some false))) = some r := by rw [if_pos rfl] at H; exact H
                      clear H
                      have H := H1
                      clear H1
                      replace H := Option.bind_eq_some_iff.mp H
                      obtain ⟨t619, A480, H⟩ := H
                      replace H : (if t619 = true then ((impl_EntryAt.f k2 l0_1 ((rd_T103 l0_1 x23_2).f0)).bind fun t620 => (if t620 = x23_2 then (impl_NodeOk.l0 k2 l0_1 (l0_1.length : Int) (wrap64 (x23_2 + 1)) false l0_1) else (some false))) else (some false)) = some r := H
                      have A48 := Aside0.mk A480
                      clear A480
                      by_cases c49 : t619 = true
                      · subst c49
                        have H1 : ((impl_EntryAt.f k2 l0_1 ((rd_T103 l0_1 x23_2).f0)).bind fun t620 => (if t620 = x23_2 then (impl_NodeOk.l0 k2 l0_1 (l0_1.length : Int) (wrap64 (x23_2 + 1)) false l0_1) else (some false))) = some r := by rw [if_pos rfl] at H; exact H
                        clear H
                        have H := H1
                        clear H1
                        replace H := Option.bind_eq_some_iff.mp H
                        obtain ⟨t620, A500, H⟩ := H
                        replace H : (if t620 = x23_2 then (impl_NodeOk.l0 k2 l0_1 (l0_1.length : Int) (wrap64 (x23_2 + 1)) false l0_1) else (some false)) = some r := H
                        have A50 := Aside0.mk A500
                        clear A500
                        by_cases c51 : t620 = x23_2
                        · rw [if_pos c51] at H
                          have c51b0 : (t620 == x23_2) = true := beq_iff_eq.mpr c51
                          have c51b1 : (t620 != x23_2) = false := bne_eq_false_iff_eq.mpr c51
                          clear c51
                          have H' := Aside0.mk H
                          clear H
                          have p613 : 0 ≤ (x23_2 : Int) := of_decide_eq_true (by first | (with_reducible assumption) | assumption)
                          have q613 : x23_2 < (l0_1.length : Int) := of_decide_eq_true (by first | (with_reducible assumption) | assumption)
                          obtain ⟨ad613, e613, hx613_0, hx613_1, hx613_2, hx613_3, hx613_4⟩ := at_T103 HR0_1.out x23_2 p613 q613
                          cases e613
                          replace hx613_0 := (HB.out.cell (World.block_lt_of_cell? w _ hx613_0)).trans hx613_0
                          replace hx613_1 := (HB.out.cell (World.block_lt_of_cell? w _ hx613_1)).trans hx613_1
                          replace hx613_2 := (HB.out.cell (World.block_lt_of_cell? w _ hx613_2)).trans hx613_2
                          replace hx613_3 := (HB.out.cell (World.block_lt_of_cell? w _ hx613_3)).trans hx613_3
                          replace hx613_4 := (HB.out.cell (World.block_lt_of_cell? w _ hx613_4)).trans hx613_4
                          replace p613 := eq_true p613
                          replace q613 := eq_true q613
                          go_wp2_with (first | ((with_reducible refine gate_dst (N := 4) rfl ?_); (try (refine gate_guard (by rfl) ?_; dsimp only)); refine box_event ?hg (N := 4) ?hd (cs := #[.int .i64 0, .int .i64 0, .int .i64 0, .int .i64 0, .int .i64 0]) (t := 103) ?hr ?_; (case hd => rfl); (case hg => rfl); (case hr => first | (go_simp; done) | (go_simp; rfl)); intro gb614 hg w52 hbox hb; have n0_ := Aside0.mk (blk_below (g := gb612) (o := .cells #[.bool false, .slice (some ad613) l0_1.length c0_1] 54 (0, 0)) (by (with_reducible repeat (first | refine blk_drewN ?_ _ | refine blk_drew ?_ | refine blk_alloc ?_ _)); exact BK612.out) hb); have n1_ := Aside0.mk (below_step (by repeat (first | (with_reducible first | exact HB.out | apply below_alloc | apply pw_below_drewN | apply below_drew1 | refine below_set ?_ GE612.out) | exact HB.out)) hb); have n2_ := Aside0.mk (hbox); have n3_ := Aside0.mk ((by rw [hg]; exact (below_size (by repeat (first | (with_reducible first | exact HB.out | apply below_alloc | apply pw_below_drewN | apply below_drew1 | refine below_set ?_ GE612.out) | exact HB.out))) : w.heap.size ≤ gb614)); have n4_ := Aside0.mk ((by rw [hg]; exact (below_size (by repeat (first | (with_reducible first | exact HB.out | apply below_alloc | apply pw_below_drewN | apply below_drew1 | refine below_set ?_ GE612.out) | exact HB.out))) : w.heap.size ≤ gb614)); have n5_ := Aside0.mk ((by rw [hg]; exact Nat.ne_of_lt (blk_lt (g := gb612) (o := .cells #[.bool false, .slice (some ad613) l0_1.length c0_1] 54 (0, 0)) (by (with_reducible repeat (first | refine blk_drewN ?_ _ | refine blk_drew ?_ | refine blk_alloc ?_ _)); exact BK612.out)) : gb612 ≠ gb614)); have n6_ := Aside0.mk ((by rw [hg]; exact Nat.ne_of_gt (blk_lt (g := gb612) (o := .cells #[.bool false, .slice (some ad613) l0_1.length c0_1] 54 (0, 0)) (by (with_reducible repeat (first | refine blk_drewN ?_ _ | refine blk_drew ?_ | refine blk_alloc ?_ _)); exact BK612.out)) : gb614 ≠ gb612)); clear BK612; clear HB; have BK612 := n0_; have HB := n1_; have BK614 := n2_; have GW614 := n3_; have GE614 := n4_; have NB612_614 := n5_; have NB614_612 := n6_; clear n0_ n1_ n2_ n3_ n4_ n5_ n6_; clear hb hbox hg; have hnb53 := NB614_612.out; have hnc53 := NB612_614.out; have hcz54_0 : w52.cell? ⟨gb614, 0, none⟩ = some (.int .i64 0) := (blk_cell BK614.out 0).trans rfl; have hcz54_1 : w52.cell? ⟨gb614, 1, none⟩ = some (.int .i64 0) := (blk_cell BK614.out 1).trans rfl; have hcz54_2 : w52.cell? ⟨gb614, 2, none⟩ = some (.int .i64 0) := (blk_cell BK614.out 2).trans rfl; have hcz54_3 : w52.cell? ⟨gb614, 3, none⟩ = some (.int .i64 0) := (blk_cell BK614.out 3).trans rfl; have hcz54_4 : w52.cell? ⟨gb614, 4, none⟩ = some (.int .i64 0) := (blk_cell BK614.out 4).trans rfl; have hfz54_0 := blk_frozen BK614.out 0; have hfz54_1 := blk_frozen BK614.out 1; have hfz54_2 := blk_frozen BK614.out 2; have hfz54_3 := blk_frozen BK614.out 3; have hfz54_4 := blk_frozen BK614.out 4; have hcz55_0 : w52.cell? ⟨gb612, 0, none⟩ = some (.bool false) := (blk_cell BK612.out 0).trans rfl; have hcz55_1 : w52.cell? ⟨gb612, 1, none⟩ = some (.slice (some ad613) l0_1.length c0_1) := (blk_cell BK612.out 1).trans rfl; have hfz55_0 := blk_frozen BK612.out 0; have hfz55_1 := blk_frozen BK612.out 1) | (go_at_call 88; (with_reducible refine (impl_in.calls ((rd_T103 l0_1 x23_2).f0) 0 47 true _ A46.out).mono ?_); rintro e w' ⟨rfl, ⟨nd, rfl⟩⟩) | (go_at_call 112; (with_reducible refine (impl_BoxOk.calls ((rd_T103 l0_1 x23_2).f1.f0) ((rd_T103 l0_1 x23_2).f1.f1) ((rd_T103 l0_1 x23_2).f1.f2) ((rd_T103 l0_1 x23_2).f1.f3) true _ A48.out).mono ?_); rintro e w56 ⟨rfl, hb⟩; have n0_ := Aside0.mk (blk_below (g := gb612) (o := .cells #[.bool false, .slice (some ad613) l0_1.length c0_1] 54 (0, 0)) (by (with_reducible repeat (first | refine blk_drewN ?_ _ | refine blk_drew ?_ | refine blk_alloc ?_ _)); refine blk_far ?_ NB612_614.out _; (with_reducible repeat (first | refine blk_drewN ?_ _ | refine blk_drew ?_ | refine blk_alloc ?_ _)); refine blk_far ?_ NB612_614.out _; (with_reducible repeat (first | refine blk_drewN ?_ _ | refine blk_drew ?_ | refine blk_alloc ?_ _)); refine blk_far ?_ NB612_614.out _; (with_reducible repeat (first | refine blk_drewN ?_ _ | refine blk_drew ?_ | refine blk_alloc ?_ _)); refine blk_far ?_ NB612_614.out _; (with_reducible repeat (first | refine blk_drewN ?_ _ | refine blk_drew ?_ | refine blk_alloc ?_ _)); refine blk_far ?_ NB612_614.out _; (with_reducible repeat (first | refine blk_drewN ?_ _ | refine blk_drew ?_ | refine blk_alloc ?_ _)); exact BK612.out) hb); have n1_ := Aside0.mk (blk_below (g := gb614) (o := .cells #[.int .i64 ((rd_T103 l0_1 x23_2).f0), .int .i64 ((rd_T103 l0_1 x23_2).f1.f0), .int .i64 ((rd_T103 l0_1 x23_2).f1.f1), .int .i64 ((rd_T103 l0_1 x23_2).f1.f2), .int .i64 ((rd_T103 l0_1 x23_2).f1.f3)] 103 (0, 0)) (by (with_reducible repeat (first | refine blk_drewN ?_ _ | refine blk_drew ?_ | refine blk_alloc ?_ _)); refine blk_put (cs := #[.int .i64 ((rd_T103 l0_1 x23_2).f0), .int .i64 ((rd_T103 l0_1 x23_2).f1.f0), .int .i64 ((rd_T103 l0_1 x23_2).f1.f1), .int .i64 ((rd_T103 l0_1 x23_2).f1.f2), .int .i64 0]) ?_ 4 _ rfl; (with_reducible repeat (first | refine blk_drewN ?_ _ | refine blk_drew ?_ | refine blk_alloc ?_ _)); refine blk_put (cs := #[.int .i64 ((rd_T103 l0_1 x23_2).f0), .int .i64 ((rd_T103 l0_1 x23_2).f1.f0), .int .i64 ((rd_T103 l0_1 x23_2).f1.f1), .int .i64 0, .int .i64 0]) ?_ 3 _ rfl; (with_reducible repeat (first | refine blk_drewN ?_ _ | refine blk_drew ?_ | refine blk_alloc ?_ _)); refine blk_put (cs := #[.int .i64 ((rd_T103 l0_1 x23_2).f0), .int .i64 ((rd_T103 l0_1 x23_2).f1.f0), .int .i64 0, .int .i64 0, .int .i64 0]) ?_ 2 _ rfl; (with_reducible repeat (first | refine blk_drewN ?_ _ | refine blk_drew ?_ | refine blk_alloc ?_ _)); refine blk_put (cs := #[.int .i64 ((rd_T103 l0_1 x23_2).f0), .int .i64 0, .int .i64 0, .int .i64 0, .int .i64 0]) ?_ 1 _ rfl; (with_reducible repeat (first | refine blk_drewN ?_ _ | refine blk_drew ?_ | refine blk_alloc ?_ _)); refine blk_put (cs := #[.int .i64 0, .int .i64 0, .int .i64 0, .int .i64 0, .int .i64 0]) ?_ 0 _ rfl; (with_reducible repeat (first | refine blk_drewN ?_ _ | refine blk_drew ?_ | refine blk_alloc ?_ _)); exact BK614.out) hb); have n2_ := Aside0.mk (below_step (by repeat (first | (with_reducible first | exact HB.out | apply below_alloc | apply pw_below_drewN | apply below_drew1 | refine below_set ?_ GE612.out | refine below_set ?_ GE614.out) | exact HB.out)) hb); clear BK612; clear BK614; clear HB; have BK612 := n0_; have BK614 := n1_; have HB := n2_; clear n0_ n1_ n2_; (try clear hb); (try clear hb2); (try clear hk); (try clear hi); have hcz57_0 : w56.cell? ⟨gb612, 0, none⟩ = some (.bool false) := (blk_cell BK612.out 0).trans rfl; have hcz57_1 : w56.cell? ⟨gb612, 1, none⟩ = some (.slice (some ad613) l0_1.length c0_1) := (blk_cell BK612.out 1).trans rfl; have hfz57_0 := blk_frozen BK612.out 0; have hfz57_1 := blk_frozen BK612.out 1; have hcz58_0 : w56.cell? ⟨gb614, 0, none⟩ = some (.int .i64 ((rd_T103 l0_1 x23_2).f0)) := (blk_cell BK614.out 0).trans rfl; have hcz58_1 : w56.cell? ⟨gb614, 1, none⟩ = some (.int .i64 ((rd_T103 l0_1 x23_2).f1.f0)) := (blk_cell BK614.out 1).trans rfl; have hcz58_2 : w56.cell? ⟨gb614, 2, none⟩ = some (.int .i64 ((rd_T103 l0_1 x23_2).f1.f1)) := (blk_cell BK614.out 2).trans rfl; have hcz58_3 : w56.cell? ⟨gb614, 3, none⟩ = some (.int .i64 ((rd_T103 l0_1 x23_2).f1.f2)) := (blk_cell BK614.out 3).trans rfl; have hcz58_4 : w56.cell? ⟨gb614, 4, none⟩ = some (.int .i64 ((rd_T103 l0_1 x23_2).f1.f3)) := (blk_cell BK614.out 4).trans rfl; have hfz58_0 := blk_frozen BK614.out 0; have hfz58_1 := blk_frozen BK614.out 1; have hfz58_2 := blk_frozen BK614.out 2; have hfz58_3 := blk_frozen BK614.out 3; have hfz58_4 := blk_frozen BK614.out 4) | (go_at_call 103; (with_reducible refine (impl_EntryAt.calls k2 _ _ l0_1 ((rd_T103 l0_1 x23_2).f0) t620 _ ?side1 ?side2 A50.out).mono ?_); (case side1 => repeat (first | exact (Kd.C_below HR0_1.out HB.out) | (with_reducible refine Kd.C_alloc ?_ _) | (with_reducible refine Kd.C_drewN ?_ _) | (with_reducible refine Kd.C_drew ?_))); (case side2 => exact HC0_1.out); rintro e w59 ⟨rfl, hb⟩; have n0_ := Aside0.mk (blk_below (g := gb612) (o := .cells #[.bool false, .slice (some ad613) l0_1.length c0_1] 54 (0, 0)) (by (with_reducible repeat (first | refine blk_drewN ?_ _ | refine blk_drew ?_ | refine blk_alloc ?_ _)); exact BK612.out) hb); have n1_ := Aside0.mk (blk_below (g := gb614) (o := .cells #[.int .i64 ((rd_T103 l0_1 x23_2).f0), .int .i64 ((rd_T103 l0_1 x23_2).f1.f0), .int .i64 ((rd_T103 l0_1 x23_2).f1.f1), .int .i64 ((rd_T103 l0_1 x23_2).f1.f2), .int .i64 ((rd_T103 l0_1 x23_2).f1.f3)] 103 (0, 0)) (by (with_reducible repeat (first | refine blk_drewN ?_ _ | refine blk_drew ?_ | refine blk_alloc ?_ _)); exact BK614.out) hb); have n2_ := Aside0.mk (below_step (by repeat (first | (with_reducible first | exact HB.out | apply below_alloc | apply pw_below_drewN | apply below_drew1 | refine below_set ?_ GE612.out | refine below_set ?_ GE614.out) | exact HB.out)) hb); clear BK612; clear BK614; clear HB; have BK612 := n0_; have BK614 := n1_; have HB := n2_; clear n0_ n1_ n2_; (try clear hb); (try clear hb2); (try clear hk); (try clear hi)))
                          go_roundg k2
                          case measure => have := HJ1.out; have := HK2.out; omega
                          case rel => exact ⟨(wrap64 (x23_2 + 1)), (by first | rfl | (simp; done) | (simp [*]; done)), H', ⟨by have := HJ1.out; have := HK2.out; omega⟩, ⟨by (with_reducible repeat (first | refine blk_drewN ?_ _ | refine blk_drew ?_ | refine blk_alloc ?_ _)); exact BK612.out⟩, ⟨by repeat (first | (with_reducible first | exact HB.out | apply below_alloc | apply pw_below_drewN | apply below_drew1 | refine below_set ?_ GE612.out | refine below_set ?_ GE614.out) | exact HB.out)⟩⟩
                        · rw [if_neg c51] at H
                          have c51b0 : (t620 == x23_2) = false := beq_eq_false_iff_ne.mpr c51
                          have c51b1 : (t620 != x23_2) = true := bne_iff_ne.mpr c51
                          obtain rfl := Option.some.inj H
                          have p613 : 0 ≤ (x23_2 : Int) := of_decide_eq_true (by first | (with_reducible assumption) | assumption)
                          have q613 : x23_2 < (l0_1.length : Int) := of_decide_eq_true (by first | (with_reducible assumption) | assumption)
                          obtain ⟨ad613, e613, hx613_0, hx613_1, hx613_2, hx613_3, hx613_4⟩ := at_T103 HR0_1.out x23_2 p613 q613
                          cases e613
                          replace hx613_0 := (HB.out.cell (World.block_lt_of_cell? w _ hx613_0)).trans hx613_0
                          replace hx613_1 := (HB.out.cell (World.block_lt_of_cell? w _ hx613_1)).trans hx613_1
                          replace hx613_2 := (HB.out.cell (World.block_lt_of_cell? w _ hx613_2)).trans hx613_2
                          replace hx613_3 := (HB.out.cell (World.block_lt_of_cell? w _ hx613_3)).trans hx613_3
                          replace hx613_4 := (HB.out.cell (World.block_lt_of_cell? w _ hx613_4)).trans hx613_4
                          replace p613 := eq_true p613
                          replace q613 := eq_true q613
                          go_wp2_with (first | ((with_reducible refine gate_dst (N := 4) rfl ?_); (try (refine gate_guard (by rfl) ?_; dsimp only)); refine box_event ?hg (N := 4) ?hd (cs := #[.int .i64 0, .int .i64 0, .int .i64 0, .int .i64 0, .int .i64 0]) (t := 103) ?hr ?_; (case hd => rfl); (case hg => rfl); (case hr => first | (go_simp; done) | (go_simp; rfl)); intro gb614 hg w60 hbox hb; have n0_ := Aside0.mk (blk_below (g := gb612) (o := .cells #[.bool false, .slice (some ad613) l0_1.length c0_1] 54 (0, 0)) (by (with_reducible repeat (first | refine blk_drewN ?_ _ | refine blk_drew ?_ | refine blk_alloc ?_ _)); exact BK612.out) hb); have n1_ := Aside0.mk (below_step (by repeat (first | (with_reducible first | exact HB.out | apply below_alloc | apply pw_below_drewN | apply below_drew1 | refine below_set ?_ GE612.out) | exact HB.out)) hb); have n2_ := Aside0.mk (hbox); have n3_ := Aside0.mk ((by rw [hg]; exact (below_size (by repeat (first | (with_reducible first | exact HB.out | apply below_alloc | apply pw_below_drewN | apply below_drew1 | refine below_set ?_ GE612.out) | exact HB.out))) : w.heap.size ≤ gb614)); have n4_ := Aside0.mk ((by rw [hg]; exact (below_size (by repeat (first | (with_reducible first | exact HB.out | apply below_alloc | apply pw_below_drewN | apply below_drew1 | refine below_set ?_ GE612.out) | exact HB.out))) : w.heap.size ≤ gb614)); have n5_ := Aside0.mk ((by rw [hg]; exact Nat.ne_of_lt (blk_lt (g := gb612) (o := .cells #[.bool false, .slice (some ad613) l0_1.length c0_1] 54 (0, 0)) (by (with_reducible repeat (first | refine blk_drewN ?_ _ | refine blk_drew ?_ | refine blk_alloc ?_ _)); exact BK612.out)) : gb612 ≠ gb614)); have n6_ := Aside0.mk ((by rw [hg]; exact Nat.ne_of_gt (blk_lt (g := gb612) (o := .cells #[.bool false, .slice (some ad613) l0_1.length c0_1] 54 (0, 0)) (by (with_reducible repeat (first | refine blk_drewN ?_ _ | refine blk_drew ?_ | refine blk_alloc ?_ _)); exact BK612.out)) : gb614 ≠ gb612)); clear BK612; clear HB; have BK612 := n0_; have HB := n1_; have BK614 := n2_; have GW614 := n3_; have GE614 := n4_; have NB612_614 := n5_; have NB614_612 := n6_; clear n0_ n1_ n2_ n3_ n4_ n5_ n6_; clear hb hbox hg; have hnb61 := NB614_612.out; have hnc61 := NB612_614.out; have hcz62_0 : w60.cell? ⟨gb614, 0, none⟩ = some (.int .i64 0) := (blk_cell BK614.out 0).trans rfl; have hcz62_1 : w60.cell? ⟨gb614, 1, none⟩ = some (.int .i64 0) := (blk_cell BK614.out 1).trans rfl; have hcz62_2 : w60.cell? ⟨gb614, 2, none⟩ = some (.int .i64 0) := (blk_cell BK614.out 2).trans rfl; have hcz62_3 : w60.cell? ⟨gb614, 3, none⟩ = some (.int .i64 0) := (blk_cell BK614.out 3).trans rfl; have hcz62_4 : w60.cell? ⟨gb614, 4, none⟩ = some (.int .i64 0) := (blk_cell BK614.out 4).trans rfl; have hfz62_0 := blk_frozen BK614.out 0; have hfz62_1 := blk_frozen BK614.out 1; have hfz62_2 := blk_frozen BK614.out 2; have hfz62_3 := blk_frozen BK614.out 3; have hfz62_4 := blk_frozen BK614.out 4; have hcz63_0 : w60.cell? ⟨gb612, 0, none⟩ = some (.bool false) := (blk_cell BK612.out 0).trans rfl; have hcz63_1 : w60.cell? ⟨gb612, 1, none⟩ = some (.slice (some ad613) l0_1.length c0_1) := (blk_cell BK612.out 1).trans rfl; have hfz63_0 := blk_frozen BK612.out 0; have hfz63_1 := blk_frozen BK612.out 1) | (go_at_call 88; (with_reducible refine (impl_in.calls ((rd_T103 l0_1 x23_2).f0) 0 47 true _ A46.out).mono ?_); rintro e w' ⟨rfl, ⟨nd, rfl⟩⟩) | (go_at_call 112; (with_reducible refine (impl_BoxOk.calls ((rd_T103 l0_1 x23_2).f1.f0) ((rd_T103 l0_1 x23_2).f1.f1) ((rd_T103 l0_1 x23_2).f1.f2) ((rd_T103 l0_1 x23_2).f1.f3) true _ A48.out).mono ?_); rintro e w64 ⟨rfl, hb⟩; have n0_ := Aside0.mk (blk_below (g := gb612) (o := .cells #[.bool false, .slice (some ad613) l0_1.length c0_1] 54 (0, 0)) (by (with_reducible repeat (first | refine blk_drewN ?_ _ | refine blk_drew ?_ | refine blk_alloc ?_ _)); refine blk_far ?_ NB612_614.out _; (with_reducible repeat (first | refine blk_drewN ?_ _ | refine blk_drew ?_ | refine blk_alloc ?_ _)); refine blk_far ?_ NB612_614.out _; (with_reducible repeat (first | refine blk_drewN ?_ _ | refine blk_drew ?_ | refine blk_alloc ?_ _)); refine blk_far ?_ NB612_614.out _; (with_reducible repeat (first | refine blk_drewN ?_ _ | refine blk_drew ?_ | refine blk_alloc ?_ _)); refine blk_far ?_ NB612_614.out _; (with_reducible repeat (first | refine blk_drewN ?_ _ | refine blk_drew ?_ | refine blk_alloc ?_ _)); refine blk_far ?_ NB612_614.out _; (with_reducible repeat (first | refine blk_drewN ?_ _ | refine blk_drew ?_ | refine blk_alloc ?_ _)); exact BK612.out) hb); have n1_ := Aside0.mk (blk_below (g := gb614) (o := .cells #[.int .i64 ((rd_T103 l0_1 x23_2).f0), .int .i64 ((rd_T103 l0_1 x23_2).f1.f0), .int .i64 ((rd_T103 l0_1 x23_2).f1.f1), .int .i64 ((rd_T103 l0_1 x23_2).f1.f2), .int .i64 ((rd_T103 l0_1 x23_2).f1.f3)] 103 (0, 0)) (by (with_reducible repeat (first | refine blk_drewN ?_ _ | refine blk_drew ?_ | refine blk_alloc ?_ _)); refine blk_put (cs := #[.int .i64 ((rd_T103 l0_1 x23_2).f0), .int .i64 ((rd_T103 l0_1 x23_2).f1.f0), .int .i64 ((rd_T103 l0_1 x23_2).f1.f1), .int .i64 ((rd_T103 l0_1 x23_2).f1.f2), .int .i64 0]) ?_ 4 _ rfl; (with_reducible repeat (first | refine blk_drewN ?_ _ | refine blk_drew ?_ | refine blk_alloc ?_ _)); refine blk_put (cs := #[.int .i64 ((rd_T103 l0_1 x23_2).f0), .int .i64 ((rd_T103 l0_1 x23_2).f1.f0), .int .i64 ((rd_T103 l0_1 x23_2).f1.f1), .int .i64 0, .int .i64 0]) ?_ 3 _ rfl; (with_reducible repeat (first | refine blk_drewN ?_ _ | refine blk_drew ?_ | refine blk_alloc ?_ _)); refine blk_put (cs := #[.int .i64 ((rd_T103 l0_1 x23_2).f0), .int .i64 ((rd_T103 l0_1 x23_2).f1.f0), .int .i64 0, .int .i64 0, .int .i64 0]) ?_ 2 _ rfl; (with_reducible repeat (first | refine blk_drewN ?_ _ | refine blk_drew ?_ | refine blk_alloc ?_ _)); refine blk_put (cs := #[.int .i64 ((rd_T103 l0_1 x23_2).f0), .int .i64 0, .int .i64 0, .int .i64 0, .int .i64 0]) ?_ 1 _ rfl; (with_reducible repeat (first | refine blk_drewN ?_ _ | refine blk_drew ?_ | refine blk_alloc ?_ _)); refine blk_put (cs := #[.int .i64 0, .int .i64 0, .int .i64 0, .int .i64 0, .int .i64 0]) ?_ 0 _ rfl; (with_reducible repeat (first | refine blk_drewN ?_ _ | refine blk_drew ?_ | refine blk_alloc ?_ _)); exact BK614.out) hb); have n2_ := Aside0.mk (below_step (by repeat (first | (with_reducible first | exact HB.out | apply below_alloc | apply pw_below_drewN | apply below_drew1 | refine below_set ?_ GE612.out | refine below_set ?_ GE614.out) | exact HB.out)) hb); clear BK612; clear BK614; clear HB; have BK612 := n0_; have BK614 := n1_; have HB := n2_; clear n0_ n1_ n2_; (try clear hb); (try clear hb2); (try clear hk); (try clear hi); have hcz65_0 : w64.cell? ⟨gb612, 0, none⟩ = some (.bool false) := (blk_cell BK612.out 0).trans rfl; have hcz65_1 : w64.cell? ⟨gb612, 1, none⟩ = some (.slice (some ad613) l0_1.length c0_1) := (blk_cell BK612.out 1).trans rfl; have hfz65_0 := blk_frozen BK612.out 0; have hfz65_1 := blk_frozen BK612.out 1; have hcz66_0 : w64.cell? ⟨gb614, 0, none⟩ = some (.int .i64 ((rd_T103 l0_1 x23_2).f0)) := (blk_cell BK614.out 0).trans rfl; have hcz66_1 : w64.cell? ⟨gb614, 1, none⟩ = some (.int .i64 ((rd_T103 l0_1 x23_2).f1.f0)) := (blk_cell BK614.out 1).trans rfl; have hcz66_2 : w64.cell? ⟨gb614, 2, none⟩ = some (.int .i64 ((rd_T103 l0_1 x23_2).f1.f1)) := (blk_cell BK614.out 2).trans rfl; have hcz66_3 : w64.cell? ⟨gb614, 3, none⟩ = some (.int .i64 ((rd_T103 l0_1 x23_2).f1.f2)) := (blk_cell BK614.out 3).trans rfl; have hcz66_4 : w64.cell? ⟨gb614, 4, none⟩ = some (.int .i64 ((rd_T103 l0_1 x23_2).f1.f3)) := (blk_cell BK614.out 4).trans rfl; have hfz66_0 := blk_frozen BK614.out 0; have hfz66_1 := blk_frozen BK614.out 1; have hfz66_2 := blk_frozen BK614.out 2; have hfz66_3 := blk_frozen BK614.out 3; have hfz66_4 := blk_frozen BK614.out 4) | (go_at_call 103; (with_reducible refine (impl_EntryAt.calls k2 _ _ l0_1 ((rd_T103 l0_1 x23_2).f0) t620 _ ?side1 ?side2 A50.out).mono ?_); (case side1 => repeat (first | exact (Kd.C_below HR0_1.out HB.out) | (with_reducible refine Kd.C_alloc ?_ _) | (with_reducible refine Kd.C_drewN ?_ _) | (with_reducible refine Kd.C_drew ?_))); (case side2 => exact HC0_1.out); rintro e w67 ⟨rfl, hb⟩; have n0_ := Aside0.mk (blk_below (g := gb612) (o := .cells #[.bool false, .slice (some ad613) l0_1.length c0_1] 54 (0, 0)) (by (with_reducible repeat (first | refine blk_drewN ?_ _ | refine blk_drew ?_ | refine blk_alloc ?_ _)); exact BK612.out) hb); have n1_ := Aside0.mk (blk_below (g := gb614) (o := .cells #[.int .i64 ((rd_T103 l0_1 x23_2).f0), .int .i64 ((rd_T103 l0_1 x23_2).f1.f0), .int .i64 ((rd_T103 l0_1 x23_2).f1.f1), .int .i64 ((rd_T103 l0_1 x23_2).f1.f2), .int .i64 ((rd_T103 l0_1 x23_2).f1.f3)] 103 (0, 0)) (by (with_reducible repeat (first | refine blk_drewN ?_ _ | refine blk_drew ?_ | refine blk_alloc ?_ _)); exact BK614.out) hb); have n2_ := Aside0.mk (below_step (by repeat (first | (with_reducible first | exact HB.out | apply below_alloc | apply pw_below_drewN | apply below_drew1 | refine below_set ?_ GE612.out | refine below_set ?_ GE614.out) | exact HB.out)) hb); clear BK612; clear BK614; clear HB; have BK612 := n0_; have BK614 := n1_; have HB := n2_; clear n0_ n1_ n2_; (try clear hb); (try clear hb2); (try clear hk); (try clear hi)))
                          go_ret
                          exact ⟨by first | rfl | (simp [errW_none, errW_some] <;> rfl) | (simp [*, errW_none, errW_some] <;> rfl), by repeat (first | (with_reducible first | exact HB.out | apply below_alloc | apply pw_below_drewN | apply below_drew1 | refine below_set ?_ GE612.out | refine below_set ?_ GE614.out) | exact HB.out)⟩
                      · replace c49 := Bool.eq_false_iff.mpr c49
                        subst c49
                        have H1 : (some false) = some r := by rw [if_neg (show ¬ (false = true) by decide)] at H; exact H
                        clear H
                        have H := H1
                        clear H1
                        obtain rfl := Option.some.inj H
                        have p613 : 0 ≤ (x23_2 : Int) := of_decide_eq_true (by first | (with_reducible assumption) | assumption)
                        have q613 : x23_2 < (l0_1.length : Int) := of_decide_eq_true (by first | (with_reducible assumption) | assumption)
                        obtain ⟨ad613, e613, hx613_0, hx613_1, hx613_2, hx613_3, hx613_4⟩ := at_T103 HR0_1.out x23_2 p613 q613
                        cases e613
                        replace hx613_0 := (HB.out.cell (World.block_lt_of_cell? w _ hx613_0)).trans hx613_0
                        replace hx613_1 := (HB.out.cell (World.block_lt_of_cell? w _ hx613_1)).trans hx613_1
                        replace hx613_2 := (HB.out.cell (World.block_lt_of_cell? w _ hx613_2)).trans hx613_2
                        replace hx613_3 := (HB.out.cell (World.block_lt_of_cell? w _ hx613_3)).trans hx613_3
                        replace hx613_4 := (HB.out.cell (World.block_lt_of_cell? w _ hx613_4)).trans hx613_4
                        replace p613 := eq_true p613
                        replace q613 := eq_true q613
                        go_wp2_with (first | ((with_reducible refine gate_dst (N := 4) rfl ?_); (try (refine gate_guard (by rfl) ?_; dsimp only)); refine box_event ?hg (N := 4) ?hd (cs := #[.int .i64 0, .int .i64 0, .int .i64 0, .int .i64 0, .int .i64 0]) (t := 103) ?hr ?_; (case hd => rfl); (case hg => rfl); (case hr => first | (go_simp; done) | (go_simp; rfl)); intro gb614 hg w68 hbox hb; have n0_ := Aside0.mk (blk_below (g := gb612) (o := .cells #[.bool false, .slice (some ad613) l0_1.length c0_1] 54 (0, 0)) (by (with_reducible repeat (first | refine blk_drewN ?_ _ | refine blk_drew ?_ | refine blk_alloc ?_ _)); exact BK612.out) hb); have n1_ := Aside0.mk (below_step (by repeat (first | (with_reducible first | exact HB.out | apply below_alloc | apply pw_below_drewN | apply below_drew1 | refine below_set ?_ GE612.out) | exact HB.out)) hb); have n2_ := Aside0.mk (hbox); have n3_ := Aside0.mk ((by rw [hg]; exact (below_size (by repeat (first | (with_reducible first | exact HB.out | apply below_alloc | apply pw_below_drewN | apply below_drew1 | refine below_set ?_ GE612.out) | exact HB.out))) : w.heap.size ≤ gb614)); have n4_ := Aside0.mk ((by rw [hg]; exact (below_size (by repeat (first | (with_reducible first | exact HB.out | apply below_alloc | apply pw_below_drewN | apply below_drew1 | refine below_set ?_ GE612.out) | exact HB.out))) : w.heap.size ≤ gb614)); have n5_ := Aside0.mk ((by rw [hg]; exact Nat.ne_of_lt (blk_lt (g := gb612) (o := .cells #[.bool false, .slice (some ad613) l0_1.length c0_1] 54 (0, 0)) (by (with_reducible repeat (first | refine blk_drewN ?_ _ | refine blk_drew ?_ | refine blk_alloc ?_ _)); exact BK612.out)) : gb612 ≠ gb614)); have n6_ := Aside0.mk ((by rw [hg]; exact Nat.ne_of_gt (blk_lt (g := gb612) (o := .cells #[.bool false, .slice (some ad613) l0_1.length c0_1] 54 (0, 0)) (by (with_reducible repeat (first | refine blk_drewN ?_ _ | refine blk_drew ?_ | refine blk_alloc ?_ _)); exact BK612.out)) : gb614 ≠ gb612)); clear BK612; clear HB; have BK612 := n0_; have HB := n1_; have BK614 := n2_; have GW614 := n3_; have GE614 := n4_; have NB612_614 := n5_; have NB614_612 := n6_; clear n0_ n1_ n2_ n3_ n4_ n5_ n6_; clear hb hbox hg; have hnb69 := NB614_612.out; have hnc69 := NB612_614.out; have hcz70_0 : w68.cell? ⟨gb614, 0, none⟩ = some (.int .i64 0) := (blk_cell BK614.out 0).trans rfl; have hcz70_1 : w68.cell? ⟨gb614, 1, none⟩ = some (.int .i64 0) := (blk_cell BK614.out 1).trans rfl; have hcz70_2 : w68.cell? ⟨gb614, 2, none⟩ = some (.int .i64 0) := (blk_cell BK614.out 2).trans rfl; have hcz70_3 : w68.cell? ⟨gb614, 3, none⟩ = some (.int .i64 0) := (blk_cell BK614.out 3).trans rfl; have hcz70_4 : w68.cell? ⟨gb614, 4, none⟩ = some (.int .i64 0) := (blk_cell BK614.out 4).trans rfl; have hfz70_0 := blk_frozen BK614.out 0; have hfz70_1 := blk_frozen BK614.out 1; have hfz70_2 := blk_frozen BK614.out 2; have hfz70_3 := blk_frozen BK614.out 3; have hfz70_4 := blk_frozen BK614.out 4; have hcz71_0 : w68.cell? ⟨gb612, 0, none⟩ = some (.bool false) := (blk_cell BK612.out 0).trans rfl; have hcz71_1 : w68.cell? ⟨gb612, 1, none⟩ = some (.slice (some ad613) l0_1.length c0_1) := (blk_cell BK612.out 1).trans rfl; have hfz71_0 := blk_frozen BK612.out 0; have hfz71_1 := blk_frozen BK612.out 1) | (go_at_call 88; (with_reducible refine (impl_in.calls ((rd_T103 l0_1 x23_2).f0) 0 47 true _ A46.out).mono ?_); rintro e w' ⟨rfl, ⟨nd, rfl⟩⟩) | (go_at_call 112; (with_reducible refine (impl_BoxOk.calls ((rd_T103 l0_1 x23_2).f1.f0) ((rd_T103 l0_1 x23_2).f1.f1) ((rd_T103 l0_1 x23_2).f1.f2) ((rd_T103 l0_1 x23_2).f1.f3) false _ A48.out).mono ?_); rintro e w72 ⟨rfl, hb⟩; have n0_ := Aside0.mk (blk_below (g := gb612) (o := .cells #[.bool false, .slice (some ad613) l0_1.length c0_1] 54 (0, 0)) (by (with_reducible repeat (first | refine blk_drewN ?_ _ | refine blk_drew ?_ | refine blk_alloc ?_ _)); refine blk_far ?_ NB612_614.out _; (with_reducible repeat (first | refine blk_drewN ?_ _ | refine blk_drew ?_ | refine blk_alloc ?_ _)); refine blk_far ?_ NB612_614.out _; (with_reducible repeat (first | refine blk_drewN ?_ _ | refine blk_drew ?_ | refine blk_alloc ?_ _)); refine blk_far ?_ NB612_614.out _; (with_reducible repeat (first | refine blk_drewN ?_ _ | refine blk_drew ?_ | refine blk_alloc ?_ _)); refine blk_far ?_ NB612_614.out _; (with_reducible repeat (first | refine blk_drewN ?_ _ | refine blk_drew ?_ | refine blk_alloc ?_ _)); refine blk_far ?_ NB612_614.out _; (with_reducible repeat (first | refine blk_drewN ?_ _ | refine blk_drew ?_ | refine blk_alloc ?_ _)); exact BK612.out) hb); have n1_ := Aside0.mk (blk_below (g := gb614) (o := .cells #[.int .i64 ((rd_T103 l0_1 x23_2).f0), .int .i64 ((rd_T103 l0_1 x23_2).f1.f0), .int .i64 ((rd_T103 l0_1 x23_2).f1.f1), .int .i64 ((rd_T103 l0_1 x23_2).f1.f2), .int .i64 ((rd_T103 l0_1 x23_2).f1.f3)] 103 (0, 0)) (by (with_reducible repeat (first | refine blk_drewN ?_ _ | refine blk_drew ?_ | refine blk_alloc ?_ _)); refine blk_put (cs := #[.int .i64 ((rd_T103 l0_1 x23_2).f0), .int .i64 ((rd_T103 l0_1 x23_2).f1.f0), .int .i64 ((rd_T103 l0_1 x23_2).f1.f1), .int .i64 ((rd_T103 l0_1 x23_2).f1.f2), .int .i64 0]) ?_ 4 _ rfl; (with_reducible repeat (first | refine blk_drewN ?_ _ | refine blk_drew ?_ | refine blk_alloc ?_ _)); refine blk_put (cs := #[.int .i64 ((rd_T103 l0_1 x23_2).f0), .int .i64 ((rd_T103 l0_1 x23_2).f1.f0), .int .i64 ((rd_T103 l0_1 x23_2).f1.f1), .int .i64 0, .int .i64 0]) ?_ 3 _ rfl; (with_reducible repeat (first | refine blk_drewN ?_ _ | refine blk_drew ?_ | refine blk_alloc ?_ _)); refine blk_put (cs := #[.int .i64 ((rd_T103 l0_1 x23_2).f0), .int .i64 ((rd_T103 l0_1 x23_2).f1.f0), .int .i64 0, .int .i64 0, .int .i64 0]) ?_ 2 _ rfl; (with_reducible repeat (first | refine blk_drewN ?_ _ | refine blk_drew ?_ | refine blk_alloc ?_ _)); refine blk_put (cs := #[.int .i64 ((rd_T103 l0_1 x23_2).f0), .int .i64 0, .int .i64 0, .int .i64 0, .int .i64 0]) ?_ 1 _ rfl; (with_reducible repeat (first | refine blk_drewN ?_ _ | refine blk_drew ?_ | refine blk_alloc ?_ _)); refine blk_put (cs := #[.int .i64 0, .int .i64 0, .int .i64 0, .int .i64 0, .int .i64 0]) ?_ 0 _ rfl; (with_reducible repeat (first | refine blk_drewN ?_ _ | refine blk_drew ?_ | refine blk_alloc ?_ _)); exact BK614.out) hb); have n2_ := Aside0.mk (below_step (by repeat (first | (with_reducible first | exact HB.out | apply below_alloc | apply pw_below_drewN | apply below_drew1 | refine below_set ?_ GE612.out | refine below_set ?_ GE614.out) | exact HB.out)) hb); clear BK612; clear BK614; clear HB; have BK612 := n0_; have BK614 := n1_; have HB := n2_; clear n0_ n1_ n2_; (try clear hb); (try clear hb2); (try clear hk); (try clear hi)))
                        go_ret
                        exact ⟨by first | rfl | (simp [errW_none, errW_some] <;> rfl) | (simp [*, errW_none, errW_some] <;> rfl), by repeat (first | (with_reducible first | exact HB.out | apply below_alloc | apply pw_below_drewN | apply below_drew1 | refine below_set ?_ GE612.out | refine below_set ?_ GE614.out) | exact HB.out)⟩
                    · replace c47 := Bool.eq_false_iff.mpr c47
                      subst c47
                      have H1 : (some false) = some r := by rw [if_neg (show ¬ (false = true) by decide)] at H; exact H
                      clear H
                      have H := H1
                      clear H1
                      obtain rfl := Option.some.inj H
                      have p613 : 0 ≤ (x23_2 : Int) := of_decide_eq_true (by first | (with_reducible assumption) | assumption)
                      have q613 : x23_2 < (l0_1.length : Int) := of_decide_eq_true (by first | (with_reducible assumption) | assumption)
                      obtain ⟨ad613, e613, hx613_0, hx613_1, hx613_2, hx613_3, hx613_4⟩ := at_T103 HR0_1.out x23_2 p613 q613
                      cases e613
                      replace hx613_0 := (HB.out.cell (World.block_lt_of_cell? w _ hx613_0)).trans hx613_0
                      replace hx613_1 := (HB.out.cell (World.block_lt_of_cell? w _ hx613_1)).trans hx613_1
                      replace hx613_2 := (HB.out.cell (World.block_lt_of_cell? w _ hx613_2)).trans hx613_2
                      replace hx613_3 := (HB.out.cell (World.block_lt_of_cell? w _ hx613_3)).trans hx613_3
                      replace hx613_4 := (HB.out.cell (World.block_lt_of_cell? w _ hx613_4)).trans hx613_4
                      replace p613 := eq_true p613
                      replace q613 := eq_true q613
                      go_wp2_with (first | ((with_reducible refine gate_dst (N := 4) rfl ?_); (try (refine gate_guard (by rfl) ?_; dsimp only)); refine box_event ?hg (N := 4) ?hd (cs := #[.int .i64 0, .int .i64 0, .int .i64 0, .int .i64 0, .int .i64 0]) (t := 103) ?hr ?_; (case hd => rfl); (case hg => rfl); (case hr => first | (go_simp; done) | (go_simp; rfl)); intro gb614 hg w73 hbox hb; have n0_ := Aside0.mk (blk_below (g := gb612) (o := .cells #[.bool false, .slice (some ad613) l0_1.length c0_1] 54 (0, 0)) (by (with_reducible repeat (first | refine blk_drewN ?_ _ | refine blk_drew ?_ | refine blk_alloc ?_ _)); exact BK612.out) hb); have n1_ := Aside0.mk (below_step (by repeat (first | (with_reducible first | exact HB.out | apply below_alloc | apply pw_below_drewN | apply below_drew1 | refine below_set ?_ GE612.out) | exact HB.out)) hb); have n2_ := Aside0.mk (hbox); have n3_ := Aside0.mk ((by rw [hg]; exact (below_size (by repeat (first | (with_reducible first | exact HB.out | apply below_alloc | apply pw_below_drewN | apply below_drew1 | refine below_set ?_ GE612.out) | exact HB.out))) : w.heap.size ≤ gb614)); have n4_ := Aside0.mk ((by rw [hg]; exact (below_size (by repeat (first | (with_reducible first | exact HB.out | apply below_alloc | apply pw_below_drewN | apply below_drew1 | refine below_set ?_ GE612.out) | exact HB.out))) : w.heap.size ≤ gb614)); have n5_ := Aside0.mk ((by rw [hg]; exact Nat.ne_of_lt (blk_lt (g := gb612) (o := .cells #[.bool false, .slice (some ad613) l0_1.length c0_1] 54 (0, 0)) (by (with_reducible repeat (first | refine blk_drewN ?_ _ | refine blk_drew ?_ | refine blk_alloc ?_ _)); exact BK612.out)) : gb612 ≠ gb614)); have n6_ := Aside0.mk ((by rw [hg]; exact Nat.ne_of_gt (blk_lt (g := gb612) (o := .cells #[.bool false, .slice (some ad613) l0_1.length c0_1] 54 (0, 0)) (by (with_reducible repeat (first | refine blk_drewN ?_ _ | refine blk_drew ?_ | refine blk_alloc ?_ _)); exact BK612.out)) : gb614 ≠ gb612)); clear BK612; clear HB; have BK612 := n0_; have HB := n1_; have BK614 := n2_; have GW614 := n3_; have GE614 := n4_; have NB612_614 := n5_; have NB614_612 := n6_; clear n0_ n1_ n2_ n3_ n4_ n5_ n6_; clear hb hbox hg; have hnb74 := NB614_612.out; have hnc74 := NB612_614.out; have hcz75_0 : w73.cell? ⟨gb614, 0, none⟩ = some (.int .i64 0) := (blk_cell BK614.out 0).trans rfl; have hcz75_1 : w73.cell? ⟨gb614, 1, none⟩ = some (.int .i64 0) := (blk_cell BK614.out 1).trans rfl; have hcz75_2 : w73.cell? ⟨gb614, 2, none⟩ = some (.int .i64 0) := (blk_cell BK614.out 2).trans rfl; have hcz75_3 : w73.cell? ⟨gb614, 3, none⟩ = some (.int .i64 0) := (blk_cell BK614.out 3).trans rfl; have hcz75_4 : w73.cell? ⟨gb614, 4, none⟩ = some (.int .i64 0) := (blk_cell BK614.out 4).trans rfl; have hfz75_0 := blk_frozen BK614.out 0; have hfz75_1 := blk_frozen BK614.out 1; have hfz75_2 := blk_frozen BK614.out 2; have hfz75_3 := blk_frozen BK614.out 3; have hfz75_4 := blk_frozen BK614.out 4; have hcz76_0 : w73.cell? ⟨gb612, 0, none⟩ = some (.bool false) := (blk_cell BK612.out 0).trans rfl; have hcz76_1 : w73.cell? ⟨gb612, 1, none⟩ = some (.slice (some ad613) l0_1.length c0_1) := (blk_cell BK612.out 1).trans rfl; have hfz76_0 := blk_frozen BK612.out 0; have hfz76_1 := blk_frozen BK612.out 1) | (go_at_call 88; (with_reducible refine (impl_in.calls ((rd_T103 l0_1 x23_2).f0) 0 47 false _ A46.out).mono ?_); rintro e w' ⟨rfl, ⟨nd, rfl⟩⟩))
                      go_ret
                      exact ⟨by first | rfl | (simp [errW_none, errW_some] <;> rfl) | (simp [*, errW_none, errW_some] <;> rfl), by repeat (first | (with_reducible first | exact HB.out | apply below_alloc | apply pw_below_drewN | apply below_drew1 | refine below_set ?_ GE612.out | refine below_set ?_ GE614.out) | exact HB.out)⟩
                · rw [if_neg c13] at H
                  exact absurd H (by simp)
              · rw [if_neg c12] at H
                exact absurd H (by simp)
            · rw [if_neg c11] at H
              have c11b0 : decide (x23_2 < (l0_1.length : Int)) = false := decide_eq_false c11
              clear c11
              obtain rfl := Option.some.inj H
              go_wp2
              go_ret
              exact ⟨by first | rfl | (simp [errW_none, errW_some] <;> rfl) | (simp [*, errW_none, errW_some] <;> rfl), by repeat (first | (with_reducible first | exact HB.out | apply below_alloc | apply pw_below_drewN | apply below_drew1 | refine below_set ?_ GE612.out) | exact HB.out)⟩

end Go.Proofs.Ytngjaajcdbodeaa.All

namespace Go.Proofs.Ytngjaajcdbodeaa.All
open Go.RowKit Go.Proofs.YtngjaajcdbodeaaW.PrintWords Go.Proofs.YtngjaajcdbodeaaW.PrintLast Go.Proofs.YtngjaajcdbodeaaW.PrintMore
attribute [local go_sem] max2_int min2_int max_two min_two max_three min_three max_four min_four   -- for this text's walks alone
set_option linter.unusedVariables false
set_option linter.unusedSimpArgs false

theorem eqA32 (d : Nat) (w : World) (x0 y0 : Int) (x1 y1 : Int) (x2 y2 : Int) (x3 y3 : Int) :
    (Op.equalIn (d + 2) 32 (.agg #[.int .i64 x0, .int .i64 x1, .int .i64 x2, .int .i64 x3]) (.agg #[.int .i64 y0, .int .i64 y1, .int .i64 y2, .int .i64 y3])).run Try.prog w = .ok (x0 == y0 && (x1 == y1 && (x2 == y2 && (x3 == y3)))) w := by
  refine eqA_of Try.underlying32 (by kernel_rfl) ?_
  refine eqf_cons (by rfl) (by go_simp; rfl) (by go_simp; rfl) (by go_simp) ?_
  refine eqf_cons (by rfl) (by go_simp; rfl) (by go_simp; rfl) (by go_simp) ?_
  refine eqf_cons (by rfl) (by go_simp; rfl) (by go_simp; rfl) (by go_simp) ?_
  exact eqf_last (by rfl) (by go_simp; rfl) (by go_simp; rfl) (by go_simp)
end Go.Proofs.Ytngjaajcdbodeaa.All

namespace Go.Proofs.Ytngjaajcdbodeaa.All
open Go.RowKit Go.Proofs.YtngjaajcdbodeaaW.PrintWords Go.Proofs.YtngjaajcdbodeaaW.PrintLast Go.Proofs.YtngjaajcdbodeaaW.PrintMore
attribute [local go_sem] max2_int min2_int max_two min_two max_three min_three max_four min_four   -- for this text's walks alone
set_option linter.unusedVariables false
set_option linter.unusedSimpArgs false

theorem eqA103 (d : Nat) (w : World) (x0 y0 : Int) (x1 y1 : Int) (x2 y2 : Int) (x3 y3 : Int) (x4 y4 : Int) :
    (Op.equalIn (d + 3) 103 (.agg #[.int .i64 x0, .int .i64 x1, .int .i64 x2, .int .i64 x3, .int .i64 x4]) (.agg #[.int .i64 y0, .int .i64 y1, .int .i64 y2, .int .i64 y3, .int .i64 y4])).run Try.prog w = .ok (x0 == y0 && ((x1 == y1 && (x2 == y2 && (x3 == y3 && (x4 == y4)))))) w := by
  refine eqA_of Try.underlying103 (by kernel_rfl) ?_
  refine eqf_cons (by rfl) (by go_simp; rfl) (by go_simp; rfl) (by go_simp) ?_
  exact eqf_last (by rfl) (by go_simp) (by go_simp) (eqA32 (d + 0) w _ _ _ _ _ _ _ _)
end Go.Proofs.Ytngjaajcdbodeaa.All

namespace Go.Proofs.Ytngjaajcdbodeaa.All
open Go.RowKit Go.Proofs.YtngjaajcdbodeaaW.PrintWords Go.Proofs.YtngjaajcdbodeaaW.PrintLast Go.Proofs.YtngjaajcdbodeaaW.PrintMore
attribute [local go_sem] max2_int min2_int max_two min_two max_three min_three max_four min_four   -- for this text's walks alone
set_option linter.unusedVariables false
set_option linter.unusedSimpArgs false

attribute [local go_sem high] eqA103
/-! ### slices_Equal_Entry: function 126 -/
def slices_Equal_Entry.l0 : Nat → List (S103) → List (S103) → Int → Int → Option (Bool)
  | 0, _, _, _, _ => none
  | k + 1, x0, x1, x12, x13 => if x13 < x12 then (if 0 ≤ x13 then (if x13 < (x0.length : Int) then (if x13 < (x1.length : Int) then (if (!(((rd_T103 x0 x13).f0) == ((rd_T103 x1 x13).f0)) || ((!(((rd_T103 x0 x13).f1.f0) == ((rd_T103 x1 x13).f1.f0)) || (!(((rd_T103 x0 x13).f1.f1) == ((rd_T103 x1 x13).f1.f1)) || (!(((rd_T103 x0 x13).f1.f2) == ((rd_T103 x1 x13).f1.f2)) || (!(((rd_T103 x0 x13).f1.f3) == ((rd_T103 x1 x13).f1.f3)))))))) = true then (some false) else (slices_Equal_Entry.l0 k x0 x1 x12 (wrap64 (x13 + 1)))) else (none)) else (none)) else (none)) else (some true)
def slices_Equal_Entry.f (k : Nat) (l0 : List (S103)) (l1 : List (S103)) : Option (Bool) := if (l0.length : Int) = (l1.length : Int) then (slices_Equal_Entry.l0 k l0 l1 (l0.length : Int) 0) else (some false)
theorem slices_Equal_Entry.mono_l : ∀ k, (∀ y0 y1 y2 y3, LeO (slices_Equal_Entry.l0 k y0 y1 y2 y3) (slices_Equal_Entry.l0 (k + 1) y0 y1 y2 y3))
  | 0 => fun _ _ _ _ r h => by simp [slices_Equal_Entry.l0] at h
  | k + 1 => by
    have ih0 := slices_Equal_Entry.mono_l k
    · intro y0 y1 y2 y3
      unfold slices_Equal_Entry.l0
      repeat' first
      | (with_reducible exact ih0 _ _ _ _)
      | (with_reducible exact LeO.refl _)
      | (with_reducible exact LeO.none _)
      | (with_reducible refine LeO.ite ?_ ?_)
      | (with_reducible refine LeO.bind ?_ (fun _ => ?_))
      | exact ih0 _ _ _ _
      | exact LeO.none _
      | refine LeO.ite ?_ ?_
      | refine LeO.bind ?_ (fun _ => ?_)
theorem slices_Equal_Entry.mono : ∀ a0 a1 k, LeO (slices_Equal_Entry.f k a0 a1) (slices_Equal_Entry.f (k + 1) a0 a1) := by
  intro a0 a1 k
  have ih0 := slices_Equal_Entry.mono_l k
  unfold slices_Equal_Entry.f
  repeat' first
      | (with_reducible exact ih0 _ _ _ _)
      | (with_reducible exact LeO.refl _)
      | (with_reducible exact LeO.none _)
      | (with_reducible refine LeO.ite ?_ ?_)
      | (with_reducible refine LeO.bind ?_ (fun _ => ?_))
      | exact ih0 _ _ _ _
      | exact LeO.none _
      | refine LeO.ite ?_ ?_
      | refine LeO.bind ?_ (fun _ => ?_)
set_option maxHeartbeats 8000000 in
set_option maxRecDepth 100000 in
theorem slices_Equal_Entry.calls (k : Nat) (A0 : Option Addr) (c0 : Nat) (l0 : List (S103)) (A1 : Option Addr) (c1 : Nat) (l1 : List (S103)) (r : Bool) (w : World) (hr0 : Kd.C k103 w A0 l0.length l0) (hc0 : l0.length ≤ c0) (hr1 : Kd.C k103 w A1 l1.length l1) (hc1 : l1.length ≤ c1) (h : slices_Equal_Entry.f k l0 l1 = some r) :
    Calls Try.prog 126 #[.slice A0 l0.length c0, .slice A1 l1.length c1] w fun e w' => e = .returned (.bool r) ∧ Drawn0 w w' := by
  have hu103 := Try.underlying103
  have HR0 := Aside0.mk hr0
  have HC0 := Aside0.mk hc0
  clear hr0 hc0
  have HR1 := Aside0.mk hr1
  have HC1 := Aside0.mk hc1
  clear hr1 hc1
  have H : (if (l0.length : Int) = (l1.length : Int) then (slices_Equal_Entry.l0 k l0 l1 (l0.length : Int) 0) else (some false)) = some r := h
  clear h
  by_cases c3 : (l0.length : Int) = (l1.length : Int)
  · rw [if_pos c3] at H
    have c3b0 : ((l0.length : Int) == (l1.length : Int)) = true := beq_iff_eq.mpr c3
    have c3b1 : ((l0.length : Int) != (l1.length : Int)) = false := bne_eq_false_iff_eq.mpr c3
    have c3b2 : (l0.length == l1.length) = true := by first | simpa using c3 | (simp at c3 ⊢; omega)
    clear c3
    have H' := Aside0.mk H
    clear H
    go_enter Try.func126, Try.ntmps126
    go_wp2
    repeat (go_quiet (fail); try go_wp2)
    go_loopg [13] k (fun kq v13 w' => ∃ (x13_1 : Int), v13 = .int .i64 x13_1 ∧ Aside0 (slices_Equal_Entry.l0 kq l0 l1 (l0.length : Int) x13_1 = some r) ∧ Aside0 (kq ≤ k) ∧ Drawn0 w w')
    case atStart => exact ⟨(0), (by first | rfl | (simp; done) | (simp [*]; done)), H', ⟨Nat.le_refl _⟩, by repeat (first | exact Drawn0.refl _ | apply Drawn0.step)⟩
    case round =>
      clear H'
      try clear c1
      try clear p2
      try clear c3
      try clear c3b0
      try clear c3b1
      try clear c3b2
      obtain ⟨x13_1, rfl, HA, HK1, ⟨m1, rfl⟩⟩ := hrel
      cases gk with
      | zero => exact absurd HA.out (by simp [slices_Equal_Entry.l0])
      | succ k1 =>
        have H := HA.out
        clear HA
        simp only [slices_Equal_Entry.l0] at H
        by_cases c4 : x13_1 < (l0.length : Int)
        · rw [if_pos c4] at H
          have c4b0 : decide (x13_1 < (l0.length : Int)) = true := decide_eq_true c4
          clear c4
          by_cases c5 : 0 ≤ x13_1
          · rw [if_pos c5] at H
            have c5b0 : decide (0 ≤ x13_1) = true := decide_eq_true c5
            clear c5
            by_cases c6 : x13_1 < (l0.length : Int)
            · rw [if_pos c6] at H
              have c6b0 : decide (x13_1 < (l0.length : Int)) = true := decide_eq_true c6
              clear c6
              by_cases c7 : x13_1 < (l1.length : Int)
              · rw [if_pos c7] at H
                have c7b0 : decide (x13_1 < (l1.length : Int)) = true := decide_eq_true c7
                clear c7
                by_cases c8 : (!(((rd_T103 l0 x13_1).f0) == ((rd_T103 l1 x13_1).f0)) || ((!(((rd_T103 l0 x13_1).f1.f0) == ((rd_T103 l1 x13_1).f1.f0)) || (!(((rd_T103 l0 x13_1).f1.f1) == ((rd_T103 l1 x13_1).f1.f1)) || (!(((rd_T103 l0 x13_1).f1.f2) == ((rd_T103 l1 x13_1).f1.f2)) || (!(((rd_T103 l0 x13_1).f1.f3) == ((rd_T103 l1 x13_1).f1.f3)))))))) = true
                · rw [if_pos c8] at H
                  have c8b0 : (!(((rd_T103 l0 x13_1).f0) == ((rd_T103 l1 x13_1).f0)) || ((!(((rd_T103 l0 x13_1).f1.f0) == ((rd_T103 l1 x13_1).f1.f0)) || (!(((rd_T103 l0 x13_1).f1.f1) == ((rd_T103 l1 x13_1).f1.f1)) || (!(((rd_T103 l0 x13_1).f1.f2) == ((rd_T103 l1 x13_1).f1.f2)) || (!(((rd_T103 l0 x13_1).f1.f3) == ((rd_T103 l1 x13_1).f1.f3)))))))) = true := c8
                  clear c8
                  obtain rfl := Option.some.inj H
                  have p621 : 0 ≤ (x13_1 : Int) := of_decide_eq_true (by first | (with_reducible assumption) | assumption)
                  have q621 : x13_1 < (l0.length : Int) := of_decide_eq_true (by first | (with_reducible assumption) | assumption)
                  obtain ⟨ad621, e621, hx621_0, hx621_1, hx621_2, hx621_3, hx621_4⟩ := at_T103 HR0.out x13_1 p621 q621
                  cases e621
                  replace p621 := eq_true p621
                  replace q621 := eq_true q621
                  have p622 : 0 ≤ (x13_1 : Int) := of_decide_eq_true (by first | (with_reducible assumption) | assumption)
                  have q622 : x13_1 < (l1.length : Int) := of_decide_eq_true (by first | (with_reducible assumption) | assumption)
                  obtain ⟨ad622, e622, hx622_0, hx622_1, hx622_2, hx622_3, hx622_4⟩ := at_T103 HR1.out x13_1 p622 q622
                  cases e622
                  replace p622 := eq_true p622
                  replace q622 := eq_true q622
                  go_wp2
                  repeat (go_quiet (fail); try go_wp2)
                  go_ret
                  exact ⟨by first | rfl | (simp; done) | (simp [*]; done), by repeat (first | exact Drawn0.refl _ | apply Drawn0.step)⟩
                · rw [if_neg c8] at H
                  have c8b0 : (!(((rd_T103 l0 x13_1).f0) == ((rd_T103 l1 x13_1).f0)) || ((!(((rd_T103 l0 x13_1).f1.f0) == ((rd_T103 l1 x13_1).f1.f0)) || (!(((rd_T103 l0 x13_1).f1.f1) == ((rd_T103 l1 x13_1).f1.f1)) || (!(((rd_T103 l0 x13_1).f1.f2) == ((rd_T103 l1 x13_1).f1.f2)) || (!(((rd_T103 l0 x13_1).f1.f3) == ((rd_T103 l1 x13_1).f1.f3)))))))) = false := by simpa using c8
                  clear c8
                  have H' := Aside0.mk H
                  clear H
                  have p621 : 0 ≤ (x13_1 : Int) := of_decide_eq_true (by first | (with_reducible assumption) | assumption)
                  have q621 : x13_1 < (l0.length : Int) := of_decide_eq_true (by first | (with_reducible assumption) | assumption)
                  obtain ⟨ad621, e621, hx621_0, hx621_1, hx621_2, hx621_3, hx621_4⟩ := at_T103 HR0.out x13_1 p621 q621
                  cases e621
                  replace p621 := eq_true p621
                  replace q621 := eq_true q621
                  have p622 : 0 ≤ (x13_1 : Int) := of_decide_eq_true (by first | (with_reducible assumption) | assumption)
                  have q622 : x13_1 < (l1.length : Int) := of_decide_eq_true (by first | (with_reducible assumption) | assumption)
                  obtain ⟨ad622, e622, hx622_0, hx622_1, hx622_2, hx622_3, hx622_4⟩ := at_T103 HR1.out x13_1 p622 q622
                  cases e622
                  replace p622 := eq_true p622
                  replace q622 := eq_true q622
                  go_wp2
                  repeat (go_quiet (fail); try go_wp2)
                  go_roundg k1
                  case measure => have := HK1.out; omega
                  case rel => exact ⟨(wrap64 (x13_1 + 1)), (by first | rfl | (simp; done) | (simp [*]; done)), H', ⟨by have := HK1.out; omega⟩, by repeat (first | exact Drawn0.refl _ | apply Drawn0.step)⟩
              · rw [if_neg c7] at H
                exact absurd H (by simp)
            · rw [if_neg c6] at H
              exact absurd H (by simp)
          · rw [if_neg c5] at H
            exact absurd H (by simp)
        · rw [if_neg c4] at H
          have c4b0 : decide (x13_1 < (l0.length : Int)) = false := decide_eq_false c4
          clear c4
          obtain rfl := Option.some.inj H
          go_wp2
          repeat (go_quiet (fail); try go_wp2)
          go_ret
          exact ⟨by first | rfl | (simp; done) | (simp [*]; done), by repeat (first | exact Drawn0.refl _ | apply Drawn0.step)⟩
  · rw [if_neg c3] at H
    have c3b0 : ((l0.length : Int) == (l1.length : Int)) = false := beq_eq_false_iff_ne.mpr c3
    have c3b1 : ((l0.length : Int) != (l1.length : Int)) = true := bne_iff_ne.mpr c3
    have c3b2 : (l0.length == l1.length) = false := by first | simpa using c3 | (simp at c3 ⊢; omega)
    obtain rfl := Option.some.inj H
    go_enter Try.func126, Try.ntmps126
    go_wp2
    repeat (go_quiet (fail); try go_wp2)
    go_ret
    exact ⟨by first | rfl | (simp; done) | (simp [*]; done), by repeat (first | exact Drawn0.refl _ | apply Drawn0.step)⟩

end Go.Proofs.Ytngjaajcdbodeaa.All
