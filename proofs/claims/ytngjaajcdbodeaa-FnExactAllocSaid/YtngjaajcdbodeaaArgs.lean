/- What reads as data of the laws' argument types is of their kinds. -/
import Derived.Test.YtngjaajcdbodeaaOpen
import Derived.Test.YtngjaajcdbodeaaAllx0
import Derived.KernelRfl
namespace Go.Proofs.Ytngjaajcdbodeaa.Op
open Go.Proofs.Ytngjaajcdbodeaa.All Go.Proofs.YtngjaajcdbodeaaW.PrintWords
def good3 (n : Int) : Prop := goodInt n
theorem op3 : Opens Try.prog 3 (Kd.int .i64) good3 := opens_int Try.underlying3
def good4 (_ : Bool) : Prop := True
theorem op4 : Opens Try.prog 4 Kd.bool good4 := opens_bool Try.underlying4
def good24 (x : S24) : Prop := good3 x.f0 ∧ good3 x.f1 ∧ good3 x.f2 ∧ good3 x.f3
theorem op24 : Opens Try.prog 24 k24 good24 := opens_int4 (fun x : S24 => (x.f0, x.f1, x.f2, x.f3)) (fun a b c d => ⟨a, b, c, d⟩) (fun _ _ _ _ => rfl) Try.underlying24 (by kernel_rfl) rfl rfl rfl rfl (by kernel_rfl) (by kernel_rfl) (by kernel_rfl) (by kernel_rfl) op3 op3 op3 op3
def good122 (x : S122) : Prop := good3 x.f0 ∧ good24 x.f1
theorem op122 : Opens Try.prog 122 k122 good122 := opens_pair2 (d0 := (Kd.int .i64)) (d1 := k24) (fun x : S122 => (x.f0, x.f1)) (fun a b => ⟨a, b⟩) (fun _ _ => rfl) Try.underlying122 (by kernel_rfl) rfl rfl (by kernel_rfl) (by kernel_rfl) op3 op24
def good42 (xs : List (S122)) : Prop := xs.length ≤ 9223372036854775807 ∧ ∀ y ∈ xs, good122 y
theorem op42 : Opens Try.prog 42 (Kd.slice 122 k122) good42 := opens_slice Try.underlying42 (by kernel_rfl) op122
def good44 (x : S44) : Prop := good4 x.f0 ∧ good42 x.f1
theorem op44 : Opens Try.prog 44 k44 good44 := opens_pair2 (d0 := Kd.bool) (d1 := (Kd.slice 122 k122)) (fun x : S44 => (x.f0, x.f1)) (fun a b => ⟨a, b⟩) (fun _ _ => rfl) Try.underlying44 (by kernel_rfl) rfl rfl (by kernel_rfl) (by kernel_rfl) op4 op42
def good118 (x : S118) : Prop := good4 x.f0 ∧ good44 x.f1
theorem op118 : Opens Try.prog 118 k118 good118 := opens_pair2 (d0 := Kd.bool) (d1 := k44) (fun x : S118 => (x.f0, x.f1)) (fun a b => ⟨a, b⟩) (fun _ _ => rfl) Try.underlying118 (by kernel_rfl) rfl rfl (by kernel_rfl) (by kernel_rfl) op4 op44
def good39 (xs : List (S118)) : Prop := xs.length ≤ 9223372036854775807 ∧ ∀ y ∈ xs, good118 y
theorem op39 : Opens Try.prog 39 (Kd.slice 118 k118) good39 := opens_slice Try.underlying39 (by kernel_rfl) op118
def good41 (x : (Int × List (S118))) : Prop := good3 x.1 ∧ good39 x.2
theorem op41 : Opens Try.prog 41 (Kd.iso (Kd.pair (Kd.int .i64) (Kd.slice 118 k118)) (fun x : (Int × List (S118)) => x)) good41 := opens_pair2 (d0 := (Kd.int .i64)) (d1 := (Kd.slice 118 k118)) (fun x : (Int × List (S118)) => x) (fun a b => (a, b)) (fun _ _ => rfl) Try.underlying41 (by kernel_rfl) rfl rfl (by kernel_rfl) (by kernel_rfl) op3 op39
end Go.Proofs.Ytngjaajcdbodeaa.Op
