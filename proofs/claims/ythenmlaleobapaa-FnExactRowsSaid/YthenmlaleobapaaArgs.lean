/- What reads as data of the laws' argument types is of their kinds. -/
import Derived.Test.YthenmlaleobapaaOpen
import Derived.Test.YthenmlaleobapaaAllx0
import Derived.KernelRfl
namespace Go.Proofs.Ythenmlaleobapaa.Op
open Go.Proofs.Ythenmlaleobapaa.All Go.Proofs.YthenmlaleobapaaW.PrintWords
def good3 (n : Int) : Prop := goodInt n
theorem op3 : Opens Try.prog 3 (Kd.int .i64) good3 := opens_int Try.underlying3
def good4 (_ : Bool) : Prop := True
theorem op4 : Opens Try.prog 4 Kd.bool good4 := opens_bool Try.underlying4
def good70 (x : S70) : Prop := good3 x.f0 ∧ good3 x.f1 ∧ good3 x.f2 ∧ good3 x.f3
theorem op70 : Opens Try.prog 70 k70 good70 := opens_int4 (fun x : S70 => (x.f0, x.f1, x.f2, x.f3)) (fun a b c d => ⟨a, b, c, d⟩) (fun _ _ _ _ => rfl) Try.underlying70 (by kernel_rfl) rfl rfl rfl rfl (by kernel_rfl) (by kernel_rfl) (by kernel_rfl) (by kernel_rfl) op3 op3 op3 op3
def good86 (x : S86) : Prop := good3 x.f0 ∧ good70 x.f1
theorem op86 : Opens Try.prog 86 k86 good86 := opens_pair2 (d0 := (Kd.int .i64)) (d1 := k70) (fun x : S86 => (x.f0, x.f1)) (fun a b => ⟨a, b⟩) (fun _ _ => rfl) Try.underlying86 (by kernel_rfl) rfl rfl (by kernel_rfl) (by kernel_rfl) op3 op70
def good40 (xs : List (S86)) : Prop := xs.length ≤ 9223372036854775807 ∧ ∀ y ∈ xs, good86 y
theorem op40 : Opens Try.prog 40 (Kd.slice 86 k86) good40 := opens_slice Try.underlying40 (by kernel_rfl) op86
def good100 (x : S100) : Prop := good4 x.f0 ∧ good40 x.f1
theorem op100 : Opens Try.prog 100 k100 good100 := opens_pair2 (d0 := Kd.bool) (d1 := (Kd.slice 86 k86)) (fun x : S100 => (x.f0, x.f1)) (fun a b => ⟨a, b⟩) (fun _ _ => rfl) Try.underlying100 (by kernel_rfl) rfl rfl (by kernel_rfl) (by kernel_rfl) op4 op40
def good102 (x : S102) : Prop := good4 x.f0 ∧ good100 x.f1
theorem op102 : Opens Try.prog 102 k102 good102 := opens_pair2 (d0 := Kd.bool) (d1 := k100) (fun x : S102 => (x.f0, x.f1)) (fun a b => ⟨a, b⟩) (fun _ _ => rfl) Try.underlying102 (by kernel_rfl) rfl rfl (by kernel_rfl) (by kernel_rfl) op4 op100
def good29 (xs : List (S102)) : Prop := xs.length ≤ 9223372036854775807 ∧ ∀ y ∈ xs, good102 y
theorem op29 : Opens Try.prog 29 (Kd.slice 102 k102) good29 := opens_slice Try.underlying29 (by kernel_rfl) op102
def good31 (x : (Int × List (S102))) : Prop := good3 x.1 ∧ good29 x.2
theorem op31 : Opens Try.prog 31 (Kd.iso (Kd.pair (Kd.int .i64) (Kd.slice 102 k102)) (fun x : (Int × List (S102)) => x)) good31 := opens_pair2 (d0 := (Kd.int .i64)) (d1 := (Kd.slice 102 k102)) (fun x : (Int × List (S102)) => x) (fun a b => (a, b)) (fun _ _ => rfl) Try.underlying31 (by kernel_rfl) rfl rfl (by kernel_rfl) (by kernel_rfl) op3 op29
end Go.Proofs.Ythenmlaleobapaa.Op
