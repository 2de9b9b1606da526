/- What reads as data of the laws' argument types is of their kinds. -/
import Derived.Test.YtdfdahoceohcjaaOpen
import Derived.Test.YtdfdahoceohcjaaAllx0
import Derived.KernelRfl
namespace Go.Proofs.Ytdfdahoceohcjaa.Op
open Go.Proofs.Ytdfdahoceohcjaa.All Go.Proofs.YtdfdahoceohcjaaW.PrintWords
def good3 (n : Int) : Prop := goodInt n
theorem op3 : Opens Try.prog 3 (Kd.int .i64) good3 := opens_int Try.underlying3
def good25 (x : S25) : Prop := good3 x.f0 ∧ good3 x.f1 ∧ good3 x.f2 ∧ good3 x.f3
theorem op25 : Opens Try.prog 25 k25 good25 := opens_int4 (fun x : S25 => (x.f0, x.f1, x.f2, x.f3)) (fun a b c d => ⟨a, b, c, d⟩) (fun _ _ _ _ => rfl) Try.underlying25 (by kernel_rfl) rfl rfl rfl rfl (by kernel_rfl) (by kernel_rfl) (by kernel_rfl) (by kernel_rfl) op3 op3 op3 op3
def good76 (x : S76) : Prop := good3 x.f0 ∧ good25 x.f1
theorem op76 : Opens Try.prog 76 k76 good76 := opens_pair2 (d0 := (Kd.int .i64)) (d1 := k25) (fun x : S76 => (x.f0, x.f1)) (fun a b => ⟨a, b⟩) (fun _ _ => rfl) Try.underlying76 (by kernel_rfl) rfl rfl (by kernel_rfl) (by kernel_rfl) op3 op25
def good32 (xs : List (S76)) : Prop := xs.length ≤ 9223372036854775807 ∧ ∀ y ∈ xs, good76 y
theorem op32 : Opens Try.prog 32 (Kd.slice 76 k76) good32 := opens_slice Try.underlying32 (by kernel_rfl) op76
def good4 (_ : Bool) : Prop := True
theorem op4 : Opens Try.prog 4 Kd.bool good4 := opens_bool Try.underlying4
def good55 (x : (Bool × List (S76))) : Prop := good4 x.1 ∧ good32 x.2
theorem op55 : Opens Try.prog 55 (Kd.iso (Kd.pair Kd.bool (Kd.slice 76 k76)) (fun x : (Bool × List (S76)) => x)) good55 := opens_pair2 (d0 := Kd.bool) (d1 := (Kd.slice 76 k76)) (fun x : (Bool × List (S76)) => x) (fun a b => (a, b)) (fun _ _ => rfl) Try.underlying55 (by kernel_rfl) rfl rfl (by kernel_rfl) (by kernel_rfl) op4 op32
end Go.Proofs.Ytdfdahoceohcjaa.Op
