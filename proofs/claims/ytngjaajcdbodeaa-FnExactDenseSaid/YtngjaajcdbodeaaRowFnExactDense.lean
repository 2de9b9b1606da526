/- FnExactDense: for all arguments the law returns true. Condition: none. -/
import Derived.Test.YtngjaajcdbodeaaRows
import Derived.Test.YtngjaajcdbodeaaMgFnExactDense1
import Derived.Test.YtngjaajcdbodeaaMgFnExactDense2
import Derived.Test.YtngjaajcdbodeaaMgFnExactDense3
import Derived.Test.YtngjaajcdbodeaaMgFnExactDense4
import Derived.Test.YtngjaajcdbodeaaMgFnExactDense5
import Derived.Test.YtngjaajcdbodeaaMgFnExactDense6
import Derived.WalkKit
import Derived.ProofKit
import Derived.OpenShut
import Derived.ShutString
import Derived.ChangeOld
import Derived.Below
import Derived.SizedLaws
namespace Go.Proofs.Ytngjaajcdbodeaa.fnExactDense
open Go.ChangeShapes Go.WideShapes Go.ChangeAt Go.RowKit
open Go.Proofs.Ytngjaajcdbodeaa.All Go.Proofs.Ytngjaajcdbodeaa.Op Go.Proofs.YtngjaajcdbodeaaW.PrintWords
set_option linter.unusedVariables false
theorem own : ownKnob Try.prog.godebug = none := by kernel_rfl
theorem laidOut : laidOutB Try.prog = true := by kernel_rfl
set_option maxRecDepth 100000 in
theorem lifted (os : Os) (started : os.Started) (H : Type) (enc : TypeId × Value → H) :
    ReturnsInHanded {} Try.checked os 13 .any (Rows.fnExactDenseSpec.pre6 enc Try.prog Try.f13 Rows.fnExactDenseRow.domain false) (Rows.fnExactDenseSpec.post enc Try.prog Try.f13 false true false false) := by
  refine returnsInHanded_of_change_sized (C := Try.checked) own started (by kernel_rfl) Try.func13
    (ChangeSpec.witness6 (enc := enc) (C := Try.checked) false ⟨#[], #[.agg #[.int .i64 0, .slice none 0 0]], []⟩ 8 (by kernel_rfl) (by kernel_rfl) (by kernel_rfl) (by kernel_rfl)) ?_
  intro W base args ds gs before hval0 hW hcnd hsz0 _
  have hval : ∀ (j : Nat) t v, Try.f13.params[j]? = some t → args[j]? = some v → Value.okWide Try.prog W .any base t v := hval0
  have hW' := hW
  obtain ⟨p, q, hA0, hV, rfl, hfz, hnd⟩ := hW
  have hA : DataW.TrodAll enc Try.prog W 0 (fun _ => true) true Try.f13.params.toList args.toList ds p := hA0
  rw [Try.params13] at hA hval
  obtain ⟨v0, vs0, d0, ds0, p0, q0, hargs, rfl, rfl, h0, r0⟩ := trodAll_cons hA
  obtain ⟨rfl, rfl, rfl⟩ := trodAll_nil r0
  obtain rfl : args = #[v0] := by cases args; simp_all
  obtain ⟨rfl, rfl⟩ := trodVars_none hV
  have kk0 := h0
  have lt0 : ∀ x ∈ p0, x.block < W.heap.size := by obtain ⟨m, hm⟩ := kk0; exact DataW.trod_lt m _ _ _ hm
  obtain ⟨fu0, hf0⟩ := h0
  obtain ⟨y0, hK0, hg0⟩ := op41 hf0
  obtain ⟨ar0, rfl, _⟩ := okWide_struct Try.underlying41 (hval 0 41 v0 rfl rfl)
  obtain ⟨_, _, ec0, rfl, ⟨A0_1, c0_1, rfl, hc0_1, hC0_1⟩⟩ := hK0
  obtain rfl : ar0 = #[.int .i64 y0.1, .slice A0_1 y0.2.length c0_1] := by
    have e2 : ar0.toList = _ := ec0
    exact Array.toList_inj.mp e2
  clear hA0 hval0 hsz0
  obtain ⟨k, hp⟩ := Pure.FnExactDense y0 hg0
  refine (laws_FnExactDense.calls _ _ _ _ _ _ W (by assumption) (by assumption) hp).mono fun e W' ⟨he, bel⟩ => ?_
  subst he
  exact ⟨_, rfl, _, _, _, [], _, [], hW', trodAll_mk1 (shut_bool Try.underlying4 _), (trodAll_cons_mk (Below.trod laidOut (by kernel_rfl) (of_decide_eq_true (by kernel_rfl)) kk0 bel lt0) trodAll_mk0), rfl, bel.frame _, fun h => by cases h⟩
theorem over : Rows.fnExactDenseRow.holds Try.pinned (OpenSpec.ofChange Rows.fnExactDenseSpec) :=
  OpenClaim.holds_of_wide 13 Try.f13 rfl rfl rfl rfl rfl rfl rfl ⟨rfl, rfl, rfl, rfl, rfl⟩ rfl rfl rfl rfl rfl (by kernel_rfl) Try.func13 (by kernel_rfl)
    (of_decide_eq_true (by kernel_rfl)) (by unfold Func.isWrapper; first | (rw [if_pos (by decide +kernel)]; kernel_rfl) | (rw [if_neg (by decide +kernel)]; exact ⟨rfl, rfl⟩))
    (fun os started H enc _ => lifted os started H enc)
theorem proved : Rows.FnExactDenseSaid := over
#print axioms proved
end Go.Proofs.Ytngjaajcdbodeaa.fnExactDense
namespace Go.Proofs.Ytngjaajcdbodeaa
/-- The row, under a short name, for the claim. -/
theorem fnExactDense_holds : Rows.FnExactDenseSaid := fnExactDense.proved
end Go.Proofs.Ytngjaajcdbodeaa
