/- FnExactSearch: for all arguments the law returns true. Condition: none. -/
import Derived.Test.YtngjaajcdbodeaaRows
import Derived.Test.YtngjaajcdbodeaaMgFnExactSearch1
import Derived.Test.YtngjaajcdbodeaaMgFnExactSearch2
import Derived.Test.YtngjaajcdbodeaaMgFnExactSearch3
import Derived.Test.YtngjaajcdbodeaaMgFnExactSearch4
import Derived.Test.YtngjaajcdbodeaaMgFnExactSearch5
import Derived.Test.YtngjaajcdbodeaaMgFnExactSearch6
import Derived.WalkKit
import Derived.ProofKit
import Derived.OpenShut
import Derived.ShutString
import Derived.ChangeOld
import Derived.Below
import Derived.SizedLaws
namespace Go.Proofs.Ytngjaajcdbodeaa.fnExactSearch
open Go.ChangeShapes Go.WideShapes Go.ChangeAt Go.RowKit
open Go.Proofs.Ytngjaajcdbodeaa.All Go.Proofs.Ytngjaajcdbodeaa.Op Go.Proofs.YtngjaajcdbodeaaW.PrintWords
set_option linter.unusedVariables false
theorem own : ownKnob Try.prog.godebug = none := by kernel_rfl
theorem laidOut : laidOutB Try.prog = true := by kernel_rfl
set_option maxRecDepth 100000 in
theorem lifted (os : Os) (started : os.Started) (H : Type) (enc : TypeId × Value → H) :
    ReturnsInHanded {} Try.checked os 12 .any (Rows.fnExactSearchSpec.pre6 enc Try.prog Try.f12 Rows.fnExactSearchRow.domain false) (Rows.fnExactSearchSpec.post enc Try.prog Try.f12 false true false false) := by
  refine returnsInHanded_of_change_sized (C := Try.checked) own started (by kernel_rfl) Try.func12
    (ChangeSpec.witness6 (enc := enc) (C := Try.checked) false ⟨#[], #[.agg #[.int .i64 0, .slice none 0 0], .agg #[.int .i64 0, .int .i64 0, .int .i64 0, .int .i64 0]], []⟩ 8 (by kernel_rfl) (by kernel_rfl) (by kernel_rfl) (by kernel_rfl)) ?_
  intro W base args ds gs before hval0 hW hcnd hsz0 _
  have hval : ∀ (j : Nat) t v, Try.f12.params[j]? = some t → args[j]? = some v → Value.okWide Try.prog W .any base t v := hval0
  have hW' := hW
  obtain ⟨p, q, hA0, hV, rfl, hfz, hnd⟩ := hW
  have hA : DataW.TrodAll enc Try.prog W 0 (fun _ => true) true Try.f12.params.toList args.toList ds p := hA0
  rw [Try.params12] at hA hval
  obtain ⟨v0, vs0, d0, ds0, p0, q0, hargs, rfl, rfl, h0, r0⟩ := trodAll_cons hA
  obtain ⟨v1, vs1, d1, ds1, p1, q1, rfl, rfl, rfl, h1, r1⟩ := trodAll_cons r0
  obtain ⟨rfl, rfl, rfl⟩ := trodAll_nil r1
  obtain rfl : args = #[v0, v1] := by cases args; simp_all
  obtain ⟨rfl, rfl⟩ := trodVars_none hV
  have kk0 := h0
  have lt0 : ∀ x ∈ p0, x.block < W.heap.size := by obtain ⟨m, hm⟩ := kk0; exact DataW.trod_lt m _ _ _ hm
  obtain ⟨fu0, hf0⟩ := h0
  obtain ⟨y0, hK0, hg0⟩ := op41 hf0
  obtain ⟨ar0, rfl, _⟩ := okWide_struct Try.underlying41 (hval 0 41 v0 rfl rfl)
  obtain ⟨_, _, ec0, rfl, ⟨A0_1, c0_1, rfl, hc0_1, hC0_1⟩⟩ := hK0
  obtain rfl : ar0 = #[.int .i64 y0.1, .slice A0_1 y0.2.length c0_1] := by
    have e2 : ar0.toList = _ := ec0
    exact Array.toList_inj.mp e2
  have kk1 := h1
  have lt1 : ∀ x ∈ p1, x.block < W.heap.size := by obtain ⟨m, hm⟩ := kk1; exact DataW.trod_lt m _ _ _ hm
  obtain ⟨fu1, hf1⟩ := h1
  obtain ⟨y1, hK1, hg1⟩ := op24 hf1
  obtain ⟨ar1, rfl, _⟩ := okWide_struct Try.underlying24 (hval 1 24 v1 rfl rfl)
  obtain ⟨_, _, ec1, rfl, ⟨_, _, rfl, rfl, ⟨_, _, rfl, rfl, rfl⟩⟩⟩ := hK1
  obtain rfl : ar1 = #[.int .i64 y1.f0, .int .i64 y1.f1, .int .i64 y1.f2, .int .i64 y1.f3] := by
    have e2 : ar1.toList = _ := ec1
    exact Array.toList_inj.mp e2
  clear hA0 hval0 hsz0
  obtain ⟨k, hp⟩ := Pure.FnExactSearch y0 y1 hg0 hg1
  refine (laws_FnExactSearch.calls _ _ _ _ _ _ _ _ _ _ W (by assumption) (by assumption) hp).mono fun e W' ⟨he, bel⟩ => ?_
  subst he
  exact ⟨_, rfl, _, _, _, [], _, [], hW', trodAll_mk1 (shut_bool Try.underlying4 _), (trodAll_cons_mk (Below.trod laidOut (by kernel_rfl) (of_decide_eq_true (by kernel_rfl)) kk0 bel lt0) (trodAll_cons_mk (Below.trod laidOut (by kernel_rfl) (of_decide_eq_true (by kernel_rfl)) kk1 bel lt1) trodAll_mk0)), rfl, bel.frame _, fun h => by cases h⟩
theorem over : Rows.fnExactSearchRow.holds Try.pinned (OpenSpec.ofChange Rows.fnExactSearchSpec) :=
  OpenClaim.holds_of_wide 12 Try.f12 rfl rfl rfl rfl rfl rfl rfl ⟨rfl, rfl, rfl, rfl, rfl⟩ rfl rfl rfl rfl rfl (by kernel_rfl) Try.func12 (by kernel_rfl)
    (of_decide_eq_true (by kernel_rfl)) (by unfold Func.isWrapper; first | (rw [if_pos (by decide +kernel)]; kernel_rfl) | (rw [if_neg (by decide +kernel)]; exact ⟨rfl, rfl⟩))
    (fun os started H enc _ => lifted os started H enc)
theorem proved : Rows.FnExactSearchSaid := over
#print axioms proved
end Go.Proofs.Ytngjaajcdbodeaa.fnExactSearch
namespace Go.Proofs.Ytngjaajcdbodeaa
/-- The row, under a short name, for the claim. -/
theorem fnExactSearch_holds : Rows.FnExactSearchSaid := fnExactSearch.proved
end Go.Proofs.Ytngjaajcdbodeaa
