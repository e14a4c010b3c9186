/- FnExactFinishSteps: the law's function answers true for every input, and what came in reads as before. No condition. -/
import Derived.Test.YtjkhjfladhppkaaRows
import Derived.Test.YtjkhjfladhppkaaPFnExactFinishStepsx2
import Derived.Test.YtjkhjfladhppkaaPureFnExactFinishSteps
import Derived.Test.YtjkhjfladhppkaaOpen
import Derived.WalkKit
import Derived.ProofKit
import Derived.OpenShut
import Derived.ShutString
import Derived.ChangeOld
import Derived.Below
import Derived.Carry
import Derived.KernelRfl
namespace Go.Proofs.Ytjkhjfladhppkaa.fnExactFinishSteps
open Go.ChangeShapes Go.WideShapes Go.ChangeAt Go.RowKit Go.Proofs.Ytjkhjfladhppkaa.PFnExactFinishSteps Go.Proofs.YtjkhjfladhppkaaW.PrintWords
set_option linter.unusedVariables false
theorem own : ownKnob Try.prog.godebug = none := by kernel_rfl
theorem laidOut : laidOutB Try.prog = true := by kernel_rfl
set_option maxRecDepth 100000 in
theorem lifted (os : Os) (started : os.Started) (H : Type) (enc : TypeId × Value → H) :
    ReturnsInHanded {} Try.checked os 7 .any (Rows.fnExactFinishStepsSpec.pre6 enc Try.prog Try.f7 Rows.fnExactFinishStepsRow.domain false) (Rows.fnExactFinishStepsSpec.post enc Try.prog Try.f7 false true false false) := by
  refine returnsInHanded_of_change (C := Try.checked) own started (by kernel_rfl) Try.func7
    (ChangeSpec.witness6 (enc := enc) (C := Try.checked) false ⟨#[], #[.int .i64 0, .int .i64 0, .bool false], []⟩ 8 (by kernel_rfl) (by kernel_rfl) (by kernel_rfl) (by kernel_rfl)) ?_
  intro W base args ds gs before hval0 hW _ _
  have hval : ∀ (j : Nat) t v, Try.f7.params[j]? = some t → args[j]? = some v → Value.okWide Try.prog W .any base t v := hval0
  have hW' := hW
  obtain ⟨p, q, hA0, hV, rfl, _, _⟩ := hW
  have hA : DataW.TrodAll enc Try.prog W 0 (fun _ => true) true Try.f7.params.toList args.toList ds p := hA0
  rw [Try.params7] at hA hval
  obtain ⟨v0, vs0, d0, ds0, p0, q0, hargs, rfl, rfl, h0, r0⟩ := trodAll_cons hA
  obtain ⟨v1, vs1, d1, ds1, p1, q1, rfl, rfl, rfl, h1, r1⟩ := trodAll_cons r0
  obtain ⟨v2, vs2, d2, ds2, p2, q2, rfl, rfl, rfl, h2, r2⟩ := trodAll_cons r1
  obtain ⟨rfl, rfl, rfl⟩ := trodAll_nil r2
  obtain rfl : args = #[v0, v1, v2] := by cases args; simp_all
  obtain ⟨rfl, rfl⟩ := trodVars_none hV
  have k0 := h0
  have lt0 := OpenKit.trod_blocks k0
  obtain ⟨fu0, hf0⟩ := h0
  obtain ⟨x0, hK0, hg0⟩ := (OpenKit.opens_int Try.underlying3) H enc W _ _ _ hf0
  obtain rfl := OpenKit.int_of Try.underlying3 (hval 0 3 v0 rfl rfl) hK0
  have k1 := h1
  have lt1 := OpenKit.trod_blocks k1
  obtain ⟨fu1, hf1⟩ := h1
  obtain ⟨x1, hK1, hg1⟩ := (OpenKit.opens_int Try.underlying3) H enc W _ _ _ hf1
  obtain rfl := OpenKit.int_of Try.underlying3 (hval 1 3 v1 rfl rfl) hK1
  have k2 := h2
  have lt2 := OpenKit.trod_blocks k2
  obtain ⟨fu2, hf2⟩ := h2
  obtain ⟨x2, hK2, hg2⟩ := (OpenKit.opens_bool Try.underlying4) H enc W _ _ _ hf2
  obtain rfl := OpenKit.bool_of Try.underlying4 (hval 2 4 v2 rfl rfl) hK2
  obtain ⟨k, hk⟩ := Pure.FnExactFinishSteps x0 x1 x2 hg0 hg1
  clear hA0 hval0
  refine (laws_FnExactFinishSteps.calls k x0 x1 x2 true W hk).mono fun e W' he => ?_
  obtain ⟨rfl, hb⟩ := he
  have bel : Below W.heap.size W W' := hb
  exact ⟨_, rfl, _, _, _, [], _, [], hW', trodAll_mk1 (shut_bool Try.underlying4 _), (trodAll_cons_mk (Below.trod laidOut (by kernel_rfl) (of_decide_eq_true (by kernel_rfl)) k0 bel lt0) (trodAll_cons_mk (Below.trod laidOut (by kernel_rfl) (of_decide_eq_true (by kernel_rfl)) k1 bel lt1) (trodAll_cons_mk (Below.trod laidOut (by kernel_rfl) (of_decide_eq_true (by kernel_rfl)) k2 bel lt2) trodAll_mk0))), rfl, bel.frame _, fun h => by cases h⟩
theorem over : Rows.fnExactFinishStepsRow.holds Try.pinned (OpenSpec.ofChange Rows.fnExactFinishStepsSpec) :=
  OpenClaim.holds_of_wide 7 Try.f7 rfl rfl rfl rfl rfl rfl rfl ⟨rfl, rfl, rfl, rfl, rfl⟩ rfl rfl rfl rfl rfl (by kernel_rfl) Try.func7 (by kernel_rfl)
    (of_decide_eq_true (by kernel_rfl)) (by unfold Func.isWrapper; first | (rw [if_pos (by decide +kernel)]; kernel_rfl) | (rw [if_neg (by decide +kernel)]; exact ⟨rfl, rfl⟩))
    (fun os started H enc _ => lifted os started H enc)
end Go.Proofs.Ytjkhjfladhppkaa.fnExactFinishSteps
namespace Go.Proofs.Ytjkhjfladhppkaa
theorem fnExactFinishSteps_holds : Rows.FnExactFinishStepsSaid := fnExactFinishSteps.over
#print axioms fnExactFinishSteps_holds
end Go.Proofs.Ytjkhjfladhppkaa
