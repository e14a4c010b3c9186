/- FnExactHalftonePage: the law's function answers true for every input, and what came in reads as before. No condition. -/
import Derived.Test.YtaceidiookkocaaRows
import Derived.Test.YtaceidiookkocaaQFnExactHalftonePage7
import Derived.Test.YtaceidiookkocaaPureFnExactHalftonePage
import Derived.Test.YtaceidiookkocaaOpen
import Derived.WalkKit
import Derived.ProofKit
import Derived.OpenShut
import Derived.ShutString
import Derived.ChangeOld
import Derived.Below
import Derived.Carry
import Derived.KernelRfl
namespace Go.Proofs.Ytaceidiookkocaa.fnExactHalftonePage
open Go.ChangeShapes Go.WideShapes Go.ChangeAt Go.RowKit Go.Proofs.Ytaceidiookkocaa.PFnExactHalftonePage Go.Proofs.YtaceidiookkocaaW.PrintWords
set_option linter.unusedVariables false
theorem own : ownKnob Try.prog.godebug = none := by kernel_rfl
theorem laidOut : laidOutB Try.prog = true := by kernel_rfl
set_option maxRecDepth 100000 in
theorem lifted (os : Os) (started : os.Started) (H : Type) (enc : TypeId × Value → H) :
    ReturnsInHanded {} Try.checked os 6 .any (Rows.fnExactHalftonePageSpec.pre6 enc Try.prog Try.f6 Rows.fnExactHalftonePageRow.domain false) (Rows.fnExactHalftonePageSpec.post enc Try.prog Try.f6 false true false false) := by
  refine returnsInHanded_of_change (C := Try.checked) own started (by kernel_rfl) Try.func6
    (ChangeSpec.witness6 (enc := enc) (C := Try.checked) false ⟨#[], #[.slice none 0 0, .bool false], []⟩ 8 (by kernel_rfl) (by kernel_rfl) (by kernel_rfl) (by kernel_rfl)) ?_
  intro W base args ds gs before hval0 hW _ _
  have hval : ∀ (j : Nat) t v, Try.f6.params[j]? = some t → args[j]? = some v → Value.okWide Try.prog W .any base t v := hval0
  have hW' := hW
  obtain ⟨p, q, hA0, hV, rfl, _, _⟩ := hW
  have hA : DataW.TrodAll enc Try.prog W 0 (fun _ => true) true Try.f6.params.toList args.toList ds p := hA0
  rw [Try.params6] at hA hval
  obtain ⟨v0, vs0, d0, ds0, p0, q0, hargs, rfl, rfl, h0, r0⟩ := trodAll_cons hA
  obtain ⟨v1, vs1, d1, ds1, p1, q1, rfl, rfl, rfl, h1, r1⟩ := trodAll_cons r0
  obtain ⟨rfl, rfl, rfl⟩ := trodAll_nil r1
  obtain rfl : args = #[v0, v1] := by cases args; simp_all
  obtain ⟨rfl, rfl⟩ := trodVars_none hV
  have k0 := h0
  have lt0 := OpenKit.trod_blocks k0
  obtain ⟨fu0, hf0⟩ := h0
  obtain ⟨x0, hK0, hg0⟩ := (OpenKit.opens_slice Try.underlying22 (by kernel_rfl) (OpenKit.opens_slice Try.underlying39 (by kernel_rfl) (OpenKit.opens_int Try.underlying3))) H enc W _ _ _ hf0
  obtain ⟨_, _, hcs0, hc_0, hr_0⟩ := hK0
  obtain rfl := OpenKit.slice_of Try.underlying22 (hval 0 22 v0 rfl rfl) hcs0
  have k1 := h1
  have lt1 := OpenKit.trod_blocks k1
  obtain ⟨fu1, hf1⟩ := h1
  obtain ⟨x1, hK1, hg1⟩ := (OpenKit.opens_bool Try.underlying4) H enc W _ _ _ hf1
  obtain rfl := OpenKit.bool_of Try.underlying4 (hval 1 4 v1 rfl rfl) hK1
  obtain ⟨k, hk⟩ := Pure.FnExactHalftonePage x0 x1 hg0
  clear hA0 hval0
  refine (laws_FnExactHalftonePage.calls k _ _ x0 x1 true W hr_0 hc_0 hk rfl).mono fun e W' he => ?_
  obtain ⟨rfl, hb⟩ := he
  have bel : Below W.heap.size W W' := hb
  exact ⟨_, rfl, _, _, _, [], _, [], hW', trodAll_mk1 (shut_bool Try.underlying4 _), (trodAll_cons_mk (Below.trod laidOut (by kernel_rfl) (of_decide_eq_true (by kernel_rfl)) k0 bel lt0) (trodAll_cons_mk (Below.trod laidOut (by kernel_rfl) (of_decide_eq_true (by kernel_rfl)) k1 bel lt1) trodAll_mk0)), rfl, bel.frame _, fun h => by cases h⟩
theorem over : Rows.fnExactHalftonePageRow.holds Try.pinned (OpenSpec.ofChange Rows.fnExactHalftonePageSpec) :=
  OpenClaim.holds_of_wide 6 Try.f6 rfl rfl rfl rfl rfl rfl rfl ⟨rfl, rfl, rfl, rfl, rfl⟩ rfl rfl rfl rfl rfl (by kernel_rfl) Try.func6 (by kernel_rfl)
    (of_decide_eq_true (by kernel_rfl)) (by unfold Func.isWrapper; first | (rw [if_pos (by decide +kernel)]; kernel_rfl) | (rw [if_neg (by decide +kernel)]; exact ⟨rfl, rfl⟩))
    (fun os started H enc _ => lifted os started H enc)
end Go.Proofs.Ytaceidiookkocaa.fnExactHalftonePage
namespace Go.Proofs.Ytaceidiookkocaa
theorem fnExactHalftonePage_holds : Rows.FnExactHalftonePageSaid := fnExactHalftonePage.over
#print axioms fnExactHalftonePage_holds
end Go.Proofs.Ytaceidiookkocaa
