/- FnExactPlanArrivals: the law's function answers true for every input, and what came in reads as before. No condition. -/
import Derived.Test.YtjkhjfladhppkaaRows
import Derived.Test.YtjkhjfladhppkaaPFnExactPlanArrivalsx6
import Derived.Test.YtjkhjfladhppkaaPureFnExactPlanArrivals
import Derived.Test.YtjkhjfladhppkaaOpen
import Derived.WalkKit
import Derived.ProofKit
import Derived.OpenShut
import Derived.ShutString
import Derived.ChangeOld
import Derived.Below
import Derived.Carry
import Derived.KernelRfl
namespace Go.Proofs.Ytjkhjfladhppkaa.fnExactPlanArrivals
open Go.ChangeShapes Go.WideShapes Go.ChangeAt Go.RowKit Go.Proofs.Ytjkhjfladhppkaa.PFnExactPlanArrivals Go.Proofs.YtjkhjfladhppkaaW.PrintWords
set_option linter.unusedVariables false
theorem own : ownKnob Try.prog.godebug = none := by kernel_rfl
theorem laidOut : laidOutB Try.prog = true := by kernel_rfl
set_option maxRecDepth 100000 in
theorem lifted (os : Os) (started : os.Started) (H : Type) (enc : TypeId × Value → H) :
    ReturnsInHanded {} Try.checked os 13 .any (Rows.fnExactPlanArrivalsSpec.pre6 enc Try.prog Try.f13 Rows.fnExactPlanArrivalsRow.domain false) (Rows.fnExactPlanArrivalsSpec.post enc Try.prog Try.f13 false true false false) := by
  refine returnsInHanded_of_change (C := Try.checked) own started (by kernel_rfl) Try.func13
    (ChangeSpec.witness6 (enc := enc) (C := Try.checked) false ⟨#[], #[.slice none 0 0, .slice none 0 0, .int .i64 0, .int .i64 0], []⟩ 8 (by kernel_rfl) (by kernel_rfl) (by kernel_rfl) (by kernel_rfl)) ?_
  intro W base args ds gs before hval0 hW _ _
  have hval : ∀ (j : Nat) t v, Try.f13.params[j]? = some t → args[j]? = some v → Value.okWide Try.prog W .any base t v := hval0
  have hW' := hW
  obtain ⟨p, q, hA0, hV, rfl, _, _⟩ := hW
  have hA : DataW.TrodAll enc Try.prog W 0 (fun _ => true) true Try.f13.params.toList args.toList ds p := hA0
  rw [Try.params13] at hA hval
  obtain ⟨v0, vs0, d0, ds0, p0, q0, hargs, rfl, rfl, h0, r0⟩ := trodAll_cons hA
  obtain ⟨v1, vs1, d1, ds1, p1, q1, rfl, rfl, rfl, h1, r1⟩ := trodAll_cons r0
  obtain ⟨v2, vs2, d2, ds2, p2, q2, rfl, rfl, rfl, h2, r2⟩ := trodAll_cons r1
  obtain ⟨v3, vs3, d3, ds3, p3, q3, rfl, rfl, rfl, h3, r3⟩ := trodAll_cons r2
  obtain ⟨rfl, rfl, rfl⟩ := trodAll_nil r3
  obtain rfl : args = #[v0, v1, v2, v3] := by cases args; simp_all
  obtain ⟨rfl, rfl⟩ := trodVars_none hV
  have k0 := h0
  have lt0 := OpenKit.trod_blocks k0
  obtain ⟨fu0, hf0⟩ := h0
  obtain ⟨x0, hK0, hg0⟩ := (OpenKit.opens_slice Try.underlying50 (by kernel_rfl) (OpenKit.opens_struct (fun x : S80 => (x.f0, x.f1)) (fun x => ⟨x.1, x.2⟩) (fun _ => rfl) Try.underlying80 (by kernel_rfl) (OpenKit.fs_cons rfl (by kernel_rfl) (OpenKit.opens_int Try.underlying3) (OpenKit.fs_one rfl (by kernel_rfl) (OpenKit.opens_int Try.underlying3))))) H enc W _ _ _ hf0
  obtain ⟨_, _, hcs0, hc_0, hr_0⟩ := hK0
  obtain rfl := OpenKit.slice_of Try.underlying50 (hval 0 50 v0 rfl rfl) hcs0
  have k1 := h1
  have lt1 := OpenKit.trod_blocks k1
  obtain ⟨fu1, hf1⟩ := h1
  obtain ⟨x1, hK1, hg1⟩ := (OpenKit.opens_slice Try.underlying22 (by kernel_rfl) (OpenKit.opens_int Try.underlying3)) H enc W _ _ _ hf1
  obtain ⟨_, _, hcs1, hc_1, hr_1⟩ := hK1
  obtain rfl := OpenKit.slice_of Try.underlying22 (hval 1 22 v1 rfl rfl) hcs1
  have k2 := h2
  have lt2 := OpenKit.trod_blocks k2
  obtain ⟨fu2, hf2⟩ := h2
  obtain ⟨x2, hK2, hg2⟩ := (OpenKit.opens_int Try.underlying3) H enc W _ _ _ hf2
  obtain rfl := OpenKit.int_of Try.underlying3 (hval 2 3 v2 rfl rfl) hK2
  have k3 := h3
  have lt3 := OpenKit.trod_blocks k3
  obtain ⟨fu3, hf3⟩ := h3
  obtain ⟨x3, hK3, hg3⟩ := (OpenKit.opens_int Try.underlying3) H enc W _ _ _ hf3
  obtain rfl := OpenKit.int_of Try.underlying3 (hval 3 3 v3 rfl rfl) hK3
  obtain ⟨k, hk⟩ := Pure.FnExactPlanArrivals x0 x1 x2 x3 hg0 hg1 hg2 hg3
  clear hA0 hval0
  refine (laws_FnExactPlanArrivals.calls k _ _ x0 _ _ x1 x2 x3 true W hr_0 hc_0 hr_1 hc_1 hk).mono fun e W' he => ?_
  obtain ⟨rfl, hb⟩ := he
  have bel : Below W.heap.size W W' := hb
  exact ⟨_, rfl, _, _, _, [], _, [], hW', trodAll_mk1 (shut_bool Try.underlying4 _), (trodAll_cons_mk (Below.trod laidOut (by kernel_rfl) (of_decide_eq_true (by kernel_rfl)) k0 bel lt0) (trodAll_cons_mk (Below.trod laidOut (by kernel_rfl) (of_decide_eq_true (by kernel_rfl)) k1 bel lt1) (trodAll_cons_mk (Below.trod laidOut (by kernel_rfl) (of_decide_eq_true (by kernel_rfl)) k2 bel lt2) (trodAll_cons_mk (Below.trod laidOut (by kernel_rfl) (of_decide_eq_true (by kernel_rfl)) k3 bel lt3) trodAll_mk0)))), rfl, bel.frame _, fun h => by cases h⟩
theorem over : Rows.fnExactPlanArrivalsRow.holds Try.pinned (OpenSpec.ofChange Rows.fnExactPlanArrivalsSpec) :=
  OpenClaim.holds_of_wide 13 Try.f13 rfl rfl rfl rfl rfl rfl rfl ⟨rfl, rfl, rfl, rfl, rfl⟩ rfl rfl rfl rfl rfl (by kernel_rfl) Try.func13 (by kernel_rfl)
    (of_decide_eq_true (by kernel_rfl)) (by unfold Func.isWrapper; first | (rw [if_pos (by decide +kernel)]; kernel_rfl) | (rw [if_neg (by decide +kernel)]; exact ⟨rfl, rfl⟩))
    (fun os started H enc _ => lifted os started H enc)
end Go.Proofs.Ytjkhjfladhppkaa.fnExactPlanArrivals
namespace Go.Proofs.Ytjkhjfladhppkaa
theorem fnExactPlanArrivals_holds : Rows.FnExactPlanArrivalsSaid := fnExactPlanArrivals.over
#print axioms fnExactPlanArrivals_holds
end Go.Proofs.Ytjkhjfladhppkaa
