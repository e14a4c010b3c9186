/- FnExactLineStep: the functions that the law reaches, each as a plain Lean function, and that a call does what it says. Made by a program of this work (wip/mp.py) out of the kit's print. No condition. -/
import Derived.Test.YtomhhbnnmjgcgaaQFnExactLineStep0
import Derived.Test.YtomhhbnnmjgcgaaQFnExactLineStep1
import Derived.Test.YtomhhbnnmjgcgaaQFnExactLineStep2
import Derived.Test.YtomhhbnnmjgcgaaQFnExactLineStep4
import Derived.Test.YtomhhbnnmjgcgaaQFnExactLineStep6
namespace Go.Proofs.Ytomhhbnnmjgcgaa.PFnExactLineStep
open Go.RowKit Go.Proofs.YtomhhbnnmjgcgaaW.PrintWords Go.Proofs.YtomhhbnnmjgcgaaW.PrintLast Go.Proofs.YtomhhbnnmjgcgaaW.PrintMore
attribute [local go_sem] max2_int min2_int max_two min_two max_three min_three max_four min_four
attribute [local go_sem] Fix.isSome_setCell
set_option linter.unusedVariables false
set_option linter.unusedSimpArgs false

/-! ### laws_FnExactLineStep: function 8 -/
mutual
def laws_FnExactLineStep.j0 : Nat → Int → Bool → Bool → Bool → Int → Int → List Int → List Int → Int → Bool → Int → Int → List Int → List Int → Int → Bool → Int → Int → List Int → List Int → Int → Bool → Int → Int → List Int → List Int → Int → Bool → Option (Bool)
  | 0, _, _, _, _, _, _, _, _, _, _, _, _, _, _, _, _, _, _, _, _, _, _, _, _, _, _, _, _ => none
  | k + 1, x1, x7, x10, x44, x236000, x236001, x236002, x236003, x236004, x236005, x259000, x259001, x259002, x259003, x259004, x259005, x270000, x270001, x270002, x270003, x270004, x270005, x282000, x282001, x282002, x282003, x282004, x282005 => if x44 = true then (some false) else ((laws_toLine.f k x236000 x236001 x236002 x236003 x236004 x236005).bind fun bt283 => ((laws_eqLine.f k x270000 x270001 x270002 x270003 x270004 x270005 bt283.1 bt283.2.1 bt283.2.2.1 bt283.2.2.2.1 bt283.2.2.2.2.1 bt283.2.2.2.2.2).bind fun t293 => (if t293 = true then ((laws_markLine.f k x270000 x270001 x270002 x270003 x270004 x270005 1).bind fun bt294 => (if bt294.1 < 0 then (laws_FnExactLineStep.j1 k x1 x7 true x236000 x236001 x236002 x236003 x236004 x236005 x259000 x259001 x259002 x259003 x259004 x259005 x282000 x282001 x282002 x282003 x282004 x282005) else ((laws_eqLine.f k x282000 x282001 x282002 x282003 x282004 x282005 x259000 x259001 x259002 x259003 x259004 x259005).bind fun t297 => (if t297 = true then (laws_FnExactLineStep.j1 k x1 x7 (x10 != x7) x236000 x236001 x236002 x236003 x236004 x236005 x259000 x259001 x259002 x259003 x259004 x259005 x282000 x282001 x282002 x282003 x282004 x282005) else (laws_FnExactLineStep.j1 k x1 x7 true x236000 x236001 x236002 x236003 x236004 x236005 x259000 x259001 x259002 x259003 x259004 x259005 x282000 x282001 x282002 x282003 x282004 x282005))))) else (some false))))
def laws_FnExactLineStep.j1 : Nat → Int → Bool → Bool → Int → Int → List Int → List Int → Int → Bool → Int → Int → List Int → List Int → Int → Bool → Int → Int → List Int → List Int → Int → Bool → Option (Bool)
  | 0, _, _, _, _, _, _, _, _, _, _, _, _, _, _, _, _, _, _, _, _, _ => none
  | k + 1, x1, x7, x65, x236000, x236001, x236002, x236003, x236004, x236005, x259000, x259001, x259002, x259003, x259004, x259005, x282000, x282001, x282002, x282003, x282004, x282005 => if x65 = true then (some false) else ((laws_markLine.f k x282000 x282001 x282002 x282003 x282004 x282005 1).bind fun bt298 => ((laws_heldLine.f k x282000 x282001 bt298.2.1 bt298.2.2 x282004 x282005 1).bind fun t301 => (if t301 < 0 then (some false) else (if t301 = bt298.1 then ((laws_toLine.f k x236000 x236001 x236002 x236003 x236004 x236005).bind fun bt302 => ((impl_LineStep.f k bt302.1 bt302.2.1 bt302.2.2.1 bt302.2.2.2.1 bt302.2.2.2.2.1 bt302.2.2.2.2.2 x1).bind fun bt312 => ((laws_eqLine.f k bt312.1 bt312.2.1 bt312.2.2.1 bt312.2.2.2.1 bt312.2.2.2.2.1 bt312.2.2.2.2.2.1 x259000 x259001 x259002 x259003 x259004 x259005).bind fun t324 => (if t324 = true then (laws_FnExactLineStep.j2 k bt298.1 (bt312.2.2.2.2.2.2 != x7) x282000 x282001 bt298.2.1 bt298.2.2 x282004 x282005) else (laws_FnExactLineStep.j2 k bt298.1 true x282000 x282001 bt298.2.1 bt298.2.2 x282004 x282005))))) else (some false)))))
def laws_FnExactLineStep.j2 : Nat → Int → Bool → Int → Int → List Int → List Int → Int → Bool → Option (Bool)
  | 0, _, _, _, _, _, _, _, _ => none
  | k + 1, x12, x92, x282000, x282001, x282002, x282003, x282004, x282005 => if x92 = true then (some false) else ((laws_heldLine.f k x282000 x282001 x282002 x282003 x282004 x282005 1).bind fun t325 => (if t325 < 0 then (some false) else (if t325 = x12 then (some true) else (some false))))
end
def laws_FnExactLineStep.f (k : Nat) (a0_0 : Int) (a0_1 : Int) (l0_2 : List Int) (l0_3 : List Int) (a0_4 : Int) (a0_5 : Bool) (a1 : Int) : Option (Bool) := (laws_szLine.f a0_0 a0_1 l0_2 l0_3 a0_4 a0_5 1048576).bind fun t236 => (if t236 < 0 then (some true) else ((laws_toLine.f k a0_0 a0_1 l0_2 l0_3 a0_4 a0_5).bind fun bt237 => ((spec_LineStep.f k bt237.1 bt237.2.1 bt237.2.2.1 bt237.2.2.2.1 bt237.2.2.2.2.1 bt237.2.2.2.2.2 a1).bind fun bt247 => ((laws_toLine.f k a0_0 a0_1 l0_2 l0_3 a0_4 a0_5).bind fun bt259 => ((impl_LineStep.f k bt259.1 bt259.2.1 bt259.2.2.1 bt259.2.2.2.1 bt259.2.2.2.2.1 bt259.2.2.2.2.2 a1).bind fun bt270 => ((laws_eqLine.f k bt270.1 bt270.2.1 bt270.2.2.1 bt270.2.2.2.1 bt270.2.2.2.2.1 bt270.2.2.2.2.2.1 bt247.1 bt247.2.1 bt247.2.2.1 bt247.2.2.2.1 bt247.2.2.2.2.1 bt247.2.2.2.2.2.1).bind fun t282 => (if t282 = true then (laws_FnExactLineStep.j0 k a1 bt247.2.2.2.2.2.2 bt270.2.2.2.2.2.2 (bt270.2.2.2.2.2.2 != bt247.2.2.2.2.2.2) a0_0 a0_1 l0_2 l0_3 a0_4 a0_5 bt247.1 bt247.2.1 bt247.2.2.1 bt247.2.2.2.1 bt247.2.2.2.2.1 bt247.2.2.2.2.2.1 bt259.1 bt259.2.1 bt259.2.2.1 bt259.2.2.2.1 bt259.2.2.2.2.1 bt259.2.2.2.2.2 bt270.1 bt270.2.1 bt270.2.2.1 bt270.2.2.2.1 bt270.2.2.2.2.1 bt270.2.2.2.2.2.1) else (laws_FnExactLineStep.j0 k a1 bt247.2.2.2.2.2.2 bt270.2.2.2.2.2.2 true a0_0 a0_1 l0_2 l0_3 a0_4 a0_5 bt247.1 bt247.2.1 bt247.2.2.1 bt247.2.2.2.1 bt247.2.2.2.2.1 bt247.2.2.2.2.2.1 bt259.1 bt259.2.1 bt259.2.2.1 bt259.2.2.2.1 bt259.2.2.2.2.1 bt259.2.2.2.2.2 bt270.1 bt270.2.1 bt270.2.2.1 bt270.2.2.2.1 bt270.2.2.2.2.1 bt270.2.2.2.2.2.1))))))))
theorem laws_FnExactLineStep.mono_l : ∀ k, (∀ y0 y1 y2 y3 y4 y5 y6 y7 y8 y9 y10 y11 y12 y13 y14 y15 y16 y17 y18 y19 y20 y21 y22 y23 y24 y25 y26 y27, LeO (laws_FnExactLineStep.j0 k y0 y1 y2 y3 y4 y5 y6 y7 y8 y9 y10 y11 y12 y13 y14 y15 y16 y17 y18 y19 y20 y21 y22 y23 y24 y25 y26 y27) (laws_FnExactLineStep.j0 (k + 1) y0 y1 y2 y3 y4 y5 y6 y7 y8 y9 y10 y11 y12 y13 y14 y15 y16 y17 y18 y19 y20 y21 y22 y23 y24 y25 y26 y27)) ∧ (∀ y0 y1 y2 y3 y4 y5 y6 y7 y8 y9 y10 y11 y12 y13 y14 y15 y16 y17 y18 y19 y20, LeO (laws_FnExactLineStep.j1 k y0 y1 y2 y3 y4 y5 y6 y7 y8 y9 y10 y11 y12 y13 y14 y15 y16 y17 y18 y19 y20) (laws_FnExactLineStep.j1 (k + 1) y0 y1 y2 y3 y4 y5 y6 y7 y8 y9 y10 y11 y12 y13 y14 y15 y16 y17 y18 y19 y20)) ∧ (∀ y0 y1 y2 y3 y4 y5 y6 y7, LeO (laws_FnExactLineStep.j2 k y0 y1 y2 y3 y4 y5 y6 y7) (laws_FnExactLineStep.j2 (k + 1) y0 y1 y2 y3 y4 y5 y6 y7))
  | 0 => ⟨fun _ _ _ _ _ _ _ _ _ _ _ _ _ _ _ _ _ _ _ _ _ _ _ _ _ _ _ _ r h => by simp [laws_FnExactLineStep.j0] at h, fun _ _ _ _ _ _ _ _ _ _ _ _ _ _ _ _ _ _ _ _ _ r h => by simp [laws_FnExactLineStep.j1] at h, fun _ _ _ _ _ _ _ _ r h => by simp [laws_FnExactLineStep.j2] at h⟩
  | k + 1 => by
    obtain ⟨ih0, ih1, ih2⟩ := laws_FnExactLineStep.mono_l k
    refine ⟨?_, ?_, ?_⟩
    · intro y0 y1 y2 y3 y4 y5 y6 y7 y8 y9 y10 y11 y12 y13 y14 y15 y16 y17 y18 y19 y20 y21 y22 y23 y24 y25 y26 y27
      unfold laws_FnExactLineStep.j0
      repeat' first
      | (with_reducible exact ih0 _ _ _ _ _ _ _ _ _ _ _ _ _ _ _ _ _ _ _ _ _ _ _ _ _ _ _ _)
      | (with_reducible exact ih1 _ _ _ _ _ _ _ _ _ _ _ _ _ _ _ _ _ _ _ _ _)
      | (with_reducible exact ih2 _ _ _ _ _ _ _ _)
      | (with_reducible exact impl_LineStep.mono _ _ _ _ _ _ _ _)
      | (with_reducible exact laws_eqLine.mono _ _ _ _ _ _ _ _ _ _ _ _ _)
      | (with_reducible exact laws_heldLine.mono _ _ _ _ _ _ _ _)
      | (with_reducible exact laws_markLine.mono _ _ _ _ _ _ _ _)
      | (with_reducible exact laws_toLine.mono _ _ _ _ _ _ _)
      | (with_reducible exact spec_LineStep.mono _ _ _ _ _ _ _ _)
      | (with_reducible exact LeO.refl _)
      | (with_reducible exact LeO.none _)
      | (with_reducible refine LeO.ite ?_ ?_)
      | (with_reducible refine LeO.bind ?_ (fun _ => ?_))
      | exact ih0 _ _ _ _ _ _ _ _ _ _ _ _ _ _ _ _ _ _ _ _ _ _ _ _ _ _ _ _
      | exact ih1 _ _ _ _ _ _ _ _ _ _ _ _ _ _ _ _ _ _ _ _ _
      | exact ih2 _ _ _ _ _ _ _ _
      | exact impl_LineStep.mono _ _ _ _ _ _ _ _
      | exact laws_eqLine.mono _ _ _ _ _ _ _ _ _ _ _ _ _
      | exact laws_heldLine.mono _ _ _ _ _ _ _ _
      | exact laws_markLine.mono _ _ _ _ _ _ _ _
      | exact laws_toLine.mono _ _ _ _ _ _ _
      | exact spec_LineStep.mono _ _ _ _ _ _ _ _
      | exact LeO.none _
      | refine LeO.ite ?_ ?_
      | refine LeO.bind ?_ (fun _ => ?_)
    · intro y0 y1 y2 y3 y4 y5 y6 y7 y8 y9 y10 y11 y12 y13 y14 y15 y16 y17 y18 y19 y20
      unfold laws_FnExactLineStep.j1
      repeat' first
      | (with_reducible exact ih0 _ _ _ _ _ _ _ _ _ _ _ _ _ _ _ _ _ _ _ _ _ _ _ _ _ _ _ _)
      | (with_reducible exact ih1 _ _ _ _ _ _ _ _ _ _ _ _ _ _ _ _ _ _ _ _ _)
      | (with_reducible exact ih2 _ _ _ _ _ _ _ _)
      | (with_reducible exact impl_LineStep.mono _ _ _ _ _ _ _ _)
      | (with_reducible exact laws_eqLine.mono _ _ _ _ _ _ _ _ _ _ _ _ _)
      | (with_reducible exact laws_heldLine.mono _ _ _ _ _ _ _ _)
      | (with_reducible exact laws_markLine.mono _ _ _ _ _ _ _ _)
      | (with_reducible exact laws_toLine.mono _ _ _ _ _ _ _)
      | (with_reducible exact spec_LineStep.mono _ _ _ _ _ _ _ _)
      | (with_reducible exact LeO.refl _)
      | (with_reducible exact LeO.none _)
      | (with_reducible refine LeO.ite ?_ ?_)
      | (with_reducible refine LeO.bind ?_ (fun _ => ?_))
      | exact ih0 _ _ _ _ _ _ _ _ _ _ _ _ _ _ _ _ _ _ _ _ _ _ _ _ _ _ _ _
      | exact ih1 _ _ _ _ _ _ _ _ _ _ _ _ _ _ _ _ _ _ _ _ _
      | exact ih2 _ _ _ _ _ _ _ _
      | exact impl_LineStep.mono _ _ _ _ _ _ _ _
      | exact laws_eqLine.mono _ _ _ _ _ _ _ _ _ _ _ _ _
      | exact laws_heldLine.mono _ _ _ _ _ _ _ _
      | exact laws_markLine.mono _ _ _ _ _ _ _ _
      | exact laws_toLine.mono _ _ _ _ _ _ _
      | exact spec_LineStep.mono _ _ _ _ _ _ _ _
      | exact LeO.none _
      | refine LeO.ite ?_ ?_
      | refine LeO.bind ?_ (fun _ => ?_)
    · intro y0 y1 y2 y3 y4 y5 y6 y7
      unfold laws_FnExactLineStep.j2
      repeat' first
      | (with_reducible exact ih0 _ _ _ _ _ _ _ _ _ _ _ _ _ _ _ _ _ _ _ _ _ _ _ _ _ _ _ _)
      | (with_reducible exact ih1 _ _ _ _ _ _ _ _ _ _ _ _ _ _ _ _ _ _ _ _ _)
      | (with_reducible exact ih2 _ _ _ _ _ _ _ _)
      | (with_reducible exact impl_LineStep.mono _ _ _ _ _ _ _ _)
      | (with_reducible exact laws_eqLine.mono _ _ _ _ _ _ _ _ _ _ _ _ _)
      | (with_reducible exact laws_heldLine.mono _ _ _ _ _ _ _ _)
      | (with_reducible exact laws_markLine.mono _ _ _ _ _ _ _ _)
      | (with_reducible exact laws_toLine.mono _ _ _ _ _ _ _)
      | (with_reducible exact spec_LineStep.mono _ _ _ _ _ _ _ _)
      | (with_reducible exact LeO.refl _)
      | (with_reducible exact LeO.none _)
      | (with_reducible refine LeO.ite ?_ ?_)
      | (with_reducible refine LeO.bind ?_ (fun _ => ?_))
      | exact ih0 _ _ _ _ _ _ _ _ _ _ _ _ _ _ _ _ _ _ _ _ _ _ _ _ _ _ _ _
      | exact ih1 _ _ _ _ _ _ _ _ _ _ _ _ _ _ _ _ _ _ _ _ _
      | exact ih2 _ _ _ _ _ _ _ _
      | exact impl_LineStep.mono _ _ _ _ _ _ _ _
      | exact laws_eqLine.mono _ _ _ _ _ _ _ _ _ _ _ _ _
      | exact laws_heldLine.mono _ _ _ _ _ _ _ _
      | exact laws_markLine.mono _ _ _ _ _ _ _ _
      | exact laws_toLine.mono _ _ _ _ _ _ _
      | exact spec_LineStep.mono _ _ _ _ _ _ _ _
      | exact LeO.none _
      | refine LeO.ite ?_ ?_
      | refine LeO.bind ?_ (fun _ => ?_)
theorem laws_FnExactLineStep.mono : ∀ a0 a1 a2 a3 a4 a5 a6 k, LeO (laws_FnExactLineStep.f k a0 a1 a2 a3 a4 a5 a6) (laws_FnExactLineStep.f (k + 1) a0 a1 a2 a3 a4 a5 a6) := by
  intro a0 a1 a2 a3 a4 a5 a6 k
  obtain ⟨ih0, ih1, ih2⟩ := laws_FnExactLineStep.mono_l k
  unfold laws_FnExactLineStep.f
  repeat' first
      | (with_reducible exact ih0 _ _ _ _ _ _ _ _ _ _ _ _ _ _ _ _ _ _ _ _ _ _ _ _ _ _ _ _)
      | (with_reducible exact ih1 _ _ _ _ _ _ _ _ _ _ _ _ _ _ _ _ _ _ _ _ _)
      | (with_reducible exact ih2 _ _ _ _ _ _ _ _)
      | (with_reducible exact impl_LineStep.mono _ _ _ _ _ _ _ _)
      | (with_reducible exact laws_eqLine.mono _ _ _ _ _ _ _ _ _ _ _ _ _)
      | (with_reducible exact laws_heldLine.mono _ _ _ _ _ _ _ _)
      | (with_reducible exact laws_markLine.mono _ _ _ _ _ _ _ _)
      | (with_reducible exact laws_toLine.mono _ _ _ _ _ _ _)
      | (with_reducible exact spec_LineStep.mono _ _ _ _ _ _ _ _)
      | (with_reducible exact LeO.refl _)
      | (with_reducible exact LeO.none _)
      | (with_reducible refine LeO.ite ?_ ?_)
      | (with_reducible refine LeO.bind ?_ (fun _ => ?_))
      | exact ih0 _ _ _ _ _ _ _ _ _ _ _ _ _ _ _ _ _ _ _ _ _ _ _ _ _ _ _ _
      | exact ih1 _ _ _ _ _ _ _ _ _ _ _ _ _ _ _ _ _ _ _ _ _
      | exact ih2 _ _ _ _ _ _ _ _
      | exact impl_LineStep.mono _ _ _ _ _ _ _ _
      | exact laws_eqLine.mono _ _ _ _ _ _ _ _ _ _ _ _ _
      | exact laws_heldLine.mono _ _ _ _ _ _ _ _
      | exact laws_markLine.mono _ _ _ _ _ _ _ _
      | exact laws_toLine.mono _ _ _ _ _ _ _
      | exact spec_LineStep.mono _ _ _ _ _ _ _ _
      | exact LeO.none _
      | refine LeO.ite ?_ ?_
      | refine LeO.bind ?_ (fun _ => ?_)
set_option maxHeartbeats 8000000 in
set_option maxRecDepth 100000 in
theorem laws_FnExactLineStep.calls (k : Nat) (a0_0 : Int) (a0_1 : Int) (A0_2 : Option Addr) (c0_2 : Nat) (l0_2 : List Int) (A0_3 : Option Addr) (c0_3 : Nat) (l0_3 : List Int) (a0_4 : Int) (a0_5 : Bool) (a1 : Int) (r : Bool) (w : World) (hr0_2 : Kd.C (Kd.int .i64) w A0_2 l0_2.length l0_2) (hc0_2 : l0_2.length ≤ c0_2) (hr0_3 : Kd.C (Kd.int .i64) w A0_3 l0_3.length l0_3) (hc0_3 : l0_3.length ≤ c0_3) (hT : r = true) (h : laws_FnExactLineStep.f k a0_0 a0_1 l0_2 l0_3 a0_4 a0_5 a1 = some r) :
    Calls Try.prog 8 #[.agg #[.int .i64 a0_0, .int .i64 a0_1, .slice A0_2 l0_2.length c0_2, .slice A0_3 l0_3.length c0_3, .int .i64 a0_4, .bool a0_5], .int .i64 a1] w fun e w' => e = .returned (.bool r) ∧ Below w.heap.size w w' := by
  have hu38 := Try.underlying38
  have hu28 := Try.underlying28
  have HR0_2 := Aside0.mk hr0_2
  have HC0_2 := Aside0.mk hc0_2
  (try clear hr0_2); (try clear hc0_2)
  have HR0_3 := Aside0.mk hr0_3
  have HC0_3 := Aside0.mk hc0_3
  (try clear hr0_3); (try clear hc0_3)
  replace hT := Aside0.mk hT
  have HB := Aside0.mk (Below.refl w.heap.size w)
  have H : ((laws_szLine.f a0_0 a0_1 l0_2 l0_3 a0_4 a0_5 1048576).bind fun t236 => (if t236 < 0 then (some true) else ((laws_toLine.f k a0_0 a0_1 l0_2 l0_3 a0_4 a0_5).bind fun bt237 => ((spec_LineStep.f k bt237.1 bt237.2.1 bt237.2.2.1 bt237.2.2.2.1 bt237.2.2.2.2.1 bt237.2.2.2.2.2 a1).bind fun bt247 => ((laws_toLine.f k a0_0 a0_1 l0_2 l0_3 a0_4 a0_5).bind fun bt259 => ((impl_LineStep.f k bt259.1 bt259.2.1 bt259.2.2.1 bt259.2.2.2.1 bt259.2.2.2.2.1 bt259.2.2.2.2.2 a1).bind fun bt270 => ((laws_eqLine.f k bt270.1 bt270.2.1 bt270.2.2.1 bt270.2.2.2.1 bt270.2.2.2.2.1 bt270.2.2.2.2.2.1 bt247.1 bt247.2.1 bt247.2.2.1 bt247.2.2.2.1 bt247.2.2.2.2.1 bt247.2.2.2.2.2.1).bind fun t282 => (if t282 = true then (laws_FnExactLineStep.j0 k a1 bt247.2.2.2.2.2.2 bt270.2.2.2.2.2.2 (bt270.2.2.2.2.2.2 != bt247.2.2.2.2.2.2) a0_0 a0_1 l0_2 l0_3 a0_4 a0_5 bt247.1 bt247.2.1 bt247.2.2.1 bt247.2.2.2.1 bt247.2.2.2.2.1 bt247.2.2.2.2.2.1 bt259.1 bt259.2.1 bt259.2.2.1 bt259.2.2.2.1 bt259.2.2.2.2.1 bt259.2.2.2.2.2 bt270.1 bt270.2.1 bt270.2.2.1 bt270.2.2.2.1 bt270.2.2.2.2.1 bt270.2.2.2.2.2.1) else (laws_FnExactLineStep.j0 k a1 bt247.2.2.2.2.2.2 bt270.2.2.2.2.2.2 true a0_0 a0_1 l0_2 l0_3 a0_4 a0_5 bt247.1 bt247.2.1 bt247.2.2.1 bt247.2.2.2.1 bt247.2.2.2.2.1 bt247.2.2.2.2.2.1 bt259.1 bt259.2.1 bt259.2.2.1 bt259.2.2.2.1 bt259.2.2.2.2.1 bt259.2.2.2.2.2 bt270.1 bt270.2.1 bt270.2.2.1 bt270.2.2.2.1 bt270.2.2.2.2.1 bt270.2.2.2.2.2.1))))))))) = some r := h
  clear h
  replace H := Option.bind_eq_some_iff.mp H
  obtain ⟨t236, A30, H⟩ := H
  replace H : (if t236 < 0 then (some true) else ((laws_toLine.f k a0_0 a0_1 l0_2 l0_3 a0_4 a0_5).bind fun bt237 => ((spec_LineStep.f k bt237.1 bt237.2.1 bt237.2.2.1 bt237.2.2.2.1 bt237.2.2.2.2.1 bt237.2.2.2.2.2 a1).bind fun bt247 => ((laws_toLine.f k a0_0 a0_1 l0_2 l0_3 a0_4 a0_5).bind fun bt259 => ((impl_LineStep.f k bt259.1 bt259.2.1 bt259.2.2.1 bt259.2.2.2.1 bt259.2.2.2.2.1 bt259.2.2.2.2.2 a1).bind fun bt270 => ((laws_eqLine.f k bt270.1 bt270.2.1 bt270.2.2.1 bt270.2.2.2.1 bt270.2.2.2.2.1 bt270.2.2.2.2.2.1 bt247.1 bt247.2.1 bt247.2.2.1 bt247.2.2.2.1 bt247.2.2.2.2.1 bt247.2.2.2.2.2.1).bind fun t282 => (if t282 = true then (laws_FnExactLineStep.j0 k a1 bt247.2.2.2.2.2.2 bt270.2.2.2.2.2.2 (bt270.2.2.2.2.2.2 != bt247.2.2.2.2.2.2) a0_0 a0_1 l0_2 l0_3 a0_4 a0_5 bt247.1 bt247.2.1 bt247.2.2.1 bt247.2.2.2.1 bt247.2.2.2.2.1 bt247.2.2.2.2.2.1 bt259.1 bt259.2.1 bt259.2.2.1 bt259.2.2.2.1 bt259.2.2.2.2.1 bt259.2.2.2.2.2 bt270.1 bt270.2.1 bt270.2.2.1 bt270.2.2.2.1 bt270.2.2.2.2.1 bt270.2.2.2.2.2.1) else (laws_FnExactLineStep.j0 k a1 bt247.2.2.2.2.2.2 bt270.2.2.2.2.2.2 true a0_0 a0_1 l0_2 l0_3 a0_4 a0_5 bt247.1 bt247.2.1 bt247.2.2.1 bt247.2.2.2.1 bt247.2.2.2.2.1 bt247.2.2.2.2.2.1 bt259.1 bt259.2.1 bt259.2.2.1 bt259.2.2.2.1 bt259.2.2.2.2.1 bt259.2.2.2.2.2 bt270.1 bt270.2.1 bt270.2.2.1 bt270.2.2.2.1 bt270.2.2.2.2.1 bt270.2.2.2.2.2.1)))))))) = some r := H
  have A3 := Aside0.mk A30
  clear A30
  by_cases c4 : t236 < 0
  · rw [if_pos c4] at H
    have c4b0 : decide (t236 < 0) = true := decide_eq_true c4
    clear c4
    obtain rfl := Option.some.inj H
    go_enter Try.func8, Try.ntmps8
    go_wp2_with (first | ((with_reducible refine gate_dst (N := 2) rfl ?_); refine box_event ?hg (N := 2) ?hd (cs := #[.int .i64 a0_0, .int .i64 a0_1, .slice A0_2 l0_2.length c0_2, .slice A0_3 l0_3.length c0_3, .int .i64 a0_4, .bool a0_5]) (t := 38) ?hr ?_; (case hd => rfl); (case hg => rfl); (case hr => first | (go_simp; done) | (go_simp; rfl)); intro gb235 hg w5 hbox hb; have n0_ := Aside0.mk (below_step (by repeat (first | (with_reducible first | exact HB.out | apply Fix.bA | apply Fix.bN | apply Fix.b1) | exact HB.out)) hb); have n1_ := Aside0.mk (hbox); have n2_ := Aside0.mk ((by rw [hg]; exact (below_size (by repeat (first | (with_reducible first | exact HB.out | apply Fix.bA | apply Fix.bN | apply Fix.b1) | exact HB.out))) : w.heap.size ≤ gb235)); have n3_ := Aside0.mk ((by rw [hg]; exact (below_size (by repeat (first | (with_reducible first | exact HB.out | apply Fix.bA | apply Fix.bN | apply Fix.b1) | exact HB.out))) : w.heap.size ≤ gb235)); clear HB; have HB := n0_; have BK235 := n1_; have GW235 := n2_; have GE235 := n3_; clear n0_ n1_ n2_ n3_; clear hb hbox hg; obtain ⟨hcz6_0, hcz6_1, hcz6_2, hcz6_3, hcz6_4, hcz6_5, hfz6_0, hfz6_1, hfz6_2, hfz6_3, hfz6_4, hfz6_5⟩ := Fix.d6 BK235.out) | ((with_reducible refine gate_callee (f := 22) rfl ?_); refine goesL_ (some 18) rfl rfl Try.func22 (by kernel_rfl) rfl #[.agg #[.int .i64 a0_0, .int .i64 a0_1, .slice A0_2 l0_2.length c0_2, .slice A0_3 l0_3.length c0_3, .int .i64 a0_4, .bool a0_5], .int .i64 1048576] rfl (by (try simp only [List.map_toArray, List.map_cons, List.map_nil]); first | done | rfl | (simp only [List.length_drop, List.length_take]; rfl)) ?_; (with_reducible refine (laws_szLine.calls a0_0 a0_1 _ _ l0_2 _ _ l0_3 a0_4 a0_5 1048576 t236 _ ?side1 ?side2 ?side3 ?side4 A3.out).mono ?_); (case side1 => repeat (first | exact (Kd.C_below HR0_2.out HB.out) | (with_reducible refine Kd.C_alloc ?_ _) | (with_reducible refine Kd.C_drewN ?_ _) | (with_reducible refine Kd.C_drew ?_))); (case side2 => exact HC0_2.out); (case side3 => repeat (first | exact (Kd.C_below HR0_3.out HB.out) | (with_reducible refine Kd.C_alloc ?_ _) | (with_reducible refine Kd.C_drewN ?_ _) | (with_reducible refine Kd.C_drew ?_))); (case side4 => exact HC0_3.out); rintro e w7 ⟨rfl, hb⟩; refine ⟨_, rfl, ?_⟩; have n0_ := Aside0.mk (blk_below (g := gb235) (o := .cells #[.int .i64 a0_0, .int .i64 a0_1, .slice A0_2 l0_2.length c0_2, .slice A0_3 l0_3.length c0_3, .int .i64 a0_4, .bool a0_5] 38 (0, 0)) (by (with_reducible repeat (first | refine Fix.kN ?_ _ | refine Fix.kD ?_ | refine Fix.kA ?_ _)); exact BK235.out) hb); have n1_ := Aside0.mk (below_step (by repeat (first | (with_reducible first | exact HB.out | apply Fix.bA | apply Fix.bN | apply Fix.b1 | refine below_set ?_ GE235.out) | exact HB.out)) hb); clear BK235; clear HB; have BK235 := n0_; have HB := n1_; clear n0_ n1_; (try clear hb); (try clear hb2); (try clear hk); (try clear hi)))
    go_ret
    exact ⟨by first | rfl | (simp [errW_none, errW_some] <;> rfl) | (simp [*, errW_none, errW_some] <;> rfl), by repeat (first | (with_reducible first | exact HB.out | apply Fix.bA | apply Fix.bN | apply Fix.b1 | refine below_set ?_ GE235.out) | exact HB.out)⟩
  · rw [if_neg c4] at H
    have c4b0 : decide (t236 < 0) = false := decide_eq_false c4
    clear c4
    replace H := Option.bind_eq_some_iff.mp H
    obtain ⟨⟨t237, t238, t239, t242, t245, t246⟩, A80, H⟩ := H
    replace H : ((spec_LineStep.f k t237 t238 t239 t242 t245 t246 a1).bind fun bt247 => ((laws_toLine.f k a0_0 a0_1 l0_2 l0_3 a0_4 a0_5).bind fun bt259 => ((impl_LineStep.f k bt259.1 bt259.2.1 bt259.2.2.1 bt259.2.2.2.1 bt259.2.2.2.2.1 bt259.2.2.2.2.2 a1).bind fun bt270 => ((laws_eqLine.f k bt270.1 bt270.2.1 bt270.2.2.1 bt270.2.2.2.1 bt270.2.2.2.2.1 bt270.2.2.2.2.2.1 bt247.1 bt247.2.1 bt247.2.2.1 bt247.2.2.2.1 bt247.2.2.2.2.1 bt247.2.2.2.2.2.1).bind fun t282 => (if t282 = true then (laws_FnExactLineStep.j0 k a1 bt247.2.2.2.2.2.2 bt270.2.2.2.2.2.2 (bt270.2.2.2.2.2.2 != bt247.2.2.2.2.2.2) a0_0 a0_1 l0_2 l0_3 a0_4 a0_5 bt247.1 bt247.2.1 bt247.2.2.1 bt247.2.2.2.1 bt247.2.2.2.2.1 bt247.2.2.2.2.2.1 bt259.1 bt259.2.1 bt259.2.2.1 bt259.2.2.2.1 bt259.2.2.2.2.1 bt259.2.2.2.2.2 bt270.1 bt270.2.1 bt270.2.2.1 bt270.2.2.2.1 bt270.2.2.2.2.1 bt270.2.2.2.2.2.1) else (laws_FnExactLineStep.j0 k a1 bt247.2.2.2.2.2.2 bt270.2.2.2.2.2.2 true a0_0 a0_1 l0_2 l0_3 a0_4 a0_5 bt247.1 bt247.2.1 bt247.2.2.1 bt247.2.2.2.1 bt247.2.2.2.2.1 bt247.2.2.2.2.2.1 bt259.1 bt259.2.1 bt259.2.2.1 bt259.2.2.2.1 bt259.2.2.2.2.1 bt259.2.2.2.2.2 bt270.1 bt270.2.1 bt270.2.2.1 bt270.2.2.2.1 bt270.2.2.2.2.1 bt270.2.2.2.2.2.1)))))) = some r := H
    have A8 := Aside0.mk A80
    clear A80
    replace H := Option.bind_eq_some_iff.mp H
    obtain ⟨⟨t247, t248, t249, t252, t255, t256, t257⟩, A90, H⟩ := H
    replace H : ((laws_toLine.f k a0_0 a0_1 l0_2 l0_3 a0_4 a0_5).bind fun bt259 => ((impl_LineStep.f k bt259.1 bt259.2.1 bt259.2.2.1 bt259.2.2.2.1 bt259.2.2.2.2.1 bt259.2.2.2.2.2 a1).bind fun bt270 => ((laws_eqLine.f k bt270.1 bt270.2.1 bt270.2.2.1 bt270.2.2.2.1 bt270.2.2.2.2.1 bt270.2.2.2.2.2.1 t247 t248 t249 t252 t255 t256).bind fun t282 => (if t282 = true then (laws_FnExactLineStep.j0 k a1 t257 bt270.2.2.2.2.2.2 (bt270.2.2.2.2.2.2 != t257) a0_0 a0_1 l0_2 l0_3 a0_4 a0_5 t247 t248 t249 t252 t255 t256 bt259.1 bt259.2.1 bt259.2.2.1 bt259.2.2.2.1 bt259.2.2.2.2.1 bt259.2.2.2.2.2 bt270.1 bt270.2.1 bt270.2.2.1 bt270.2.2.2.1 bt270.2.2.2.2.1 bt270.2.2.2.2.2.1) else (laws_FnExactLineStep.j0 k a1 t257 bt270.2.2.2.2.2.2 true a0_0 a0_1 l0_2 l0_3 a0_4 a0_5 t247 t248 t249 t252 t255 t256 bt259.1 bt259.2.1 bt259.2.2.1 bt259.2.2.2.1 bt259.2.2.2.2.1 bt259.2.2.2.2.2 bt270.1 bt270.2.1 bt270.2.2.1 bt270.2.2.2.1 bt270.2.2.2.2.1 bt270.2.2.2.2.2.1))))) = some r := H
    have A9 := Aside0.mk A90
    clear A90
    replace H := Option.bind_eq_some_iff.mp H
    obtain ⟨⟨t259, t260, t261, t264, t267, t268⟩, A100, H⟩ := H
    replace H : ((impl_LineStep.f k t259 t260 t261 t264 t267 t268 a1).bind fun bt270 => ((laws_eqLine.f k bt270.1 bt270.2.1 bt270.2.2.1 bt270.2.2.2.1 bt270.2.2.2.2.1 bt270.2.2.2.2.2.1 t247 t248 t249 t252 t255 t256).bind fun t282 => (if t282 = true then (laws_FnExactLineStep.j0 k a1 t257 bt270.2.2.2.2.2.2 (bt270.2.2.2.2.2.2 != t257) a0_0 a0_1 l0_2 l0_3 a0_4 a0_5 t247 t248 t249 t252 t255 t256 t259 t260 t261 t264 t267 t268 bt270.1 bt270.2.1 bt270.2.2.1 bt270.2.2.2.1 bt270.2.2.2.2.1 bt270.2.2.2.2.2.1) else (laws_FnExactLineStep.j0 k a1 t257 bt270.2.2.2.2.2.2 true a0_0 a0_1 l0_2 l0_3 a0_4 a0_5 t247 t248 t249 t252 t255 t256 t259 t260 t261 t264 t267 t268 bt270.1 bt270.2.1 bt270.2.2.1 bt270.2.2.2.1 bt270.2.2.2.2.1 bt270.2.2.2.2.2.1)))) = some r := H
    have A10 := Aside0.mk A100
    clear A100
    replace H := Option.bind_eq_some_iff.mp H
    obtain ⟨⟨t270, t271, t272, t275, t278, t279, t280⟩, A110, H⟩ := H
    replace H : ((laws_eqLine.f k t270 t271 t272 t275 t278 t279 t247 t248 t249 t252 t255 t256).bind fun t282 => (if t282 = true then (laws_FnExactLineStep.j0 k a1 t257 t280 (t280 != t257) a0_0 a0_1 l0_2 l0_3 a0_4 a0_5 t247 t248 t249 t252 t255 t256 t259 t260 t261 t264 t267 t268 t270 t271 t272 t275 t278 t279) else (laws_FnExactLineStep.j0 k a1 t257 t280 true a0_0 a0_1 l0_2 l0_3 a0_4 a0_5 t247 t248 t249 t252 t255 t256 t259 t260 t261 t264 t267 t268 t270 t271 t272 t275 t278 t279))) = some r := H
    have A11 := Aside0.mk A110
    clear A110
    have HC12 := Aside0.mk H
    clear H
    go_enter Try.func8, Try.ntmps8
    go_upto_region 8 with (first | ((with_reducible refine gate_dst (N := 2) rfl ?_); refine box_event ?hg (N := 2) ?hd (cs := #[.int .i64 a0_0, .int .i64 a0_1, .slice A0_2 l0_2.length c0_2, .slice A0_3 l0_3.length c0_3, .int .i64 a0_4, .bool a0_5]) (t := 38) ?hr ?_; (case hd => rfl); (case hg => rfl); (case hr => first | (go_simp; done) | (go_simp; rfl)); intro gb235 hg w13 hbox hb; have n0_ := Aside0.mk (below_step (by repeat (first | (with_reducible first | exact HB.out | apply Fix.bA | apply Fix.bN | apply Fix.b1) | exact HB.out)) hb); have n1_ := Aside0.mk (hbox); have n2_ := Aside0.mk ((by rw [hg]; exact (below_size (by repeat (first | (with_reducible first | exact HB.out | apply Fix.bA | apply Fix.bN | apply Fix.b1) | exact HB.out))) : w.heap.size ≤ gb235)); have n3_ := Aside0.mk ((by rw [hg]; exact (below_size (by repeat (first | (with_reducible first | exact HB.out | apply Fix.bA | apply Fix.bN | apply Fix.b1) | exact HB.out))) : w.heap.size ≤ gb235)); clear HB; have HB := n0_; have BK235 := n1_; have GW235 := n2_; have GE235 := n3_; clear n0_ n1_ n2_ n3_; clear hb hbox hg; obtain ⟨hcz14_0, hcz14_1, hcz14_2, hcz14_3, hcz14_4, hcz14_5, hfz14_0, hfz14_1, hfz14_2, hfz14_3, hfz14_4, hfz14_5⟩ := Fix.d6 BK235.out) | ((with_reducible refine gate_callee (f := 22) rfl ?_); refine goesL_ (some 18) rfl rfl Try.func22 (by kernel_rfl) rfl #[.agg #[.int .i64 a0_0, .int .i64 a0_1, .slice A0_2 l0_2.length c0_2, .slice A0_3 l0_3.length c0_3, .int .i64 a0_4, .bool a0_5], .int .i64 1048576] rfl (by (try simp only [List.map_toArray, List.map_cons, List.map_nil]); first | done | rfl | (simp only [List.length_drop, List.length_take]; rfl)) ?_; (with_reducible refine (laws_szLine.calls a0_0 a0_1 _ _ l0_2 _ _ l0_3 a0_4 a0_5 1048576 t236 _ ?side1 ?side2 ?side3 ?side4 A3.out).mono ?_); (case side1 => repeat (first | exact (Kd.C_below HR0_2.out HB.out) | (with_reducible refine Kd.C_alloc ?_ _) | (with_reducible refine Kd.C_drewN ?_ _) | (with_reducible refine Kd.C_drew ?_))); (case side2 => exact HC0_2.out); (case side3 => repeat (first | exact (Kd.C_below HR0_3.out HB.out) | (with_reducible refine Kd.C_alloc ?_ _) | (with_reducible refine Kd.C_drewN ?_ _) | (with_reducible refine Kd.C_drew ?_))); (case side4 => exact HC0_3.out); rintro e w15 ⟨rfl, hb⟩; refine ⟨_, rfl, ?_⟩; have n0_ := Aside0.mk (blk_below (g := gb235) (o := .cells #[.int .i64 a0_0, .int .i64 a0_1, .slice A0_2 l0_2.length c0_2, .slice A0_3 l0_3.length c0_3, .int .i64 a0_4, .bool a0_5] 38 (0, 0)) (by (with_reducible repeat (first | refine Fix.kN ?_ _ | refine Fix.kD ?_ | refine Fix.kA ?_ _)); exact BK235.out) hb); have n1_ := Aside0.mk (below_step (by repeat (first | (with_reducible first | exact HB.out | apply Fix.bA | apply Fix.bN | apply Fix.b1 | refine below_set ?_ GE235.out) | exact HB.out)) hb); clear BK235; clear HB; have BK235 := n0_; have HB := n1_; clear n0_ n1_; (try clear hb); (try clear hb2); (try clear hk); (try clear hi); obtain ⟨hcz16_0, hcz16_1, hcz16_2, hcz16_3, hcz16_4, hcz16_5, hfz16_0, hfz16_1, hfz16_2, hfz16_3, hfz16_4, hfz16_5⟩ := Fix.d6 BK235.out) | ((with_reducible refine gate_callee (f := 24) rfl ?_); refine goesL_ (some 23) rfl rfl Try.func24 (by kernel_rfl) rfl #[.agg #[.int .i64 a0_0, .int .i64 a0_1, .slice A0_2 l0_2.length c0_2, .slice A0_3 l0_3.length c0_3, .int .i64 a0_4, .bool a0_5]] rfl (by (try simp only [List.map_toArray, List.map_cons, List.map_nil]); first | done | rfl | (simp only [List.length_drop, List.length_take]; rfl)) ?_; (with_reducible refine (laws_toLine.calls k a0_0 a0_1 _ _ l0_2 _ _ l0_3 a0_4 a0_5 t237 t238 t239 t242 t245 t246 _ ?side1 ?side2 ?side3 ?side4 A8.out).mono ?_); (case side1 => repeat (first | exact (Kd.C_below HR0_2.out HB.out) | (with_reducible refine Kd.C_alloc ?_ _) | (with_reducible refine Kd.C_drewN ?_ _) | (with_reducible refine Kd.C_drew ?_))); (case side2 => exact HC0_2.out); (case side3 => repeat (first | exact (Kd.C_below HR0_3.out HB.out) | (with_reducible refine Kd.C_alloc ?_ _) | (with_reducible refine Kd.C_drewN ?_ _) | (with_reducible refine Kd.C_drew ?_))); (case side4 => exact HC0_3.out); rintro e w17 ⟨v240, v243, rfl, ho0, ho1, hb⟩; refine ⟨_, rfl, ?_⟩; have n0_ := Aside0.mk (Kd.R_lower ho0 (below_size (by repeat (first | (with_reducible first | exact HB.out | apply Fix.bA | apply Fix.bN | apply Fix.b1 | refine below_set ?_ GE235.out) | exact HB.out)))); have n1_ := Aside0.mk (Kd.R_lower ho1 (below_size (by repeat (first | (with_reducible first | exact HB.out | apply Fix.bA | apply Fix.bN | apply Fix.b1 | refine below_set ?_ GE235.out) | exact HB.out)))); have n2_ := Aside0.mk (blk_below (g := gb235) (o := .cells #[.int .i64 a0_0, .int .i64 a0_1, .slice A0_2 l0_2.length c0_2, .slice A0_3 l0_3.length c0_3, .int .i64 a0_4, .bool a0_5] 38 (0, 0)) (by (with_reducible repeat (first | refine Fix.kN ?_ _ | refine Fix.kD ?_ | refine Fix.kA ?_ _)); exact BK235.out) hb); have n3_ := Aside0.mk (below_step (by repeat (first | (with_reducible first | exact HB.out | apply Fix.bA | apply Fix.bN | apply Fix.b1 | refine below_set ?_ GE235.out) | exact HB.out)) hb); clear BK235; clear HB; have HO241 := n0_; have HO244 := n1_; have BK235 := n2_; have HB := n3_; clear n0_ n1_ n2_ n3_; (try clear hb); (try clear hb2); (try clear hk); (try clear hi); (try clear ho0); (try clear ho1); obtain ⟨Ao18, co18, eo18⟩ := Kd.R_slice HO241.out; subst eo18; obtain ⟨Ao19, co19, eo19⟩ := Kd.R_slice HO244.out; subst eo19) | ((with_reducible refine gate_callee (f := 28) rfl ?_); refine goesL_ (some 25) rfl rfl Try.func28 (by kernel_rfl) rfl #[.agg #[.int .i64 t237, .int .i64 t238, .slice Ao18 t239.length co18, .slice Ao19 t242.length co19, .int .i64 t245, .bool t246], .int .i64 a1] rfl (by (try simp only [List.map_toArray, List.map_cons, List.map_nil]); first | done | rfl | (simp only [List.length_drop, List.length_take]; rfl)) ?_; (with_reducible refine (spec_LineStep.calls k t237 t238 _ _ t239 _ _ t242 t245 t246 a1 t247 t248 t249 t252 t255 t256 t257 _ ?side1 ?side2 ?side3 ?side4 A9.out).mono ?_); (case side1 => repeat (first | exact (Kd.R_reads' HO241.out).2.2 | (with_reducible refine Kd.C_alloc ?_ _) | (with_reducible refine Kd.C_drewN ?_ _) | (with_reducible refine Kd.C_drew ?_))); (case side2 => exact (Kd.R_reads' HO241.out).2.1); (case side3 => repeat (first | exact (Kd.R_reads' HO244.out).2.2 | (with_reducible refine Kd.C_alloc ?_ _) | (with_reducible refine Kd.C_drewN ?_ _) | (with_reducible refine Kd.C_drew ?_))); (case side4 => exact (Kd.R_reads' HO244.out).2.1); rintro e w20 ⟨v250, v253, rfl, ho0, ho1, hb⟩; refine ⟨_, rfl, ?_⟩; have n0_ := Aside0.mk (Kd.R_mono (Kd.R_told (Kd.R_told (Kd.R_old (by (with_reducible repeat (first | apply Kd.R_alloc | apply Kd.R_drewN | apply Kd.R_drew)); exact HO241.out) hb) (Kd.Q_base ho0)) (Kd.R_base ho1)) (fun _ h_ => h_.1)); have n1_ := Aside0.mk (Kd.R_mono (Kd.R_told (Kd.R_told (Kd.R_old (by (with_reducible repeat (first | apply Kd.R_alloc | apply Kd.R_drewN | apply Kd.R_drew)); exact HO244.out) hb) (Kd.Q_base ho0)) (Kd.R_base ho1)) (fun _ h_ => h_.1)); have n2_ := Aside0.mk (Kd.Q_lower (Kd.Q_new' (Kd.Q_new' ho0 (Kd.R_lt (by (with_reducible repeat (first | apply Kd.R_alloc | apply Kd.R_drewN | apply Kd.R_drew)); exact HO241.out))) (Kd.R_lt (by (with_reducible repeat (first | apply Kd.R_alloc | apply Kd.R_drewN | apply Kd.R_drew)); exact HO244.out))) (below_size (by repeat (first | (with_reducible first | exact HB.out | apply Fix.bA | apply Fix.bN | apply Fix.b1 | refine below_set ?_ GE235.out) | exact HB.out)))); have n3_ := Aside0.mk (Kd.R_lower (Kd.R_new' (Kd.R_new' ho1 (Kd.R_lt (by (with_reducible repeat (first | apply Kd.R_alloc | apply Kd.R_drewN | apply Kd.R_drew)); exact HO241.out))) (Kd.R_lt (by (with_reducible repeat (first | apply Kd.R_alloc | apply Kd.R_drewN | apply Kd.R_drew)); exact HO244.out))) (below_size (by repeat (first | (with_reducible first | exact HB.out | apply Fix.bA | apply Fix.bN | apply Fix.b1 | refine below_set ?_ GE235.out) | exact HB.out)))); have n4_ := Aside0.mk (blk_below (g := gb235) (o := .cells #[.int .i64 a0_0, .int .i64 a0_1, .slice A0_2 l0_2.length c0_2, .slice A0_3 l0_3.length c0_3, .int .i64 a0_4, .bool a0_5] 38 (0, 0)) (by (with_reducible repeat (first | refine Fix.kN ?_ _ | refine Fix.kD ?_ | refine Fix.kA ?_ _)); exact BK235.out) hb); have n5_ := Aside0.mk (below_step (by repeat (first | (with_reducible first | exact HB.out | apply Fix.bA | apply Fix.bN | apply Fix.b1 | refine below_set ?_ GE235.out) | exact HB.out)) hb); clear HO241; clear HO244; clear BK235; clear HB; have HO241 := n0_; have HO244 := n1_; have HO251 := n2_; have HO254 := n3_; have BK235 := n4_; have HB := n5_; clear n0_ n1_ n2_ n3_ n4_ n5_; (try clear hb); (try clear hb2); (try clear hk); (try clear hi); (try clear ho0); (try clear ho1)) | ((with_reducible refine gate_dst (N := 6) rfl ?_); refine box_event ?hg (N := 6) ?hd (cs := #[.int .i64 0, .int .i64 0, .slice none 0 0, .slice none 0 0, .int .i64 0, .bool false]) (t := 28) ?hr ?_; (case hd => rfl); (case hg => rfl); (case hr => first | (go_simp; done) | (go_simp; rfl)); intro gb258 hg w21 hbox hb; have n0_ := Aside0.mk (Kd.R_below (by (with_reducible repeat (first | apply Kd.R_alloc | apply Kd.R_drewN | apply Kd.R_drew)); exact HO241.out) hb); have n1_ := Aside0.mk (Kd.R_below (by (with_reducible repeat (first | apply Kd.R_alloc | apply Kd.R_drewN | apply Kd.R_drew)); exact HO244.out) hb); have n2_ := Aside0.mk (Kd.Q_below (by (with_reducible repeat (first | apply Kd.Q_alloc | apply Kd.Q_drewN | apply Kd.Q_drew)); exact HO251.out) hb); have n3_ := Aside0.mk (Kd.R_below (by (with_reducible repeat (first | apply Kd.R_alloc | apply Kd.R_drewN | apply Kd.R_drew)); exact HO254.out) hb); have n4_ := Aside0.mk (blk_below (g := gb235) (o := .cells #[.int .i64 a0_0, .int .i64 a0_1, .slice A0_2 l0_2.length c0_2, .slice A0_3 l0_3.length c0_3, .int .i64 a0_4, .bool a0_5] 38 (0, 0)) (by (with_reducible repeat (first | refine Fix.kN ?_ _ | refine Fix.kD ?_ | refine Fix.kA ?_ _)); exact BK235.out) hb); have n5_ := Aside0.mk (below_step (by repeat (first | (with_reducible first | exact HB.out | apply Fix.bA | apply Fix.bN | apply Fix.b1 | refine below_set ?_ GE235.out) | exact HB.out)) hb); have n6_ := Aside0.mk (hbox); have n7_ := Aside0.mk ((by rw [hg]; exact (below_size (by repeat (first | (with_reducible first | exact HB.out | apply Fix.bA | apply Fix.bN | apply Fix.b1 | refine below_set ?_ GE235.out) | exact HB.out))) : w.heap.size ≤ gb258)); have n8_ := Aside0.mk ((by rw [hg]; exact (below_size (by repeat (first | (with_reducible first | exact HB.out | apply Fix.bA | apply Fix.bN | apply Fix.b1 | refine below_set ?_ GE235.out) | exact HB.out))) : w.heap.size ≤ gb258)); have n9_ := Aside0.mk ((by rw [hg]; exact Nat.ne_of_lt (blk_lt (g := gb235) (o := .cells #[.int .i64 a0_0, .int .i64 a0_1, .slice A0_2 l0_2.length c0_2, .slice A0_3 l0_3.length c0_3, .int .i64 a0_4, .bool a0_5] 38 (0, 0)) (by (with_reducible repeat (first | refine Fix.kN ?_ _ | refine Fix.kD ?_ | refine Fix.kA ?_ _)); exact BK235.out)) : gb235 ≠ gb258)); have n10_ := Aside0.mk ((by rw [hg]; exact Nat.ne_of_gt (blk_lt (g := gb235) (o := .cells #[.int .i64 a0_0, .int .i64 a0_1, .slice A0_2 l0_2.length c0_2, .slice A0_3 l0_3.length c0_3, .int .i64 a0_4, .bool a0_5] 38 (0, 0)) (by (with_reducible repeat (first | refine Fix.kN ?_ _ | refine Fix.kD ?_ | refine Fix.kA ?_ _)); exact BK235.out)) : gb258 ≠ gb235)); clear HO241; clear HO244; clear HO251; clear HO254; clear BK235; clear HB; have HO241 := n0_; have HO244 := n1_; have HO251 := n2_; have HO254 := n3_; have BK235 := n4_; have HB := n5_; have BK258 := n6_; have GW258 := n7_; have GE258 := n8_; have NB235_258 := n9_; have NB258_235 := n10_; clear n0_ n1_ n2_ n3_ n4_ n5_ n6_ n7_ n8_ n9_ n10_; clear hb hbox hg; have hnb22 := NB258_235.out; have hnc22 := NB235_258.out; obtain ⟨hcz23_0, hcz23_1, hcz23_2, hcz23_3, hcz23_4, hcz23_5, hfz23_0, hfz23_1, hfz23_2, hfz23_3, hfz23_4, hfz23_5⟩ := Fix.d6 BK258.out; obtain ⟨Ao24, co24, eo24, _⟩ := Kd.Q_slice HO251.out; subst eo24; obtain ⟨Ao25, co25, eo25⟩ := Kd.R_slice HO254.out; subst eo25) | ((with_reducible refine gate_store (t := 28) (p := 6) rfl ?_); refine store_event (t := 28) (p := 6) (v := ?vo_w26) (w1 := ((((((w21.setCell ⟨gb258, 0, none⟩ (.int .i64 t247)).setCell ⟨gb258, 1, none⟩ (.int .i64 t248)).setCell ⟨gb258, 2, none⟩ (.slice Ao24 t249.length co24)).setCell ⟨gb258, 3, none⟩ (.slice Ao25 t252.length co25)).setCell ⟨gb258, 4, none⟩ (.int .i64 t255)).setCell ⟨gb258, 5, none⟩ (.bool t256))) ?hg ?ho ?hn ?hr ?_; (case ho => rfl); (case hg => rfl); (case hn => rfl); (case hr => first | (go_simp; done) | (go_simp; rfl)); intro w26 hw; have n0_ : Aside0 (Kd.R (Kd.int .i64) 3 w26 w.heap.size (fun k_ => some k_ ≠ (.slice Ao19 t242.length co19 : Value).ownBlock ∧ some k_ ≠ (.slice Ao24 t249.length co24 : Value).ownBlock ∧ some k_ ≠ (.slice Ao25 t252.length co25 : Value).ownBlock) (.slice Ao18 t239.length co18) t239) := ⟨(by rw [hw]; exact (by (with_reducible repeat (first | apply Kd.R_alloc | apply Kd.R_drewN | apply Kd.R_drew)); exact Kd.R_mono (Fix.R_far6 (g := gb258) (Kd.R_types HO241.out BK258.out (by decide)) (fun _ hk => hk.2) _ _ _ _ _ _) (fun _ hk => ⟨hk.1.1.1, ⟨hk.1.1.2, hk.1.2⟩⟩)))⟩; have n1_ : Aside0 (Kd.R (Kd.int .i64) 3 w26 w.heap.size (fun k_ => some k_ ≠ (.slice Ao18 t239.length co18 : Value).ownBlock ∧ some k_ ≠ (.slice Ao24 t249.length co24 : Value).ownBlock ∧ some k_ ≠ (.slice Ao25 t252.length co25 : Value).ownBlock) (.slice Ao19 t242.length co19) t242) := ⟨(by rw [hw]; exact (by (with_reducible repeat (first | apply Kd.R_alloc | apply Kd.R_drewN | apply Kd.R_drew)); exact Kd.R_mono (Fix.R_far6 (g := gb258) (Kd.R_types HO244.out BK258.out (by decide)) (fun _ hk => hk.2) _ _ _ _ _ _) (fun _ hk => ⟨hk.1.1.1, ⟨hk.1.1.2, hk.1.2⟩⟩)))⟩; have n2_ : Aside0 (Kd.Q (Kd.int .i64) 3 w26 w.heap.size (fun k_ => some k_ ≠ (.slice Ao18 t239.length co18 : Value).ownBlock ∧ some k_ ≠ (.slice Ao19 t242.length co19 : Value).ownBlock ∧ some k_ ≠ (.slice Ao25 t252.length co25 : Value).ownBlock) (.slice Ao24 t249.length co24) t249) := ⟨(by rw [hw]; exact (by (with_reducible repeat (first | apply Kd.Q_alloc | apply Kd.Q_drewN | apply Kd.Q_drew)); exact Kd.Q_mono (Fix.Q_far6 (g := gb258) (Kd.Q_types HO251.out BK258.out (by decide)) (fun _ hk => hk.2) _ _ _ _ _ _) (fun _ hk => ⟨hk.1.1.2, ⟨hk.1.2, hk.1.1.1⟩⟩)))⟩; have n3_ : Aside0 (Kd.R (Kd.int .i64) 3 w26 w.heap.size (fun k_ => some k_ ≠ (.slice Ao18 t239.length co18 : Value).ownBlock ∧ some k_ ≠ (.slice Ao19 t242.length co19 : Value).ownBlock ∧ some k_ ≠ (.slice Ao24 t249.length co24 : Value).ownBlock) (.slice Ao25 t252.length co25) t252) := ⟨(by rw [hw]; exact (by (with_reducible repeat (first | apply Kd.R_alloc | apply Kd.R_drewN | apply Kd.R_drew)); exact Kd.R_mono (Fix.R_far6 (g := gb258) (Kd.R_types HO254.out BK258.out (by decide)) (fun _ hk => hk.2) _ _ _ _ _ _) (fun _ hk => ⟨hk.1.1.2, ⟨hk.1.2, hk.1.1.1⟩⟩)))⟩; have n4_ : Aside0 (w26.heap[gb235]? = some (.cells #[.int .i64 a0_0, .int .i64 a0_1, .slice A0_2 l0_2.length c0_2, .slice A0_3 l0_3.length c0_3, .int .i64 a0_4, .bool a0_5] 38 (0, 0))) := ⟨(by rw [hw]; exact (by (with_reducible repeat (first | refine Fix.kN ?_ _ | refine Fix.kD ?_ | refine Fix.kA ?_ _)); refine Fix.far6 ?_ NB235_258.out _ _ _ _ _ _; (with_reducible repeat (first | refine Fix.kN ?_ _ | refine Fix.kD ?_ | refine Fix.kA ?_ _)); exact BK235.out))⟩; have n5_ : Aside0 (w26.heap[gb258]? = some (.cells #[.int .i64 t247, .int .i64 t248, .slice Ao24 t249.length co24, .slice Ao25 t252.length co25, .int .i64 t255, .bool t256] 28 (0, 0))) := ⟨(by rw [hw]; exact (by (with_reducible repeat (first | refine Fix.kN ?_ _ | refine Fix.kD ?_ | refine Fix.kA ?_ _)); apply Fix.put6; (with_reducible repeat (first | refine Fix.kN ?_ _ | refine Fix.kD ?_ | refine Fix.kA ?_ _)); exact BK258.out))⟩; have n6_ : Aside0 (Below w.heap.size w w26) := ⟨(by rw [hw]; exact (by repeat (first | (with_reducible first | exact HB.out | apply Fix.bA | apply Fix.bN | apply Fix.b1 | refine below_set ?_ GE235.out | refine below_set ?_ GE258.out) | exact HB.out)))⟩; clear hw; clear HO241; clear HO244; clear HO251; clear HO254; clear BK235; clear BK258; clear HB; have HO241 := n0_; have HO244 := n1_; have HO251 := n2_; have HO254 := n3_; have BK235 := n4_; have BK258 := n5_; have HB := n6_; clear n0_ n1_ n2_ n3_ n4_ n5_ n6_; obtain ⟨hcz27_0, hcz27_1, hcz27_2, hcz27_3, hcz27_4, hcz27_5, hfz27_0, hfz27_1, hfz27_2, hfz27_3, hfz27_4, hfz27_5⟩ := Fix.d6 BK235.out) | ((with_reducible refine gate_callee (f := 24) rfl ?_); refine goesL_ (some 29) rfl rfl Try.func24 (by kernel_rfl) rfl #[.agg #[.int .i64 a0_0, .int .i64 a0_1, .slice A0_2 l0_2.length c0_2, .slice A0_3 l0_3.length c0_3, .int .i64 a0_4, .bool a0_5]] rfl (by (try simp only [List.map_toArray, List.map_cons, List.map_nil]); first | done | rfl | (simp only [List.length_drop, List.length_take]; rfl)) ?_; (with_reducible refine (laws_toLine.calls k a0_0 a0_1 _ _ l0_2 _ _ l0_3 a0_4 a0_5 t259 t260 t261 t264 t267 t268 _ ?side1 ?side2 ?side3 ?side4 A10.out).mono ?_); (case side1 => repeat (first | exact (Kd.C_below HR0_2.out HB.out) | (with_reducible refine Kd.C_alloc ?_ _) | (with_reducible refine Kd.C_drewN ?_ _) | (with_reducible refine Kd.C_drew ?_))); (case side2 => exact HC0_2.out); (case side3 => repeat (first | exact (Kd.C_below HR0_3.out HB.out) | (with_reducible refine Kd.C_alloc ?_ _) | (with_reducible refine Kd.C_drewN ?_ _) | (with_reducible refine Kd.C_drew ?_))); (case side4 => exact HC0_3.out); rintro e w28 ⟨v262, v265, rfl, ho0, ho1, hb⟩; refine ⟨_, rfl, ?_⟩; have n0_ := Aside0.mk (Kd.R_mono (Kd.R_told (Kd.R_told (Kd.R_old (by (with_reducible repeat (first | apply Kd.R_alloc | apply Kd.R_drewN | apply Kd.R_drew)); exact HO241.out) hb) (Kd.R_base ho0)) (Kd.R_base ho1)) (fun _ h_ => h_.1)); have n1_ := Aside0.mk (Kd.R_mono (Kd.R_told (Kd.R_told (Kd.R_old (by (with_reducible repeat (first | apply Kd.R_alloc | apply Kd.R_drewN | apply Kd.R_drew)); exact HO244.out) hb) (Kd.R_base ho0)) (Kd.R_base ho1)) (fun _ h_ => h_.1)); have n2_ := Aside0.mk (Kd.Q_mono (Kd.Q_told (Kd.Q_told (Kd.Q_old (by (with_reducible repeat (first | apply Kd.Q_alloc | apply Kd.Q_drewN | apply Kd.Q_drew)); exact HO251.out) hb) (Kd.R_base ho0)) (Kd.R_base ho1)) (fun _ h_ => h_.1)); have n3_ := Aside0.mk (Kd.R_mono (Kd.R_told (Kd.R_told (Kd.R_old (by (with_reducible repeat (first | apply Kd.R_alloc | apply Kd.R_drewN | apply Kd.R_drew)); exact HO254.out) hb) (Kd.R_base ho0)) (Kd.R_base ho1)) (fun _ h_ => h_.1)); have n4_ := Aside0.mk (Kd.R_lower (Kd.R_new' (Kd.R_new' (Kd.R_new' (Kd.R_new' ho0 (Kd.R_lt (by (with_reducible repeat (first | apply Kd.R_alloc | apply Kd.R_drewN | apply Kd.R_drew)); exact HO241.out))) (Kd.R_lt (by (with_reducible repeat (first | apply Kd.R_alloc | apply Kd.R_drewN | apply Kd.R_drew)); exact HO244.out))) (Kd.Q_lt (by (with_reducible repeat (first | apply Kd.Q_alloc | apply Kd.Q_drewN | apply Kd.Q_drew)); exact HO251.out))) (Kd.R_lt (by (with_reducible repeat (first | apply Kd.R_alloc | apply Kd.R_drewN | apply Kd.R_drew)); exact HO254.out))) (below_size (by repeat (first | (with_reducible first | exact HB.out | apply Fix.bA | apply Fix.bN | apply Fix.b1 | refine below_set ?_ GE235.out | refine below_set ?_ GE258.out) | exact HB.out)))); have n5_ := Aside0.mk (Kd.R_lower (Kd.R_new' (Kd.R_new' (Kd.R_new' (Kd.R_new' ho1 (Kd.R_lt (by (with_reducible repeat (first | apply Kd.R_alloc | apply Kd.R_drewN | apply Kd.R_drew)); exact HO241.out))) (Kd.R_lt (by (with_reducible repeat (first | apply Kd.R_alloc | apply Kd.R_drewN | apply Kd.R_drew)); exact HO244.out))) (Kd.Q_lt (by (with_reducible repeat (first | apply Kd.Q_alloc | apply Kd.Q_drewN | apply Kd.Q_drew)); exact HO251.out))) (Kd.R_lt (by (with_reducible repeat (first | apply Kd.R_alloc | apply Kd.R_drewN | apply Kd.R_drew)); exact HO254.out))) (below_size (by repeat (first | (with_reducible first | exact HB.out | apply Fix.bA | apply Fix.bN | apply Fix.b1 | refine below_set ?_ GE235.out | refine below_set ?_ GE258.out) | exact HB.out)))); have n6_ := Aside0.mk (blk_below (g := gb235) (o := .cells #[.int .i64 a0_0, .int .i64 a0_1, .slice A0_2 l0_2.length c0_2, .slice A0_3 l0_3.length c0_3, .int .i64 a0_4, .bool a0_5] 38 (0, 0)) (by (with_reducible repeat (first | refine Fix.kN ?_ _ | refine Fix.kD ?_ | refine Fix.kA ?_ _)); exact BK235.out) hb); have n7_ := Aside0.mk (blk_below (g := gb258) (o := .cells #[.int .i64 t247, .int .i64 t248, .slice Ao24 t249.length co24, .slice Ao25 t252.length co25, .int .i64 t255, .bool t256] 28 (0, 0)) (by (with_reducible repeat (first | refine Fix.kN ?_ _ | refine Fix.kD ?_ | refine Fix.kA ?_ _)); exact BK258.out) hb); have n8_ := Aside0.mk (below_step (by repeat (first | (with_reducible first | exact HB.out | apply Fix.bA | apply Fix.bN | apply Fix.b1 | refine below_set ?_ GE235.out | refine below_set ?_ GE258.out) | exact HB.out)) hb); clear HO241; clear HO244; clear HO251; clear HO254; clear BK235; clear BK258; clear HB; have HO241 := n0_; have HO244 := n1_; have HO251 := n2_; have HO254 := n3_; have HO263 := n4_; have HO266 := n5_; have BK235 := n6_; have BK258 := n7_; have HB := n8_; clear n0_ n1_ n2_ n3_ n4_ n5_ n6_ n7_ n8_; (try clear hb); (try clear hb2); (try clear hk); (try clear hi); (try clear ho0); (try clear ho1)) | ((with_reducible refine gate_dst (N := 8) rfl ?_); refine box_event ?hg (N := 8) ?hd (cs := #[.int .i64 0, .int .i64 0, .slice none 0 0, .slice none 0 0, .int .i64 0, .bool false]) (t := 28) ?hr ?_; (case hd => rfl); (case hg => rfl); (case hr => first | (go_simp; done) | (go_simp; rfl)); intro gb269 hg w29 hbox hb; have n0_ := Aside0.mk (Kd.R_below (by (with_reducible repeat (first | apply Kd.R_alloc | apply Kd.R_drewN | apply Kd.R_drew)); exact HO241.out) hb); have n1_ := Aside0.mk (Kd.R_below (by (with_reducible repeat (first | apply Kd.R_alloc | apply Kd.R_drewN | apply Kd.R_drew)); exact HO244.out) hb); have n2_ := Aside0.mk (Kd.Q_below (by (with_reducible repeat (first | apply Kd.Q_alloc | apply Kd.Q_drewN | apply Kd.Q_drew)); exact HO251.out) hb); have n3_ := Aside0.mk (Kd.R_below (by (with_reducible repeat (first | apply Kd.R_alloc | apply Kd.R_drewN | apply Kd.R_drew)); exact HO254.out) hb); have n4_ := Aside0.mk (Kd.R_below (by (with_reducible repeat (first | apply Kd.R_alloc | apply Kd.R_drewN | apply Kd.R_drew)); exact HO263.out) hb); have n5_ := Aside0.mk (Kd.R_below (by (with_reducible repeat (first | apply Kd.R_alloc | apply Kd.R_drewN | apply Kd.R_drew)); exact HO266.out) hb); have n6_ := Aside0.mk (blk_below (g := gb235) (o := .cells #[.int .i64 a0_0, .int .i64 a0_1, .slice A0_2 l0_2.length c0_2, .slice A0_3 l0_3.length c0_3, .int .i64 a0_4, .bool a0_5] 38 (0, 0)) (by (with_reducible repeat (first | refine Fix.kN ?_ _ | refine Fix.kD ?_ | refine Fix.kA ?_ _)); exact BK235.out) hb); have n7_ := Aside0.mk (blk_below (g := gb258) (o := .cells #[.int .i64 t247, .int .i64 t248, .slice Ao24 t249.length co24, .slice Ao25 t252.length co25, .int .i64 t255, .bool t256] 28 (0, 0)) (by (with_reducible repeat (first | refine Fix.kN ?_ _ | refine Fix.kD ?_ | refine Fix.kA ?_ _)); exact BK258.out) hb); have n8_ := Aside0.mk (below_step (by repeat (first | (with_reducible first | exact HB.out | apply Fix.bA | apply Fix.bN | apply Fix.b1 | refine below_set ?_ GE235.out | refine below_set ?_ GE258.out) | exact HB.out)) hb); have n9_ := Aside0.mk (hbox); have n10_ := Aside0.mk ((by rw [hg]; exact (below_size (by repeat (first | (with_reducible first | exact HB.out | apply Fix.bA | apply Fix.bN | apply Fix.b1 | refine below_set ?_ GE235.out | refine below_set ?_ GE258.out) | exact HB.out))) : w.heap.size ≤ gb269)); have n11_ := Aside0.mk ((by rw [hg]; exact (below_size (by repeat (first | (with_reducible first | exact HB.out | apply Fix.bA | apply Fix.bN | apply Fix.b1 | refine below_set ?_ GE235.out | refine below_set ?_ GE258.out) | exact HB.out))) : w.heap.size ≤ gb269)); have n12_ := Aside0.mk ((by rw [hg]; exact Nat.ne_of_lt (blk_lt (g := gb235) (o := .cells #[.int .i64 a0_0, .int .i64 a0_1, .slice A0_2 l0_2.length c0_2, .slice A0_3 l0_3.length c0_3, .int .i64 a0_4, .bool a0_5] 38 (0, 0)) (by (with_reducible repeat (first | refine Fix.kN ?_ _ | refine Fix.kD ?_ | refine Fix.kA ?_ _)); exact BK235.out)) : gb235 ≠ gb269)); have n13_ := Aside0.mk ((by rw [hg]; exact Nat.ne_of_gt (blk_lt (g := gb235) (o := .cells #[.int .i64 a0_0, .int .i64 a0_1, .slice A0_2 l0_2.length c0_2, .slice A0_3 l0_3.length c0_3, .int .i64 a0_4, .bool a0_5] 38 (0, 0)) (by (with_reducible repeat (first | refine Fix.kN ?_ _ | refine Fix.kD ?_ | refine Fix.kA ?_ _)); exact BK235.out)) : gb269 ≠ gb235)); have n14_ := Aside0.mk ((by rw [hg]; exact Nat.ne_of_lt (blk_lt (g := gb258) (o := .cells #[.int .i64 t247, .int .i64 t248, .slice Ao24 t249.length co24, .slice Ao25 t252.length co25, .int .i64 t255, .bool t256] 28 (0, 0)) (by (with_reducible repeat (first | refine Fix.kN ?_ _ | refine Fix.kD ?_ | refine Fix.kA ?_ _)); exact BK258.out)) : gb258 ≠ gb269)); have n15_ := Aside0.mk ((by rw [hg]; exact Nat.ne_of_gt (blk_lt (g := gb258) (o := .cells #[.int .i64 t247, .int .i64 t248, .slice Ao24 t249.length co24, .slice Ao25 t252.length co25, .int .i64 t255, .bool t256] 28 (0, 0)) (by (with_reducible repeat (first | refine Fix.kN ?_ _ | refine Fix.kD ?_ | refine Fix.kA ?_ _)); exact BK258.out)) : gb269 ≠ gb258)); clear HO241; clear HO244; clear HO251; clear HO254; clear HO263; clear HO266; clear BK235; clear BK258; clear HB; have HO241 := n0_; have HO244 := n1_; have HO251 := n2_; have HO254 := n3_; have HO263 := n4_; have HO266 := n5_; have BK235 := n6_; have BK258 := n7_; have HB := n8_; have BK269 := n9_; have GW269 := n10_; have GE269 := n11_; have NB235_269 := n12_; have NB269_235 := n13_; have NB258_269 := n14_; have NB269_258 := n15_; clear n0_ n1_ n2_ n3_ n4_ n5_ n6_ n7_ n8_ n9_ n10_ n11_ n12_ n13_ n14_ n15_; clear hb hbox hg; have hnb30 := NB269_235.out; have hnc30 := NB235_269.out; have hnb31 := NB269_258.out; have hnc31 := NB258_269.out; obtain ⟨hcz32_0, hcz32_1, hcz32_2, hcz32_3, hcz32_4, hcz32_5, hfz32_0, hfz32_1, hfz32_2, hfz32_3, hfz32_4, hfz32_5⟩ := Fix.d6 BK269.out; obtain ⟨Ao33, co33, eo33⟩ := Kd.R_slice HO263.out; subst eo33; obtain ⟨Ao34, co34, eo34⟩ := Kd.R_slice HO266.out; subst eo34) | ((with_reducible refine gate_store (t := 28) (p := 8) rfl ?_); refine store_event (t := 28) (p := 8) (v := ?vo_w35) (w1 := ((((((w29.setCell ⟨gb269, 0, none⟩ (.int .i64 t259)).setCell ⟨gb269, 1, none⟩ (.int .i64 t260)).setCell ⟨gb269, 2, none⟩ (.slice Ao33 t261.length co33)).setCell ⟨gb269, 3, none⟩ (.slice Ao34 t264.length co34)).setCell ⟨gb269, 4, none⟩ (.int .i64 t267)).setCell ⟨gb269, 5, none⟩ (.bool t268))) ?hg ?ho ?hn ?hr ?_; (case ho => rfl); (case hg => rfl); (case hn => rfl); (case hr => first | (go_simp; done) | (go_simp; rfl)); intro w35 hw; have n0_ : Aside0 (Kd.R (Kd.int .i64) 3 w35 w.heap.size (fun k_ => some k_ ≠ (.slice Ao19 t242.length co19 : Value).ownBlock ∧ some k_ ≠ (.slice Ao24 t249.length co24 : Value).ownBlock ∧ some k_ ≠ (.slice Ao25 t252.length co25 : Value).ownBlock ∧ some k_ ≠ (.slice Ao33 t261.length co33 : Value).ownBlock ∧ some k_ ≠ (.slice Ao34 t264.length co34 : Value).ownBlock) (.slice Ao18 t239.length co18) t239) := ⟨(by rw [hw]; exact (by (with_reducible repeat (first | apply Kd.R_alloc | apply Kd.R_drewN | apply Kd.R_drew)); exact Kd.R_mono (Fix.R_far6 (g := gb269) (Kd.R_types HO241.out BK269.out (by decide)) (fun _ hk => hk.2) _ _ _ _ _ _) (fun _ hk => ⟨hk.1.1.1.1, ⟨hk.1.1.1.2.1, ⟨hk.1.1.1.2.2, ⟨hk.1.1.2, hk.1.2⟩⟩⟩⟩)))⟩; have n1_ : Aside0 (Kd.R (Kd.int .i64) 3 w35 w.heap.size (fun k_ => some k_ ≠ (.slice Ao18 t239.length co18 : Value).ownBlock ∧ some k_ ≠ (.slice Ao24 t249.length co24 : Value).ownBlock ∧ some k_ ≠ (.slice Ao25 t252.length co25 : Value).ownBlock ∧ some k_ ≠ (.slice Ao33 t261.length co33 : Value).ownBlock ∧ some k_ ≠ (.slice Ao34 t264.length co34 : Value).ownBlock) (.slice Ao19 t242.length co19) t242) := ⟨(by rw [hw]; exact (by (with_reducible repeat (first | apply Kd.R_alloc | apply Kd.R_drewN | apply Kd.R_drew)); exact Kd.R_mono (Fix.R_far6 (g := gb269) (Kd.R_types HO244.out BK269.out (by decide)) (fun _ hk => hk.2) _ _ _ _ _ _) (fun _ hk => ⟨hk.1.1.1.1, ⟨hk.1.1.1.2.1, ⟨hk.1.1.1.2.2, ⟨hk.1.1.2, hk.1.2⟩⟩⟩⟩)))⟩; have n2_ : Aside0 (Kd.Q (Kd.int .i64) 3 w35 w.heap.size (fun k_ => some k_ ≠ (.slice Ao18 t239.length co18 : Value).ownBlock ∧ some k_ ≠ (.slice Ao19 t242.length co19 : Value).ownBlock ∧ some k_ ≠ (.slice Ao25 t252.length co25 : Value).ownBlock ∧ some k_ ≠ (.slice Ao33 t261.length co33 : Value).ownBlock ∧ some k_ ≠ (.slice Ao34 t264.length co34 : Value).ownBlock) (.slice Ao24 t249.length co24) t249) := ⟨(by rw [hw]; exact (by (with_reducible repeat (first | apply Kd.Q_alloc | apply Kd.Q_drewN | apply Kd.Q_drew)); exact Kd.Q_mono (Fix.Q_far6 (g := gb269) (Kd.Q_types HO251.out BK269.out (by decide)) (fun _ hk => hk.2) _ _ _ _ _ _) (fun _ hk => ⟨hk.1.1.1.1, ⟨hk.1.1.1.2.1, ⟨hk.1.1.1.2.2, ⟨hk.1.1.2, hk.1.2⟩⟩⟩⟩)))⟩; have n3_ : Aside0 (Kd.R (Kd.int .i64) 3 w35 w.heap.size (fun k_ => some k_ ≠ (.slice Ao18 t239.length co18 : Value).ownBlock ∧ some k_ ≠ (.slice Ao19 t242.length co19 : Value).ownBlock ∧ some k_ ≠ (.slice Ao24 t249.length co24 : Value).ownBlock ∧ some k_ ≠ (.slice Ao33 t261.length co33 : Value).ownBlock ∧ some k_ ≠ (.slice Ao34 t264.length co34 : Value).ownBlock) (.slice Ao25 t252.length co25) t252) := ⟨(by rw [hw]; exact (by (with_reducible repeat (first | apply Kd.R_alloc | apply Kd.R_drewN | apply Kd.R_drew)); exact Kd.R_mono (Fix.R_far6 (g := gb269) (Kd.R_types HO254.out BK269.out (by decide)) (fun _ hk => hk.2) _ _ _ _ _ _) (fun _ hk => ⟨hk.1.1.1.1, ⟨hk.1.1.1.2.1, ⟨hk.1.1.1.2.2, ⟨hk.1.1.2, hk.1.2⟩⟩⟩⟩)))⟩; have n4_ : Aside0 (Kd.R (Kd.int .i64) 3 w35 w.heap.size (fun k_ => some k_ ≠ (.slice Ao18 t239.length co18 : Value).ownBlock ∧ some k_ ≠ (.slice Ao19 t242.length co19 : Value).ownBlock ∧ some k_ ≠ (.slice Ao24 t249.length co24 : Value).ownBlock ∧ some k_ ≠ (.slice Ao25 t252.length co25 : Value).ownBlock ∧ some k_ ≠ (.slice Ao34 t264.length co34 : Value).ownBlock) (.slice Ao33 t261.length co33) t261) := ⟨(by rw [hw]; exact (by (with_reducible repeat (first | apply Kd.R_alloc | apply Kd.R_drewN | apply Kd.R_drew)); exact Kd.R_mono (Fix.R_far6 (g := gb269) (Kd.R_types HO263.out BK269.out (by decide)) (fun _ hk => hk.2) _ _ _ _ _ _) (fun _ hk => ⟨hk.1.1.1.1.2, ⟨hk.1.1.1.2, ⟨hk.1.1.2, ⟨hk.1.2, hk.1.1.1.1.1⟩⟩⟩⟩)))⟩; have n5_ : Aside0 (Kd.R (Kd.int .i64) 3 w35 w.heap.size (fun k_ => some k_ ≠ (.slice Ao18 t239.length co18 : Value).ownBlock ∧ some k_ ≠ (.slice Ao19 t242.length co19 : Value).ownBlock ∧ some k_ ≠ (.slice Ao24 t249.length co24 : Value).ownBlock ∧ some k_ ≠ (.slice Ao25 t252.length co25 : Value).ownBlock ∧ some k_ ≠ (.slice Ao33 t261.length co33 : Value).ownBlock) (.slice Ao34 t264.length co34) t264) := ⟨(by rw [hw]; exact (by (with_reducible repeat (first | apply Kd.R_alloc | apply Kd.R_drewN | apply Kd.R_drew)); exact Kd.R_mono (Fix.R_far6 (g := gb269) (Kd.R_types HO266.out BK269.out (by decide)) (fun _ hk => hk.2) _ _ _ _ _ _) (fun _ hk => ⟨hk.1.1.1.1.2, ⟨hk.1.1.1.2, ⟨hk.1.1.2, ⟨hk.1.2, hk.1.1.1.1.1⟩⟩⟩⟩)))⟩; have n6_ : Aside0 (w35.heap[gb235]? = some (.cells #[.int .i64 a0_0, .int .i64 a0_1, .slice A0_2 l0_2.length c0_2, .slice A0_3 l0_3.length c0_3, .int .i64 a0_4, .bool a0_5] 38 (0, 0))) := ⟨(by rw [hw]; exact (by (with_reducible repeat (first | refine Fix.kN ?_ _ | refine Fix.kD ?_ | refine Fix.kA ?_ _)); refine Fix.far6 ?_ NB235_269.out _ _ _ _ _ _; (with_reducible repeat (first | refine Fix.kN ?_ _ | refine Fix.kD ?_ | refine Fix.kA ?_ _)); exact BK235.out))⟩; have n7_ : Aside0 (w35.heap[gb258]? = some (.cells #[.int .i64 t247, .int .i64 t248, .slice Ao24 t249.length co24, .slice Ao25 t252.length co25, .int .i64 t255, .bool t256] 28 (0, 0))) := ⟨(by rw [hw]; exact (by (with_reducible repeat (first | refine Fix.kN ?_ _ | refine Fix.kD ?_ | refine Fix.kA ?_ _)); refine Fix.far6 ?_ NB258_269.out _ _ _ _ _ _; (with_reducible repeat (first | refine Fix.kN ?_ _ | refine Fix.kD ?_ | refine Fix.kA ?_ _)); exact BK258.out))⟩; have n8_ : Aside0 (w35.heap[gb269]? = some (.cells #[.int .i64 t259, .int .i64 t260, .slice Ao33 t261.length co33, .slice Ao34 t264.length co34, .int .i64 t267, .bool t268] 28 (0, 0))) := ⟨(by rw [hw]; exact (by (with_reducible repeat (first | refine Fix.kN ?_ _ | refine Fix.kD ?_ | refine Fix.kA ?_ _)); apply Fix.put6; (with_reducible repeat (first | refine Fix.kN ?_ _ | refine Fix.kD ?_ | refine Fix.kA ?_ _)); exact BK269.out))⟩; have n9_ : Aside0 (Below w.heap.size w w35) := ⟨(by rw [hw]; exact (by repeat (first | (with_reducible first | exact HB.out | apply Fix.bA | apply Fix.bN | apply Fix.b1 | refine below_set ?_ GE235.out | refine below_set ?_ GE258.out | refine below_set ?_ GE269.out) | exact HB.out)))⟩; clear hw; clear HO241; clear HO244; clear HO251; clear HO254; clear HO263; clear HO266; clear BK235; clear BK258; clear BK269; clear HB; have HO241 := n0_; have HO244 := n1_; have HO251 := n2_; have HO254 := n3_; have HO263 := n4_; have HO266 := n5_; have BK235 := n6_; have BK258 := n7_; have BK269 := n8_; have HB := n9_; clear n0_ n1_ n2_ n3_ n4_ n5_ n6_ n7_ n8_ n9_; obtain ⟨hcz36_0, hcz36_1, hcz36_2, hcz36_3, hcz36_4, hcz36_5, hfz36_0, hfz36_1, hfz36_2, hfz36_3, hfz36_4, hfz36_5⟩ := Fix.d6 BK269.out) | ((with_reducible refine gate_callee (f := 26) rfl ?_); refine goesL_ (some 33) rfl rfl Try.func26 (by kernel_rfl) rfl #[.agg #[.int .i64 t259, .int .i64 t260, .slice Ao33 t261.length co33, .slice Ao34 t264.length co34, .int .i64 t267, .bool t268], .int .i64 a1] rfl (by (try simp only [List.map_toArray, List.map_cons, List.map_nil]); first | done | rfl | (simp only [List.length_drop, List.length_take]; rfl)) ?_; (with_reducible refine (impl_LineStep.calls k t259 t260 _ _ t261 _ _ t264 t267 t268 a1 t270 t271 t272 t275 t278 t279 t280 _ ?side1 ?side2 ?side3 ?side4 A11.out).mono ?_); (case side1 => repeat (first | exact (Kd.R_reads' HO263.out).2.2 | (with_reducible refine Kd.C_alloc ?_ _) | (with_reducible refine Kd.C_drewN ?_ _) | (with_reducible refine Kd.C_drew ?_))); (case side2 => exact (Kd.R_reads' HO263.out).2.1); (case side3 => repeat (first | exact (Kd.R_reads' HO266.out).2.2 | (with_reducible refine Kd.C_alloc ?_ _) | (with_reducible refine Kd.C_drewN ?_ _) | (with_reducible refine Kd.C_drew ?_))); (case side4 => exact (Kd.R_reads' HO266.out).2.1); rintro e w37 ⟨v273, v276, rfl, ho0, ho1, hb⟩; refine ⟨_, rfl, ?_⟩; have n0_ := Aside0.mk (Kd.R_mono (Kd.R_told (Kd.R_told (Kd.R_old (by (with_reducible repeat (first | apply Kd.R_alloc | apply Kd.R_drewN | apply Kd.R_drew)); exact HO241.out) hb) (Kd.Q_base ho0)) (Kd.R_base ho1)) (fun _ h_ => h_.1)); have n1_ := Aside0.mk (Kd.R_mono (Kd.R_told (Kd.R_told (Kd.R_old (by (with_reducible repeat (first | apply Kd.R_alloc | apply Kd.R_drewN | apply Kd.R_drew)); exact HO244.out) hb) (Kd.Q_base ho0)) (Kd.R_base ho1)) (fun _ h_ => h_.1)); have n2_ := Aside0.mk (Kd.Q_mono (Kd.Q_told (Kd.Q_told (Kd.Q_old (by (with_reducible repeat (first | apply Kd.Q_alloc | apply Kd.Q_drewN | apply Kd.Q_drew)); exact HO251.out) hb) (Kd.Q_base ho0)) (Kd.R_base ho1)) (fun _ h_ => h_.1)); have n3_ := Aside0.mk (Kd.R_mono (Kd.R_told (Kd.R_told (Kd.R_old (by (with_reducible repeat (first | apply Kd.R_alloc | apply Kd.R_drewN | apply Kd.R_drew)); exact HO254.out) hb) (Kd.Q_base ho0)) (Kd.R_base ho1)) (fun _ h_ => h_.1)); have n4_ := Aside0.mk (Kd.R_mono (Kd.R_told (Kd.R_told (Kd.R_old (by (with_reducible repeat (first | apply Kd.R_alloc | apply Kd.R_drewN | apply Kd.R_drew)); exact HO263.out) hb) (Kd.Q_base ho0)) (Kd.R_base ho1)) (fun _ h_ => h_.1)); have n5_ := Aside0.mk (Kd.R_mono (Kd.R_told (Kd.R_told (Kd.R_old (by (with_reducible repeat (first | apply Kd.R_alloc | apply Kd.R_drewN | apply Kd.R_drew)); exact HO266.out) hb) (Kd.Q_base ho0)) (Kd.R_base ho1)) (fun _ h_ => h_.1)); have n6_ := Aside0.mk (Kd.Q_lower (Kd.Q_new' (Kd.Q_new' (Kd.Q_new' (Kd.Q_new' (Kd.Q_new' (Kd.Q_new' ho0 (Kd.R_lt (by (with_reducible repeat (first | apply Kd.R_alloc | apply Kd.R_drewN | apply Kd.R_drew)); exact HO241.out))) (Kd.R_lt (by (with_reducible repeat (first | apply Kd.R_alloc | apply Kd.R_drewN | apply Kd.R_drew)); exact HO244.out))) (Kd.Q_lt (by (with_reducible repeat (first | apply Kd.Q_alloc | apply Kd.Q_drewN | apply Kd.Q_drew)); exact HO251.out))) (Kd.R_lt (by (with_reducible repeat (first | apply Kd.R_alloc | apply Kd.R_drewN | apply Kd.R_drew)); exact HO254.out))) (Kd.R_lt (by (with_reducible repeat (first | apply Kd.R_alloc | apply Kd.R_drewN | apply Kd.R_drew)); exact HO263.out))) (Kd.R_lt (by (with_reducible repeat (first | apply Kd.R_alloc | apply Kd.R_drewN | apply Kd.R_drew)); exact HO266.out))) (below_size (by repeat (first | (with_reducible first | exact HB.out | apply Fix.bA | apply Fix.bN | apply Fix.b1 | refine below_set ?_ GE235.out | refine below_set ?_ GE258.out | refine below_set ?_ GE269.out) | exact HB.out)))); have n7_ := Aside0.mk (Kd.R_lower (Kd.R_new' (Kd.R_new' (Kd.R_new' (Kd.R_new' (Kd.R_new' (Kd.R_new' ho1 (Kd.R_lt (by (with_reducible repeat (first | apply Kd.R_alloc | apply Kd.R_drewN | apply Kd.R_drew)); exact HO241.out))) (Kd.R_lt (by (with_reducible repeat (first | apply Kd.R_alloc | apply Kd.R_drewN | apply Kd.R_drew)); exact HO244.out))) (Kd.Q_lt (by (with_reducible repeat (first | apply Kd.Q_alloc | apply Kd.Q_drewN | apply Kd.Q_drew)); exact HO251.out))) (Kd.R_lt (by (with_reducible repeat (first | apply Kd.R_alloc | apply Kd.R_drewN | apply Kd.R_drew)); exact HO254.out))) (Kd.R_lt (by (with_reducible repeat (first | apply Kd.R_alloc | apply Kd.R_drewN | apply Kd.R_drew)); exact HO263.out))) (Kd.R_lt (by (with_reducible repeat (first | apply Kd.R_alloc | apply Kd.R_drewN | apply Kd.R_drew)); exact HO266.out))) (below_size (by repeat (first | (with_reducible first | exact HB.out | apply Fix.bA | apply Fix.bN | apply Fix.b1 | refine below_set ?_ GE235.out | refine below_set ?_ GE258.out | refine below_set ?_ GE269.out) | exact HB.out)))); have n8_ := Aside0.mk (blk_below (g := gb235) (o := .cells #[.int .i64 a0_0, .int .i64 a0_1, .slice A0_2 l0_2.length c0_2, .slice A0_3 l0_3.length c0_3, .int .i64 a0_4, .bool a0_5] 38 (0, 0)) (by (with_reducible repeat (first | refine Fix.kN ?_ _ | refine Fix.kD ?_ | refine Fix.kA ?_ _)); exact BK235.out) hb); have n9_ := Aside0.mk (blk_below (g := gb258) (o := .cells #[.int .i64 t247, .int .i64 t248, .slice Ao24 t249.length co24, .slice Ao25 t252.length co25, .int .i64 t255, .bool t256] 28 (0, 0)) (by (with_reducible repeat (first | refine Fix.kN ?_ _ | refine Fix.kD ?_ | refine Fix.kA ?_ _)); exact BK258.out) hb); have n10_ := Aside0.mk (blk_below (g := gb269) (o := .cells #[.int .i64 t259, .int .i64 t260, .slice Ao33 t261.length co33, .slice Ao34 t264.length co34, .int .i64 t267, .bool t268] 28 (0, 0)) (by (with_reducible repeat (first | refine Fix.kN ?_ _ | refine Fix.kD ?_ | refine Fix.kA ?_ _)); exact BK269.out) hb); have n11_ := Aside0.mk (below_step (by repeat (first | (with_reducible first | exact HB.out | apply Fix.bA | apply Fix.bN | apply Fix.b1 | refine below_set ?_ GE235.out | refine below_set ?_ GE258.out | refine below_set ?_ GE269.out) | exact HB.out)) hb); clear HO241; clear HO244; clear HO251; clear HO254; clear HO263; clear HO266; clear BK235; clear BK258; clear BK269; clear HB; have HO241 := n0_; have HO244 := n1_; have HO251 := n2_; have HO254 := n3_; have HO263 := n4_; have HO266 := n5_; have HO274 := n6_; have HO277 := n7_; have BK235 := n8_; have BK258 := n9_; have BK269 := n10_; have HB := n11_; clear n0_ n1_ n2_ n3_ n4_ n5_ n6_ n7_ n8_ n9_ n10_ n11_; (try clear hb); (try clear hb2); (try clear hk); (try clear hi); (try clear ho0); (try clear ho1)) | ((with_reducible refine gate_dst (N := 9) rfl ?_); refine box_event ?hg (N := 9) ?hd (cs := #[.int .i64 0, .int .i64 0, .slice none 0 0, .slice none 0 0, .int .i64 0, .bool false]) (t := 28) ?hr ?_; (case hd => rfl); (case hg => rfl); (case hr => first | (go_simp; done) | (go_simp; rfl)); intro gb281 hg w38 hbox hb; have n0_ := Aside0.mk (Kd.R_below (by (with_reducible repeat (first | apply Kd.R_alloc | apply Kd.R_drewN | apply Kd.R_drew)); exact HO241.out) hb); have n1_ := Aside0.mk (Kd.R_below (by (with_reducible repeat (first | apply Kd.R_alloc | apply Kd.R_drewN | apply Kd.R_drew)); exact HO244.out) hb); have n2_ := Aside0.mk (Kd.Q_below (by (with_reducible repeat (first | apply Kd.Q_alloc | apply Kd.Q_drewN | apply Kd.Q_drew)); exact HO251.out) hb); have n3_ := Aside0.mk (Kd.R_below (by (with_reducible repeat (first | apply Kd.R_alloc | apply Kd.R_drewN | apply Kd.R_drew)); exact HO254.out) hb); have n4_ := Aside0.mk (Kd.R_below (by (with_reducible repeat (first | apply Kd.R_alloc | apply Kd.R_drewN | apply Kd.R_drew)); exact HO263.out) hb); have n5_ := Aside0.mk (Kd.R_below (by (with_reducible repeat (first | apply Kd.R_alloc | apply Kd.R_drewN | apply Kd.R_drew)); exact HO266.out) hb); have n6_ := Aside0.mk (Kd.Q_below (by (with_reducible repeat (first | apply Kd.Q_alloc | apply Kd.Q_drewN | apply Kd.Q_drew)); exact HO274.out) hb); have n7_ := Aside0.mk (Kd.R_below (by (with_reducible repeat (first | apply Kd.R_alloc | apply Kd.R_drewN | apply Kd.R_drew)); exact HO277.out) hb); have n8_ := Aside0.mk (blk_below (g := gb235) (o := .cells #[.int .i64 a0_0, .int .i64 a0_1, .slice A0_2 l0_2.length c0_2, .slice A0_3 l0_3.length c0_3, .int .i64 a0_4, .bool a0_5] 38 (0, 0)) (by (with_reducible repeat (first | refine Fix.kN ?_ _ | refine Fix.kD ?_ | refine Fix.kA ?_ _)); exact BK235.out) hb); have n9_ := Aside0.mk (blk_below (g := gb258) (o := .cells #[.int .i64 t247, .int .i64 t248, .slice Ao24 t249.length co24, .slice Ao25 t252.length co25, .int .i64 t255, .bool t256] 28 (0, 0)) (by (with_reducible repeat (first | refine Fix.kN ?_ _ | refine Fix.kD ?_ | refine Fix.kA ?_ _)); exact BK258.out) hb); have n10_ := Aside0.mk (blk_below (g := gb269) (o := .cells #[.int .i64 t259, .int .i64 t260, .slice Ao33 t261.length co33, .slice Ao34 t264.length co34, .int .i64 t267, .bool t268] 28 (0, 0)) (by (with_reducible repeat (first | refine Fix.kN ?_ _ | refine Fix.kD ?_ | refine Fix.kA ?_ _)); exact BK269.out) hb); have n11_ := Aside0.mk (below_step (by repeat (first | (with_reducible first | exact HB.out | apply Fix.bA | apply Fix.bN | apply Fix.b1 | refine below_set ?_ GE235.out | refine below_set ?_ GE258.out | refine below_set ?_ GE269.out) | exact HB.out)) hb); have n12_ := Aside0.mk (hbox); have n13_ := Aside0.mk ((by rw [hg]; exact (below_size (by repeat (first | (with_reducible first | exact HB.out | apply Fix.bA | apply Fix.bN | apply Fix.b1 | refine below_set ?_ GE235.out | refine below_set ?_ GE258.out | refine below_set ?_ GE269.out) | exact HB.out))) : w.heap.size ≤ gb281)); have n14_ := Aside0.mk ((by rw [hg]; exact (below_size (by repeat (first | (with_reducible first | exact HB.out | apply Fix.bA | apply Fix.bN | apply Fix.b1 | refine below_set ?_ GE235.out | refine below_set ?_ GE258.out | refine below_set ?_ GE269.out) | exact HB.out))) : w.heap.size ≤ gb281)); have n15_ := Aside0.mk ((by rw [hg]; exact Nat.ne_of_lt (blk_lt (g := gb235) (o := .cells #[.int .i64 a0_0, .int .i64 a0_1, .slice A0_2 l0_2.length c0_2, .slice A0_3 l0_3.length c0_3, .int .i64 a0_4, .bool a0_5] 38 (0, 0)) (by (with_reducible repeat (first | refine Fix.kN ?_ _ | refine Fix.kD ?_ | refine Fix.kA ?_ _)); exact BK235.out)) : gb235 ≠ gb281)); have n16_ := Aside0.mk ((by rw [hg]; exact Nat.ne_of_gt (blk_lt (g := gb235) (o := .cells #[.int .i64 a0_0, .int .i64 a0_1, .slice A0_2 l0_2.length c0_2, .slice A0_3 l0_3.length c0_3, .int .i64 a0_4, .bool a0_5] 38 (0, 0)) (by (with_reducible repeat (first | refine Fix.kN ?_ _ | refine Fix.kD ?_ | refine Fix.kA ?_ _)); exact BK235.out)) : gb281 ≠ gb235)); have n17_ := Aside0.mk ((by rw [hg]; exact Nat.ne_of_lt (blk_lt (g := gb258) (o := .cells #[.int .i64 t247, .int .i64 t248, .slice Ao24 t249.length co24, .slice Ao25 t252.length co25, .int .i64 t255, .bool t256] 28 (0, 0)) (by (with_reducible repeat (first | refine Fix.kN ?_ _ | refine Fix.kD ?_ | refine Fix.kA ?_ _)); exact BK258.out)) : gb258 ≠ gb281)); have n18_ := Aside0.mk ((by rw [hg]; exact Nat.ne_of_gt (blk_lt (g := gb258) (o := .cells #[.int .i64 t247, .int .i64 t248, .slice Ao24 t249.length co24, .slice Ao25 t252.length co25, .int .i64 t255, .bool t256] 28 (0, 0)) (by (with_reducible repeat (first | refine Fix.kN ?_ _ | refine Fix.kD ?_ | refine Fix.kA ?_ _)); exact BK258.out)) : gb281 ≠ gb258)); have n19_ := Aside0.mk ((by rw [hg]; exact Nat.ne_of_lt (blk_lt (g := gb269) (o := .cells #[.int .i64 t259, .int .i64 t260, .slice Ao33 t261.length co33, .slice Ao34 t264.length co34, .int .i64 t267, .bool t268] 28 (0, 0)) (by (with_reducible repeat (first | refine Fix.kN ?_ _ | refine Fix.kD ?_ | refine Fix.kA ?_ _)); exact BK269.out)) : gb269 ≠ gb281)); have n20_ := Aside0.mk ((by rw [hg]; exact Nat.ne_of_gt (blk_lt (g := gb269) (o := .cells #[.int .i64 t259, .int .i64 t260, .slice Ao33 t261.length co33, .slice Ao34 t264.length co34, .int .i64 t267, .bool t268] 28 (0, 0)) (by (with_reducible repeat (first | refine Fix.kN ?_ _ | refine Fix.kD ?_ | refine Fix.kA ?_ _)); exact BK269.out)) : gb281 ≠ gb269)); clear HO241; clear HO244; clear HO251; clear HO254; clear HO263; clear HO266; clear HO274; clear HO277; clear BK235; clear BK258; clear BK269; clear HB; have HO241 := n0_; have HO244 := n1_; have HO251 := n2_; have HO254 := n3_; have HO263 := n4_; have HO266 := n5_; have HO274 := n6_; have HO277 := n7_; have BK235 := n8_; have BK258 := n9_; have BK269 := n10_; have HB := n11_; have BK281 := n12_; have GW281 := n13_; have GE281 := n14_; have NB235_281 := n15_; have NB281_235 := n16_; have NB258_281 := n17_; have NB281_258 := n18_; have NB269_281 := n19_; have NB281_269 := n20_; clear n0_ n1_ n2_ n3_ n4_ n5_ n6_ n7_ n8_ n9_ n10_ n11_ n12_ n13_ n14_ n15_ n16_ n17_ n18_ n19_ n20_; clear hb hbox hg; have hnb39 := NB281_235.out; have hnc39 := NB235_281.out; have hnb40 := NB281_258.out; have hnc40 := NB258_281.out; have hnb41 := NB281_269.out; have hnc41 := NB269_281.out; obtain ⟨hcz42_0, hcz42_1, hcz42_2, hcz42_3, hcz42_4, hcz42_5, hfz42_0, hfz42_1, hfz42_2, hfz42_3, hfz42_4, hfz42_5⟩ := Fix.d6 BK281.out; obtain ⟨Ao43, co43, eo43, _⟩ := Kd.Q_slice HO274.out; subst eo43; obtain ⟨Ao44, co44, eo44⟩ := Kd.R_slice HO277.out; subst eo44) | ((with_reducible refine gate_store (t := 28) (p := 9) rfl ?_); refine store_event (t := 28) (p := 9) (v := ?vo_w45) (w1 := ((((((w38.setCell ⟨gb281, 0, none⟩ (.int .i64 t270)).setCell ⟨gb281, 1, none⟩ (.int .i64 t271)).setCell ⟨gb281, 2, none⟩ (.slice Ao43 t272.length co43)).setCell ⟨gb281, 3, none⟩ (.slice Ao44 t275.length co44)).setCell ⟨gb281, 4, none⟩ (.int .i64 t278)).setCell ⟨gb281, 5, none⟩ (.bool t279))) ?hg ?ho ?hn ?hr ?_; (case ho => rfl); (case hg => rfl); (case hn => rfl); (case hr => first | (go_simp; done) | (go_simp; rfl)); intro w45 hw; have n0_ : Aside0 (Kd.R (Kd.int .i64) 3 w45 w.heap.size (fun k_ => some k_ ≠ (.slice Ao19 t242.length co19 : Value).ownBlock ∧ some k_ ≠ (.slice Ao24 t249.length co24 : Value).ownBlock ∧ some k_ ≠ (.slice Ao25 t252.length co25 : Value).ownBlock ∧ some k_ ≠ (.slice Ao33 t261.length co33 : Value).ownBlock ∧ some k_ ≠ (.slice Ao34 t264.length co34 : Value).ownBlock ∧ some k_ ≠ (.slice Ao43 t272.length co43 : Value).ownBlock ∧ some k_ ≠ (.slice Ao44 t275.length co44 : Value).ownBlock) (.slice Ao18 t239.length co18) t239) := ⟨(by rw [hw]; exact (by (with_reducible repeat (first | apply Kd.R_alloc | apply Kd.R_drewN | apply Kd.R_drew)); exact Kd.R_mono (Fix.R_far6 (g := gb281) (Kd.R_types HO241.out BK281.out (by decide)) (fun _ hk => hk.2) _ _ _ _ _ _) (fun _ hk => ⟨hk.1.1.1.1, ⟨hk.1.1.1.2.1, ⟨hk.1.1.1.2.2.1, ⟨hk.1.1.1.2.2.2.1, ⟨hk.1.1.1.2.2.2.2, ⟨hk.1.1.2, hk.1.2⟩⟩⟩⟩⟩⟩)))⟩; have n1_ : Aside0 (Kd.R (Kd.int .i64) 3 w45 w.heap.size (fun k_ => some k_ ≠ (.slice Ao18 t239.length co18 : Value).ownBlock ∧ some k_ ≠ (.slice Ao24 t249.length co24 : Value).ownBlock ∧ some k_ ≠ (.slice Ao25 t252.length co25 : Value).ownBlock ∧ some k_ ≠ (.slice Ao33 t261.length co33 : Value).ownBlock ∧ some k_ ≠ (.slice Ao34 t264.length co34 : Value).ownBlock ∧ some k_ ≠ (.slice Ao43 t272.length co43 : Value).ownBlock ∧ some k_ ≠ (.slice Ao44 t275.length co44 : Value).ownBlock) (.slice Ao19 t242.length co19) t242) := ⟨(by rw [hw]; exact (by (with_reducible repeat (first | apply Kd.R_alloc | apply Kd.R_drewN | apply Kd.R_drew)); exact Kd.R_mono (Fix.R_far6 (g := gb281) (Kd.R_types HO244.out BK281.out (by decide)) (fun _ hk => hk.2) _ _ _ _ _ _) (fun _ hk => ⟨hk.1.1.1.1, ⟨hk.1.1.1.2.1, ⟨hk.1.1.1.2.2.1, ⟨hk.1.1.1.2.2.2.1, ⟨hk.1.1.1.2.2.2.2, ⟨hk.1.1.2, hk.1.2⟩⟩⟩⟩⟩⟩)))⟩; have n2_ : Aside0 (Kd.Q (Kd.int .i64) 3 w45 w.heap.size (fun k_ => some k_ ≠ (.slice Ao18 t239.length co18 : Value).ownBlock ∧ some k_ ≠ (.slice Ao19 t242.length co19 : Value).ownBlock ∧ some k_ ≠ (.slice Ao25 t252.length co25 : Value).ownBlock ∧ some k_ ≠ (.slice Ao33 t261.length co33 : Value).ownBlock ∧ some k_ ≠ (.slice Ao34 t264.length co34 : Value).ownBlock ∧ some k_ ≠ (.slice Ao43 t272.length co43 : Value).ownBlock ∧ some k_ ≠ (.slice Ao44 t275.length co44 : Value).ownBlock) (.slice Ao24 t249.length co24) t249) := ⟨(by rw [hw]; exact (by (with_reducible repeat (first | apply Kd.Q_alloc | apply Kd.Q_drewN | apply Kd.Q_drew)); exact Kd.Q_mono (Fix.Q_far6 (g := gb281) (Kd.Q_types HO251.out BK281.out (by decide)) (fun _ hk => hk.2) _ _ _ _ _ _) (fun _ hk => ⟨hk.1.1.1.1, ⟨hk.1.1.1.2.1, ⟨hk.1.1.1.2.2.1, ⟨hk.1.1.1.2.2.2.1, ⟨hk.1.1.1.2.2.2.2, ⟨hk.1.1.2, hk.1.2⟩⟩⟩⟩⟩⟩)))⟩; have n3_ : Aside0 (Kd.R (Kd.int .i64) 3 w45 w.heap.size (fun k_ => some k_ ≠ (.slice Ao18 t239.length co18 : Value).ownBlock ∧ some k_ ≠ (.slice Ao19 t242.length co19 : Value).ownBlock ∧ some k_ ≠ (.slice Ao24 t249.length co24 : Value).ownBlock ∧ some k_ ≠ (.slice Ao33 t261.length co33 : Value).ownBlock ∧ some k_ ≠ (.slice Ao34 t264.length co34 : Value).ownBlock ∧ some k_ ≠ (.slice Ao43 t272.length co43 : Value).ownBlock ∧ some k_ ≠ (.slice Ao44 t275.length co44 : Value).ownBlock) (.slice Ao25 t252.length co25) t252) := ⟨(by rw [hw]; exact (by (with_reducible repeat (first | apply Kd.R_alloc | apply Kd.R_drewN | apply Kd.R_drew)); exact Kd.R_mono (Fix.R_far6 (g := gb281) (Kd.R_types HO254.out BK281.out (by decide)) (fun _ hk => hk.2) _ _ _ _ _ _) (fun _ hk => ⟨hk.1.1.1.1, ⟨hk.1.1.1.2.1, ⟨hk.1.1.1.2.2.1, ⟨hk.1.1.1.2.2.2.1, ⟨hk.1.1.1.2.2.2.2, ⟨hk.1.1.2, hk.1.2⟩⟩⟩⟩⟩⟩)))⟩; have n4_ : Aside0 (Kd.R (Kd.int .i64) 3 w45 w.heap.size (fun k_ => some k_ ≠ (.slice Ao18 t239.length co18 : Value).ownBlock ∧ some k_ ≠ (.slice Ao19 t242.length co19 : Value).ownBlock ∧ some k_ ≠ (.slice Ao24 t249.length co24 : Value).ownBlock ∧ some k_ ≠ (.slice Ao25 t252.length co25 : Value).ownBlock ∧ some k_ ≠ (.slice Ao34 t264.length co34 : Value).ownBlock ∧ some k_ ≠ (.slice Ao43 t272.length co43 : Value).ownBlock ∧ some k_ ≠ (.slice Ao44 t275.length co44 : Value).ownBlock) (.slice Ao33 t261.length co33) t261) := ⟨(by rw [hw]; exact (by (with_reducible repeat (first | apply Kd.R_alloc | apply Kd.R_drewN | apply Kd.R_drew)); exact Kd.R_mono (Fix.R_far6 (g := gb281) (Kd.R_types HO263.out BK281.out (by decide)) (fun _ hk => hk.2) _ _ _ _ _ _) (fun _ hk => ⟨hk.1.1.1.1, ⟨hk.1.1.1.2.1, ⟨hk.1.1.1.2.2.1, ⟨hk.1.1.1.2.2.2.1, ⟨hk.1.1.1.2.2.2.2, ⟨hk.1.1.2, hk.1.2⟩⟩⟩⟩⟩⟩)))⟩; have n5_ : Aside0 (Kd.R (Kd.int .i64) 3 w45 w.heap.size (fun k_ => some k_ ≠ (.slice Ao18 t239.length co18 : Value).ownBlock ∧ some k_ ≠ (.slice Ao19 t242.length co19 : Value).ownBlock ∧ some k_ ≠ (.slice Ao24 t249.length co24 : Value).ownBlock ∧ some k_ ≠ (.slice Ao25 t252.length co25 : Value).ownBlock ∧ some k_ ≠ (.slice Ao33 t261.length co33 : Value).ownBlock ∧ some k_ ≠ (.slice Ao43 t272.length co43 : Value).ownBlock ∧ some k_ ≠ (.slice Ao44 t275.length co44 : Value).ownBlock) (.slice Ao34 t264.length co34) t264) := ⟨(by rw [hw]; exact (by (with_reducible repeat (first | apply Kd.R_alloc | apply Kd.R_drewN | apply Kd.R_drew)); exact Kd.R_mono (Fix.R_far6 (g := gb281) (Kd.R_types HO266.out BK281.out (by decide)) (fun _ hk => hk.2) _ _ _ _ _ _) (fun _ hk => ⟨hk.1.1.1.1, ⟨hk.1.1.1.2.1, ⟨hk.1.1.1.2.2.1, ⟨hk.1.1.1.2.2.2.1, ⟨hk.1.1.1.2.2.2.2, ⟨hk.1.1.2, hk.1.2⟩⟩⟩⟩⟩⟩)))⟩; have n6_ : Aside0 (Kd.Q (Kd.int .i64) 3 w45 w.heap.size (fun k_ => some k_ ≠ (.slice Ao18 t239.length co18 : Value).ownBlock ∧ some k_ ≠ (.slice Ao19 t242.length co19 : Value).ownBlock ∧ some k_ ≠ (.slice Ao24 t249.length co24 : Value).ownBlock ∧ some k_ ≠ (.slice Ao25 t252.length co25 : Value).ownBlock ∧ some k_ ≠ (.slice Ao33 t261.length co33 : Value).ownBlock ∧ some k_ ≠ (.slice Ao34 t264.length co34 : Value).ownBlock ∧ some k_ ≠ (.slice Ao44 t275.length co44 : Value).ownBlock) (.slice Ao43 t272.length co43) t272) := ⟨(by rw [hw]; exact (by (with_reducible repeat (first | apply Kd.Q_alloc | apply Kd.Q_drewN | apply Kd.Q_drew)); exact Kd.Q_mono (Fix.Q_far6 (g := gb281) (Kd.Q_types HO274.out BK281.out (by decide)) (fun _ hk => hk.2) _ _ _ _ _ _) (fun _ hk => ⟨hk.1.1.1.1.1.1.2, ⟨hk.1.1.1.1.1.2, ⟨hk.1.1.1.1.2, ⟨hk.1.1.1.2, ⟨hk.1.1.2, ⟨hk.1.2, hk.1.1.1.1.1.1.1⟩⟩⟩⟩⟩⟩)))⟩; have n7_ : Aside0 (Kd.R (Kd.int .i64) 3 w45 w.heap.size (fun k_ => some k_ ≠ (.slice Ao18 t239.length co18 : Value).ownBlock ∧ some k_ ≠ (.slice Ao19 t242.length co19 : Value).ownBlock ∧ some k_ ≠ (.slice Ao24 t249.length co24 : Value).ownBlock ∧ some k_ ≠ (.slice Ao25 t252.length co25 : Value).ownBlock ∧ some k_ ≠ (.slice Ao33 t261.length co33 : Value).ownBlock ∧ some k_ ≠ (.slice Ao34 t264.length co34 : Value).ownBlock ∧ some k_ ≠ (.slice Ao43 t272.length co43 : Value).ownBlock) (.slice Ao44 t275.length co44) t275) := ⟨(by rw [hw]; exact (by (with_reducible repeat (first | apply Kd.R_alloc | apply Kd.R_drewN | apply Kd.R_drew)); exact Kd.R_mono (Fix.R_far6 (g := gb281) (Kd.R_types HO277.out BK281.out (by decide)) (fun _ hk => hk.2) _ _ _ _ _ _) (fun _ hk => ⟨hk.1.1.1.1.1.1.2, ⟨hk.1.1.1.1.1.2, ⟨hk.1.1.1.1.2, ⟨hk.1.1.1.2, ⟨hk.1.1.2, ⟨hk.1.2, hk.1.1.1.1.1.1.1⟩⟩⟩⟩⟩⟩)))⟩; have n8_ : Aside0 (w45.heap[gb235]? = some (.cells #[.int .i64 a0_0, .int .i64 a0_1, .slice A0_2 l0_2.length c0_2, .slice A0_3 l0_3.length c0_3, .int .i64 a0_4, .bool a0_5] 38 (0, 0))) := ⟨(by rw [hw]; exact (by (with_reducible repeat (first | refine Fix.kN ?_ _ | refine Fix.kD ?_ | refine Fix.kA ?_ _)); refine Fix.far6 ?_ NB235_281.out _ _ _ _ _ _; (with_reducible repeat (first | refine Fix.kN ?_ _ | refine Fix.kD ?_ | refine Fix.kA ?_ _)); exact BK235.out))⟩; have n9_ : Aside0 (w45.heap[gb258]? = some (.cells #[.int .i64 t247, .int .i64 t248, .slice Ao24 t249.length co24, .slice Ao25 t252.length co25, .int .i64 t255, .bool t256] 28 (0, 0))) := ⟨(by rw [hw]; exact (by (with_reducible repeat (first | refine Fix.kN ?_ _ | refine Fix.kD ?_ | refine Fix.kA ?_ _)); refine Fix.far6 ?_ NB258_281.out _ _ _ _ _ _; (with_reducible repeat (first | refine Fix.kN ?_ _ | refine Fix.kD ?_ | refine Fix.kA ?_ _)); exact BK258.out))⟩; have n10_ : Aside0 (w45.heap[gb269]? = some (.cells #[.int .i64 t259, .int .i64 t260, .slice Ao33 t261.length co33, .slice Ao34 t264.length co34, .int .i64 t267, .bool t268] 28 (0, 0))) := ⟨(by rw [hw]; exact (by (with_reducible repeat (first | refine Fix.kN ?_ _ | refine Fix.kD ?_ | refine Fix.kA ?_ _)); refine Fix.far6 ?_ NB269_281.out _ _ _ _ _ _; (with_reducible repeat (first | refine Fix.kN ?_ _ | refine Fix.kD ?_ | refine Fix.kA ?_ _)); exact BK269.out))⟩; have n11_ : Aside0 (w45.heap[gb281]? = some (.cells #[.int .i64 t270, .int .i64 t271, .slice Ao43 t272.length co43, .slice Ao44 t275.length co44, .int .i64 t278, .bool t279] 28 (0, 0))) := ⟨(by rw [hw]; exact (by (with_reducible repeat (first | refine Fix.kN ?_ _ | refine Fix.kD ?_ | refine Fix.kA ?_ _)); apply Fix.put6; (with_reducible repeat (first | refine Fix.kN ?_ _ | refine Fix.kD ?_ | refine Fix.kA ?_ _)); exact BK281.out))⟩; have n12_ : Aside0 (Below w.heap.size w w45) := ⟨(by rw [hw]; exact (by repeat (first | (with_reducible first | exact HB.out | apply Fix.bA | apply Fix.bN | apply Fix.b1 | refine below_set ?_ GE235.out | refine below_set ?_ GE258.out | refine below_set ?_ GE269.out | refine below_set ?_ GE281.out) | exact HB.out)))⟩; clear hw; clear HO241; clear HO244; clear HO251; clear HO254; clear HO263; clear HO266; clear HO274; clear HO277; clear BK235; clear BK258; clear BK269; clear BK281; clear HB; have HO241 := n0_; have HO244 := n1_; have HO251 := n2_; have HO254 := n3_; have HO263 := n4_; have HO266 := n5_; have HO274 := n6_; have HO277 := n7_; have BK235 := n8_; have BK258 := n9_; have BK269 := n10_; have BK281 := n11_; have HB := n12_; clear n0_ n1_ n2_ n3_ n4_ n5_ n6_ n7_ n8_ n9_ n10_ n11_ n12_))
    (try simp only [Act.put, List.setIfInBounds_toArray, List.set_cons_zero, List.set_cons_succ])
    go_cut [44] (fun v44 wc => ∃ (kq : Nat) (x44_11 : Bool), v44 = .bool x44_11 ∧ Aside0 (laws_FnExactLineStep.j0 kq a1 t257 t280 x44_11 a0_0 a0_1 l0_2 l0_3 a0_4 a0_5 t247 t248 t249 t252 t255 t256 t259 t260 t261 t264 t267 t268 t270 t271 t272 t275 t278 t279 = some r) ∧ Aside0 (kq ≤ k) ∧ Aside0 (Kd.Q (Kd.int .i64) 3 wc w.heap.size (fun k_ => some k_ ≠ ((.slice Ao25 t252.length co25) : Value).ownBlock ∧ some k_ ≠ ((.slice Ao33 t261.length co33) : Value).ownBlock ∧ some k_ ≠ ((.slice Ao34 t264.length co34) : Value).ownBlock ∧ some k_ ≠ ((.slice Ao43 t272.length co43) : Value).ownBlock ∧ some k_ ≠ ((.slice Ao44 t275.length co44) : Value).ownBlock) (.slice Ao24 t249.length co24) t249) ∧ Aside0 (Kd.R (Kd.int .i64) 3 wc w.heap.size (fun k_ => some k_ ≠ ((.slice Ao24 t249.length co24) : Value).ownBlock ∧ some k_ ≠ ((.slice Ao33 t261.length co33) : Value).ownBlock ∧ some k_ ≠ ((.slice Ao34 t264.length co34) : Value).ownBlock ∧ some k_ ≠ ((.slice Ao43 t272.length co43) : Value).ownBlock ∧ some k_ ≠ ((.slice Ao44 t275.length co44) : Value).ownBlock) (.slice Ao25 t252.length co25) t252) ∧ Aside0 (Kd.Q (Kd.int .i64) 3 wc w.heap.size (fun k_ => some k_ ≠ ((.slice Ao24 t249.length co24) : Value).ownBlock ∧ some k_ ≠ ((.slice Ao25 t252.length co25) : Value).ownBlock ∧ some k_ ≠ ((.slice Ao34 t264.length co34) : Value).ownBlock ∧ some k_ ≠ ((.slice Ao43 t272.length co43) : Value).ownBlock ∧ some k_ ≠ ((.slice Ao44 t275.length co44) : Value).ownBlock) (.slice Ao33 t261.length co33) t261) ∧ Aside0 (Kd.Q (Kd.int .i64) 3 wc w.heap.size (fun k_ => some k_ ≠ ((.slice Ao24 t249.length co24) : Value).ownBlock ∧ some k_ ≠ ((.slice Ao25 t252.length co25) : Value).ownBlock ∧ some k_ ≠ ((.slice Ao33 t261.length co33) : Value).ownBlock ∧ some k_ ≠ ((.slice Ao43 t272.length co43) : Value).ownBlock ∧ some k_ ≠ ((.slice Ao44 t275.length co44) : Value).ownBlock) (.slice Ao34 t264.length co34) t264) ∧ Aside0 (Kd.Q (Kd.int .i64) 3 wc w.heap.size (fun k_ => some k_ ≠ ((.slice Ao24 t249.length co24) : Value).ownBlock ∧ some k_ ≠ ((.slice Ao25 t252.length co25) : Value).ownBlock ∧ some k_ ≠ ((.slice Ao33 t261.length co33) : Value).ownBlock ∧ some k_ ≠ ((.slice Ao34 t264.length co34) : Value).ownBlock ∧ some k_ ≠ ((.slice Ao44 t275.length co44) : Value).ownBlock) (.slice Ao43 t272.length co43) t272) ∧ Aside0 (Kd.Q (Kd.int .i64) 3 wc w.heap.size (fun k_ => some k_ ≠ ((.slice Ao24 t249.length co24) : Value).ownBlock ∧ some k_ ≠ ((.slice Ao25 t252.length co25) : Value).ownBlock ∧ some k_ ≠ ((.slice Ao33 t261.length co33) : Value).ownBlock ∧ some k_ ≠ ((.slice Ao34 t264.length co34) : Value).ownBlock ∧ some k_ ≠ ((.slice Ao43 t272.length co43) : Value).ownBlock) (.slice Ao44 t275.length co44) t275) ∧ Aside0 (wc.heap[gb235]? = some (.cells #[.int .i64 a0_0, .int .i64 a0_1, (.slice A0_2 l0_2.length c0_2), (.slice A0_3 l0_3.length c0_3), .int .i64 a0_4, .bool a0_5] 38 (0, 0))) ∧ Aside0 (wc.heap[gb258]? = some (.cells #[.int .i64 t247, .int .i64 t248, (.slice Ao24 t249.length co24), (.slice Ao25 t252.length co25), .int .i64 t255, .bool t256] 28 (0, 0))) ∧ Aside0 (wc.heap[gb269]? = some (.cells #[.int .i64 t259, .int .i64 t260, (.slice Ao33 t261.length co33), (.slice Ao34 t264.length co34), .int .i64 t267, .bool t268] 28 (0, 0))) ∧ Aside0 (wc.heap[gb281]? = some (.cells #[.int .i64 t270, .int .i64 t271, (.slice Ao43 t272.length co43), (.slice Ao44 t275.length co44), .int .i64 t278, .bool t279] 28 (0, 0))) ∧ Aside0 (Below w.heap.size w wc))
    case first =>
      have H := HC12.out
      clear HC12
      replace H := Option.bind_eq_some_iff.mp H
      obtain ⟨t282, A460, H⟩ := H
      replace H : (if t282 = true then (laws_FnExactLineStep.j0 k a1 t257 t280 (t280 != t257) a0_0 a0_1 l0_2 l0_3 a0_4 a0_5 t247 t248 t249 t252 t255 t256 t259 t260 t261 t264 t267 t268 t270 t271 t272 t275 t278 t279) else (laws_FnExactLineStep.j0 k a1 t257 t280 true a0_0 a0_1 l0_2 l0_3 a0_4 a0_5 t247 t248 t249 t252 t255 t256 t259 t260 t261 t264 t267 t268 t270 t271 t272 t275 t278 t279)) = some r := H
      have A46 := Aside0.mk A460
      clear A460
      by_cases c47 : t282 = true
      · subst c47
        have H1 : (laws_FnExactLineStep.j0 k a1 t257 t280 (t280 != t257) a0_0 a0_1 l0_2 l0_3 a0_4 a0_5 t247 t248 t249 t252 t255 t256 t259 t260 t261 t264 t267 t268 t270 t271 t272 t275 t278 t279) = some r := by rw [if_pos rfl] at H; exact H
        clear H
        have H := H1
        clear H1
        have H' := Aside0.mk H
        clear H
        have hnb48 := NB281_235.out
        have hnc48 := NB235_281.out
        have hnb49 := NB281_258.out
        have hnc49 := NB258_281.out
        have hnb50 := NB281_269.out
        have hnc50 := NB269_281.out
        obtain ⟨hcz51_0, hcz51_1, hcz51_2, hcz51_3, hcz51_4, hcz51_5, hfz51_0, hfz51_1, hfz51_2, hfz51_3, hfz51_4, hfz51_5⟩ := Fix.d6 BK281.out
        have hnb52 := NB258_235.out
        have hnc52 := NB235_258.out
        have hnb53 := NB258_269.out
        have hnc53 := NB269_258.out
        obtain ⟨hcz54_0, hcz54_1, hcz54_2, hcz54_3, hcz54_4, hcz54_5, hfz54_0, hfz54_1, hfz54_2, hfz54_3, hfz54_4, hfz54_5⟩ := Fix.d6 BK258.out
        go_wp2_with (first | ((with_reducible refine gate_callee (f := 19) rfl ?_); refine goesL_ (some 38) rfl rfl Try.func19 (by kernel_rfl) rfl #[.agg #[.int .i64 t270, .int .i64 t271, .slice Ao43 t272.length co43, .slice Ao44 t275.length co44, .int .i64 t278, .bool t279], .agg #[.int .i64 t247, .int .i64 t248, .slice Ao24 t249.length co24, .slice Ao25 t252.length co25, .int .i64 t255, .bool t256]] rfl (by (try simp only [List.map_toArray, List.map_cons, List.map_nil]); first | done | rfl | (simp only [List.length_drop, List.length_take]; rfl)) ?_; (with_reducible refine (laws_eqLine.calls k t270 t271 _ _ t272 _ _ t275 t278 t279 t247 t248 _ _ t249 _ _ t252 t255 t256 true _ ?side1 ?side2 ?side3 ?side4 ?side5 ?side6 ?side7 ?side8 A46.out).mono ?_); (case side1 => repeat (first | exact (Kd.Q_reads' HO274.out).2.2 | (with_reducible refine Kd.C_alloc ?_ _) | (with_reducible refine Kd.C_drewN ?_ _) | (with_reducible refine Kd.C_drew ?_))); (case side2 => exact (Kd.Q_reads' HO274.out).2.1); (case side3 => repeat (first | exact (Kd.R_reads' HO277.out).2.2 | (with_reducible refine Kd.C_alloc ?_ _) | (with_reducible refine Kd.C_drewN ?_ _) | (with_reducible refine Kd.C_drew ?_))); (case side4 => exact (Kd.R_reads' HO277.out).2.1); (case side5 => repeat (first | exact (Kd.Q_reads' HO251.out).2.2 | (with_reducible refine Kd.C_alloc ?_ _) | (with_reducible refine Kd.C_drewN ?_ _) | (with_reducible refine Kd.C_drew ?_))); (case side6 => exact (Kd.Q_reads' HO251.out).2.1); (case side7 => repeat (first | exact (Kd.R_reads' HO254.out).2.2 | (with_reducible refine Kd.C_alloc ?_ _) | (with_reducible refine Kd.C_drewN ?_ _) | (with_reducible refine Kd.C_drew ?_))); (case side8 => exact (Kd.R_reads' HO254.out).2.1); rintro e w55 ⟨rfl, hb⟩; refine ⟨_, rfl, ?_⟩; have n0_ := Aside0.mk (Kd.R_below (by (with_reducible repeat (first | apply Kd.R_alloc | apply Kd.R_drewN | apply Kd.R_drew)); exact HO241.out) hb); have n1_ := Aside0.mk (Kd.R_below (by (with_reducible repeat (first | apply Kd.R_alloc | apply Kd.R_drewN | apply Kd.R_drew)); exact HO244.out) hb); have n2_ := Aside0.mk (Kd.Q_below (by (with_reducible repeat (first | apply Kd.Q_alloc | apply Kd.Q_drewN | apply Kd.Q_drew)); exact HO251.out) hb); have n3_ := Aside0.mk (Kd.R_below (by (with_reducible repeat (first | apply Kd.R_alloc | apply Kd.R_drewN | apply Kd.R_drew)); exact HO254.out) hb); have n4_ := Aside0.mk (Kd.R_below (by (with_reducible repeat (first | apply Kd.R_alloc | apply Kd.R_drewN | apply Kd.R_drew)); exact HO263.out) hb); have n5_ := Aside0.mk (Kd.R_below (by (with_reducible repeat (first | apply Kd.R_alloc | apply Kd.R_drewN | apply Kd.R_drew)); exact HO266.out) hb); have n6_ := Aside0.mk (Kd.Q_below (by (with_reducible repeat (first | apply Kd.Q_alloc | apply Kd.Q_drewN | apply Kd.Q_drew)); exact HO274.out) hb); have n7_ := Aside0.mk (Kd.R_below (by (with_reducible repeat (first | apply Kd.R_alloc | apply Kd.R_drewN | apply Kd.R_drew)); exact HO277.out) hb); have n8_ := Aside0.mk (blk_below (g := gb235) (o := .cells #[.int .i64 a0_0, .int .i64 a0_1, .slice A0_2 l0_2.length c0_2, .slice A0_3 l0_3.length c0_3, .int .i64 a0_4, .bool a0_5] 38 (0, 0)) (by (with_reducible repeat (first | refine Fix.kN ?_ _ | refine Fix.kD ?_ | refine Fix.kA ?_ _)); exact BK235.out) hb); have n9_ := Aside0.mk (blk_below (g := gb258) (o := .cells #[.int .i64 t247, .int .i64 t248, .slice Ao24 t249.length co24, .slice Ao25 t252.length co25, .int .i64 t255, .bool t256] 28 (0, 0)) (by (with_reducible repeat (first | refine Fix.kN ?_ _ | refine Fix.kD ?_ | refine Fix.kA ?_ _)); exact BK258.out) hb); have n10_ := Aside0.mk (blk_below (g := gb269) (o := .cells #[.int .i64 t259, .int .i64 t260, .slice Ao33 t261.length co33, .slice Ao34 t264.length co34, .int .i64 t267, .bool t268] 28 (0, 0)) (by (with_reducible repeat (first | refine Fix.kN ?_ _ | refine Fix.kD ?_ | refine Fix.kA ?_ _)); exact BK269.out) hb); have n11_ := Aside0.mk (blk_below (g := gb281) (o := .cells #[.int .i64 t270, .int .i64 t271, .slice Ao43 t272.length co43, .slice Ao44 t275.length co44, .int .i64 t278, .bool t279] 28 (0, 0)) (by (with_reducible repeat (first | refine Fix.kN ?_ _ | refine Fix.kD ?_ | refine Fix.kA ?_ _)); exact BK281.out) hb); have n12_ := Aside0.mk (below_step (by repeat (first | (with_reducible first | exact HB.out | apply Fix.bA | apply Fix.bN | apply Fix.b1 | refine below_set ?_ GE235.out | refine below_set ?_ GE258.out | refine below_set ?_ GE269.out | refine below_set ?_ GE281.out) | exact HB.out)) hb); clear HO241; clear HO244; clear HO251; clear HO254; clear HO263; clear HO266; clear HO274; clear HO277; clear BK235; clear BK258; clear BK269; clear BK281; clear HB; have HO241 := n0_; have HO244 := n1_; have HO251 := n2_; have HO254 := n3_; have HO263 := n4_; have HO266 := n5_; have HO274 := n6_; have HO277 := n7_; have BK235 := n8_; have BK258 := n9_; have BK269 := n10_; have BK281 := n11_; have HB := n12_; clear n0_ n1_ n2_ n3_ n4_ n5_ n6_ n7_ n8_ n9_ n10_ n11_ n12_; (try clear hb); (try clear hb2); (try clear hk); (try clear hi)))
        go_meet
        case rel => exact ⟨_, ((t280 != t257)), (by first | rfl | (simp; done) | (simp [*]; done)), H', ⟨by first | omega | exact Nat.le_refl _⟩, ⟨by (with_reducible repeat (first | apply Kd.Q_alloc | apply Kd.Q_drewN | apply Kd.Q_drew)); exact Kd.Q_mono HO251.out (fun _ hk => ⟨hk.2.2.1, ⟨hk.2.2.2.1, ⟨hk.2.2.2.2.1, ⟨hk.2.2.2.2.2.1, hk.2.2.2.2.2.2⟩⟩⟩⟩)⟩, ⟨by (with_reducible repeat (first | apply Kd.R_alloc | apply Kd.R_drewN | apply Kd.R_drew)); exact Kd.R_mono HO254.out (fun _ hk => ⟨hk.2.2.1, ⟨hk.2.2.2.1, ⟨hk.2.2.2.2.1, ⟨hk.2.2.2.2.2.1, hk.2.2.2.2.2.2⟩⟩⟩⟩)⟩, ⟨Kd.Q_of_R (by (with_reducible repeat (first | apply Kd.R_alloc | apply Kd.R_drewN | apply Kd.R_drew)); exact Kd.R_mono HO263.out (fun _ hk => ⟨hk.2.2.1, ⟨hk.2.2.2.1, ⟨hk.2.2.2.2.1, ⟨hk.2.2.2.2.2.1, hk.2.2.2.2.2.2⟩⟩⟩⟩))⟩, ⟨Kd.Q_of_R (by (with_reducible repeat (first | apply Kd.R_alloc | apply Kd.R_drewN | apply Kd.R_drew)); exact Kd.R_mono HO266.out (fun _ hk => ⟨hk.2.2.1, ⟨hk.2.2.2.1, ⟨hk.2.2.2.2.1, ⟨hk.2.2.2.2.2.1, hk.2.2.2.2.2.2⟩⟩⟩⟩))⟩, ⟨by (with_reducible repeat (first | apply Kd.Q_alloc | apply Kd.Q_drewN | apply Kd.Q_drew)); exact Kd.Q_mono HO274.out (fun _ hk => ⟨hk.2.2.1, ⟨hk.2.2.2.1, ⟨hk.2.2.2.2.1, ⟨hk.2.2.2.2.2.1, hk.2.2.2.2.2.2⟩⟩⟩⟩)⟩, ⟨Kd.Q_of_R (by (with_reducible repeat (first | apply Kd.R_alloc | apply Kd.R_drewN | apply Kd.R_drew)); exact Kd.R_mono HO277.out (fun _ hk => ⟨hk.2.2.1, ⟨hk.2.2.2.1, ⟨hk.2.2.2.2.1, ⟨hk.2.2.2.2.2.1, hk.2.2.2.2.2.2⟩⟩⟩⟩))⟩, ⟨by (with_reducible repeat (first | refine Fix.kN ?_ _ | refine Fix.kD ?_ | refine Fix.kA ?_ _)); exact BK235.out⟩, ⟨by (with_reducible repeat (first | refine Fix.kN ?_ _ | refine Fix.kD ?_ | refine Fix.kA ?_ _)); exact BK258.out⟩, ⟨by (with_reducible repeat (first | refine Fix.kN ?_ _ | refine Fix.kD ?_ | refine Fix.kA ?_ _)); exact BK269.out⟩, ⟨by (with_reducible repeat (first | refine Fix.kN ?_ _ | refine Fix.kD ?_ | refine Fix.kA ?_ _)); exact BK281.out⟩, ⟨by repeat (first | (with_reducible first | exact HB.out | apply Fix.bA | apply Fix.bN | apply Fix.b1 | refine below_set ?_ GE235.out | refine below_set ?_ GE258.out | refine below_set ?_ GE269.out | refine below_set ?_ GE281.out) | exact HB.out)⟩⟩
      · replace c47 := Bool.eq_false_iff.mpr c47
        subst c47
        have H1 : (laws_FnExactLineStep.j0 k a1 t257 t280 true a0_0 a0_1 l0_2 l0_3 a0_4 a0_5 t247 t248 t249 t252 t255 t256 t259 t260 t261 t264 t267 t268 t270 t271 t272 t275 t278 t279) = some r := by rw [if_neg (show ¬ (false = true) by decide)] at H; exact H
        clear H
        have H := H1
        clear H1
        have H' := Aside0.mk H
        clear H
        have hnb56 := NB281_235.out
        have hnc56 := NB235_281.out
        have hnb57 := NB281_258.out
        have hnc57 := NB258_281.out
        have hnb58 := NB281_269.out
        have hnc58 := NB269_281.out
        obtain ⟨hcz59_0, hcz59_1, hcz59_2, hcz59_3, hcz59_4, hcz59_5, hfz59_0, hfz59_1, hfz59_2, hfz59_3, hfz59_4, hfz59_5⟩ := Fix.d6 BK281.out
        have hnb60 := NB258_235.out
        have hnc60 := NB235_258.out
        have hnb61 := NB258_269.out
        have hnc61 := NB269_258.out
        obtain ⟨hcz62_0, hcz62_1, hcz62_2, hcz62_3, hcz62_4, hcz62_5, hfz62_0, hfz62_1, hfz62_2, hfz62_3, hfz62_4, hfz62_5⟩ := Fix.d6 BK258.out
        go_wp2_with (first | ((with_reducible refine gate_callee (f := 19) rfl ?_); refine goesL_ (some 38) rfl rfl Try.func19 (by kernel_rfl) rfl #[.agg #[.int .i64 t270, .int .i64 t271, .slice Ao43 t272.length co43, .slice Ao44 t275.length co44, .int .i64 t278, .bool t279], .agg #[.int .i64 t247, .int .i64 t248, .slice Ao24 t249.length co24, .slice Ao25 t252.length co25, .int .i64 t255, .bool t256]] rfl (by (try simp only [List.map_toArray, List.map_cons, List.map_nil]); first | done | rfl | (simp only [List.length_drop, List.length_take]; rfl)) ?_; (with_reducible refine (laws_eqLine.calls k t270 t271 _ _ t272 _ _ t275 t278 t279 t247 t248 _ _ t249 _ _ t252 t255 t256 false _ ?side1 ?side2 ?side3 ?side4 ?side5 ?side6 ?side7 ?side8 A46.out).mono ?_); (case side1 => repeat (first | exact (Kd.Q_reads' HO274.out).2.2 | (with_reducible refine Kd.C_alloc ?_ _) | (with_reducible refine Kd.C_drewN ?_ _) | (with_reducible refine Kd.C_drew ?_))); (case side2 => exact (Kd.Q_reads' HO274.out).2.1); (case side3 => repeat (first | exact (Kd.R_reads' HO277.out).2.2 | (with_reducible refine Kd.C_alloc ?_ _) | (with_reducible refine Kd.C_drewN ?_ _) | (with_reducible refine Kd.C_drew ?_))); (case side4 => exact (Kd.R_reads' HO277.out).2.1); (case side5 => repeat (first | exact (Kd.Q_reads' HO251.out).2.2 | (with_reducible refine Kd.C_alloc ?_ _) | (with_reducible refine Kd.C_drewN ?_ _) | (with_reducible refine Kd.C_drew ?_))); (case side6 => exact (Kd.Q_reads' HO251.out).2.1); (case side7 => repeat (first | exact (Kd.R_reads' HO254.out).2.2 | (with_reducible refine Kd.C_alloc ?_ _) | (with_reducible refine Kd.C_drewN ?_ _) | (with_reducible refine Kd.C_drew ?_))); (case side8 => exact (Kd.R_reads' HO254.out).2.1); rintro e w63 ⟨rfl, hb⟩; refine ⟨_, rfl, ?_⟩; have n0_ := Aside0.mk (Kd.R_below (by (with_reducible repeat (first | apply Kd.R_alloc | apply Kd.R_drewN | apply Kd.R_drew)); exact HO241.out) hb); have n1_ := Aside0.mk (Kd.R_below (by (with_reducible repeat (first | apply Kd.R_alloc | apply Kd.R_drewN | apply Kd.R_drew)); exact HO244.out) hb); have n2_ := Aside0.mk (Kd.Q_below (by (with_reducible repeat (first | apply Kd.Q_alloc | apply Kd.Q_drewN | apply Kd.Q_drew)); exact HO251.out) hb); have n3_ := Aside0.mk (Kd.R_below (by (with_reducible repeat (first | apply Kd.R_alloc | apply Kd.R_drewN | apply Kd.R_drew)); exact HO254.out) hb); have n4_ := Aside0.mk (Kd.R_below (by (with_reducible repeat (first | apply Kd.R_alloc | apply Kd.R_drewN | apply Kd.R_drew)); exact HO263.out) hb); have n5_ := Aside0.mk (Kd.R_below (by (with_reducible repeat (first | apply Kd.R_alloc | apply Kd.R_drewN | apply Kd.R_drew)); exact HO266.out) hb); have n6_ := Aside0.mk (Kd.Q_below (by (with_reducible repeat (first | apply Kd.Q_alloc | apply Kd.Q_drewN | apply Kd.Q_drew)); exact HO274.out) hb); have n7_ := Aside0.mk (Kd.R_below (by (with_reducible repeat (first | apply Kd.R_alloc | apply Kd.R_drewN | apply Kd.R_drew)); exact HO277.out) hb); have n8_ := Aside0.mk (blk_below (g := gb235) (o := .cells #[.int .i64 a0_0, .int .i64 a0_1, .slice A0_2 l0_2.length c0_2, .slice A0_3 l0_3.length c0_3, .int .i64 a0_4, .bool a0_5] 38 (0, 0)) (by (with_reducible repeat (first | refine Fix.kN ?_ _ | refine Fix.kD ?_ | refine Fix.kA ?_ _)); exact BK235.out) hb); have n9_ := Aside0.mk (blk_below (g := gb258) (o := .cells #[.int .i64 t247, .int .i64 t248, .slice Ao24 t249.length co24, .slice Ao25 t252.length co25, .int .i64 t255, .bool t256] 28 (0, 0)) (by (with_reducible repeat (first | refine Fix.kN ?_ _ | refine Fix.kD ?_ | refine Fix.kA ?_ _)); exact BK258.out) hb); have n10_ := Aside0.mk (blk_below (g := gb269) (o := .cells #[.int .i64 t259, .int .i64 t260, .slice Ao33 t261.length co33, .slice Ao34 t264.length co34, .int .i64 t267, .bool t268] 28 (0, 0)) (by (with_reducible repeat (first | refine Fix.kN ?_ _ | refine Fix.kD ?_ | refine Fix.kA ?_ _)); exact BK269.out) hb); have n11_ := Aside0.mk (blk_below (g := gb281) (o := .cells #[.int .i64 t270, .int .i64 t271, .slice Ao43 t272.length co43, .slice Ao44 t275.length co44, .int .i64 t278, .bool t279] 28 (0, 0)) (by (with_reducible repeat (first | refine Fix.kN ?_ _ | refine Fix.kD ?_ | refine Fix.kA ?_ _)); exact BK281.out) hb); have n12_ := Aside0.mk (below_step (by repeat (first | (with_reducible first | exact HB.out | apply Fix.bA | apply Fix.bN | apply Fix.b1 | refine below_set ?_ GE235.out | refine below_set ?_ GE258.out | refine below_set ?_ GE269.out | refine below_set ?_ GE281.out) | exact HB.out)) hb); clear HO241; clear HO244; clear HO251; clear HO254; clear HO263; clear HO266; clear HO274; clear HO277; clear BK235; clear BK258; clear BK269; clear BK281; clear HB; have HO241 := n0_; have HO244 := n1_; have HO251 := n2_; have HO254 := n3_; have HO263 := n4_; have HO266 := n5_; have HO274 := n6_; have HO277 := n7_; have BK235 := n8_; have BK258 := n9_; have BK269 := n10_; have BK281 := n11_; have HB := n12_; clear n0_ n1_ n2_ n3_ n4_ n5_ n6_ n7_ n8_ n9_ n10_ n11_ n12_; (try clear hb); (try clear hb2); (try clear hk); (try clear hi)))
        go_meet
        case rel => exact ⟨_, (true), (by first | rfl | (simp; done) | (simp [*]; done)), H', ⟨by first | omega | exact Nat.le_refl _⟩, ⟨by (with_reducible repeat (first | apply Kd.Q_alloc | apply Kd.Q_drewN | apply Kd.Q_drew)); exact Kd.Q_mono HO251.out (fun _ hk => ⟨hk.2.2.1, ⟨hk.2.2.2.1, ⟨hk.2.2.2.2.1, ⟨hk.2.2.2.2.2.1, hk.2.2.2.2.2.2⟩⟩⟩⟩)⟩, ⟨by (with_reducible repeat (first | apply Kd.R_alloc | apply Kd.R_drewN | apply Kd.R_drew)); exact Kd.R_mono HO254.out (fun _ hk => ⟨hk.2.2.1, ⟨hk.2.2.2.1, ⟨hk.2.2.2.2.1, ⟨hk.2.2.2.2.2.1, hk.2.2.2.2.2.2⟩⟩⟩⟩)⟩, ⟨Kd.Q_of_R (by (with_reducible repeat (first | apply Kd.R_alloc | apply Kd.R_drewN | apply Kd.R_drew)); exact Kd.R_mono HO263.out (fun _ hk => ⟨hk.2.2.1, ⟨hk.2.2.2.1, ⟨hk.2.2.2.2.1, ⟨hk.2.2.2.2.2.1, hk.2.2.2.2.2.2⟩⟩⟩⟩))⟩, ⟨Kd.Q_of_R (by (with_reducible repeat (first | apply Kd.R_alloc | apply Kd.R_drewN | apply Kd.R_drew)); exact Kd.R_mono HO266.out (fun _ hk => ⟨hk.2.2.1, ⟨hk.2.2.2.1, ⟨hk.2.2.2.2.1, ⟨hk.2.2.2.2.2.1, hk.2.2.2.2.2.2⟩⟩⟩⟩))⟩, ⟨by (with_reducible repeat (first | apply Kd.Q_alloc | apply Kd.Q_drewN | apply Kd.Q_drew)); exact Kd.Q_mono HO274.out (fun _ hk => ⟨hk.2.2.1, ⟨hk.2.2.2.1, ⟨hk.2.2.2.2.1, ⟨hk.2.2.2.2.2.1, hk.2.2.2.2.2.2⟩⟩⟩⟩)⟩, ⟨Kd.Q_of_R (by (with_reducible repeat (first | apply Kd.R_alloc | apply Kd.R_drewN | apply Kd.R_drew)); exact Kd.R_mono HO277.out (fun _ hk => ⟨hk.2.2.1, ⟨hk.2.2.2.1, ⟨hk.2.2.2.2.1, ⟨hk.2.2.2.2.2.1, hk.2.2.2.2.2.2⟩⟩⟩⟩))⟩, ⟨by (with_reducible repeat (first | refine Fix.kN ?_ _ | refine Fix.kD ?_ | refine Fix.kA ?_ _)); exact BK235.out⟩, ⟨by (with_reducible repeat (first | refine Fix.kN ?_ _ | refine Fix.kD ?_ | refine Fix.kA ?_ _)); exact BK258.out⟩, ⟨by (with_reducible repeat (first | refine Fix.kN ?_ _ | refine Fix.kD ?_ | refine Fix.kA ?_ _)); exact BK269.out⟩, ⟨by (with_reducible repeat (first | refine Fix.kN ?_ _ | refine Fix.kD ?_ | refine Fix.kA ?_ _)); exact BK281.out⟩, ⟨by repeat (first | (with_reducible first | exact HB.out | apply Fix.bA | apply Fix.bN | apply Fix.b1 | refine below_set ?_ GE235.out | refine below_set ?_ GE258.out | refine below_set ?_ GE269.out | refine below_set ?_ GE281.out) | exact HB.out)⟩⟩
    case rest =>
      clear HC12
      try clear c1
      try clear c2
      try clear p2
      try clear c3
      try clear c4
      try clear c4b0
      try clear c5
      try clear c6
      try clear c8
      try clear c19
      try clear c22
      try clear c24
      try clear c26
      try clear c28
      try clear c30
      try clear c31
      try clear c39
      try clear c40
      try clear c41
      try clear c47
      try clear c48
      try clear c49
      try clear c50
      try clear c52
      try clear c53
      try clear c56
      try clear c57
      try clear c58
      try clear c60
      try clear c61
      try clear hcz14_0
      try clear hcz14_1
      try clear hcz14_2
      try clear hcz14_3
      try clear hcz14_4
      try clear hcz14_5
      try clear hcz16_0
      try clear hcz16_1
      try clear hcz16_2
      try clear hcz16_3
      try clear hcz16_4
      try clear hcz16_5
      try clear hcz23_0
      try clear hcz23_1
      try clear hcz23_2
      try clear hcz23_3
      try clear hcz23_4
      try clear hcz23_5
      try clear hcz27_0
      try clear hcz27_1
      try clear hcz27_2
      try clear hcz27_3
      try clear hcz27_4
      try clear hcz27_5
      try clear hcz32_0
      try clear hcz32_1
      try clear hcz32_2
      try clear hcz32_3
      try clear hcz32_4
      try clear hcz32_5
      try clear hcz36_0
      try clear hcz36_1
      try clear hcz36_2
      try clear hcz36_3
      try clear hcz36_4
      try clear hcz36_5
      try clear hcz42_0
      try clear hcz42_1
      try clear hcz42_2
      try clear hcz42_3
      try clear hcz42_4
      try clear hcz42_5
      try clear hcz51_0
      try clear hcz51_1
      try clear hcz51_2
      try clear hcz51_3
      try clear hcz51_4
      try clear hcz51_5
      try clear hcz54_0
      try clear hcz54_1
      try clear hcz54_2
      try clear hcz54_3
      try clear hcz54_4
      try clear hcz54_5
      try clear hcz59_0
      try clear hcz59_1
      try clear hcz59_2
      try clear hcz59_3
      try clear hcz59_4
      try clear hcz59_5
      try clear hcz62_0
      try clear hcz62_1
      try clear hcz62_2
      try clear hcz62_3
      try clear hcz62_4
      try clear hcz62_5
      try clear hcz6_0
      try clear hcz6_1
      try clear hcz6_2
      try clear hcz6_3
      try clear hcz6_4
      try clear hcz6_5
      try clear hfz14_0
      try clear hfz14_1
      try clear hfz14_2
      try clear hfz14_3
      try clear hfz14_4
      try clear hfz14_5
      try clear hfz16_0
      try clear hfz16_1
      try clear hfz16_2
      try clear hfz16_3
      try clear hfz16_4
      try clear hfz16_5
      try clear hfz23_0
      try clear hfz23_1
      try clear hfz23_2
      try clear hfz23_3
      try clear hfz23_4
      try clear hfz23_5
      try clear hfz27_0
      try clear hfz27_1
      try clear hfz27_2
      try clear hfz27_3
      try clear hfz27_4
      try clear hfz27_5
      try clear hfz32_0
      try clear hfz32_1
      try clear hfz32_2
      try clear hfz32_3
      try clear hfz32_4
      try clear hfz32_5
      try clear hfz36_0
      try clear hfz36_1
      try clear hfz36_2
      try clear hfz36_3
      try clear hfz36_4
      try clear hfz36_5
      try clear hfz42_0
      try clear hfz42_1
      try clear hfz42_2
      try clear hfz42_3
      try clear hfz42_4
      try clear hfz42_5
      try clear hfz51_0
      try clear hfz51_1
      try clear hfz51_2
      try clear hfz51_3
      try clear hfz51_4
      try clear hfz51_5
      try clear hfz54_0
      try clear hfz54_1
      try clear hfz54_2
      try clear hfz54_3
      try clear hfz54_4
      try clear hfz54_5
      try clear hfz59_0
      try clear hfz59_1
      try clear hfz59_2
      try clear hfz59_3
      try clear hfz59_4
      try clear hfz59_5
      try clear hfz62_0
      try clear hfz62_1
      try clear hfz62_2
      try clear hfz62_3
      try clear hfz62_4
      try clear hfz62_5
      try clear hfz6_0
      try clear hfz6_1
      try clear hfz6_2
      try clear hfz6_3
      try clear hfz6_4
      try clear hfz6_5
      obtain ⟨kq, x44_11, rfl, HA, HJ11, HO_259002, HO_259003, HO_270002, HO_270003, HO_282002, HO_282003, BK235, BK258, BK269, BK281, HB⟩ := hcut
      cases kq with
      | zero => exact absurd HA.out (by simp [laws_FnExactLineStep.j0])
      | succ kj11 =>
        have H := HA.out
        clear HA
        simp only [laws_FnExactLineStep.j0] at H
        by_cases c64 : x44_11 = true
        · subst c64
          have H1 : (some false) = some r := by rw [if_pos rfl] at H; exact H
          clear H
          have H := H1
          clear H1
          exact absurd (hT.out ▸ H) (by simp)
        · replace c64 := Bool.eq_false_iff.mpr c64
          subst c64
          have H1 : ((laws_toLine.f kj11 a0_0 a0_1 l0_2 l0_3 a0_4 a0_5).bind fun bt283 => ((laws_eqLine.f kj11 t259 t260 t261 t264 t267 t268 bt283.1 bt283.2.1 bt283.2.2.1 bt283.2.2.2.1 bt283.2.2.2.2.1 bt283.2.2.2.2.2).bind fun t293 => (if t293 = true then ((laws_markLine.f kj11 t259 t260 t261 t264 t267 t268 1).bind fun bt294 => (if bt294.1 < 0 then (laws_FnExactLineStep.j1 kj11 a1 t257 true a0_0 a0_1 l0_2 l0_3 a0_4 a0_5 t247 t248 t249 t252 t255 t256 t270 t271 t272 t275 t278 t279) else ((laws_eqLine.f kj11 t270 t271 t272 t275 t278 t279 t247 t248 t249 t252 t255 t256).bind fun t297 => (if t297 = true then (laws_FnExactLineStep.j1 kj11 a1 t257 (t280 != t257) a0_0 a0_1 l0_2 l0_3 a0_4 a0_5 t247 t248 t249 t252 t255 t256 t270 t271 t272 t275 t278 t279) else (laws_FnExactLineStep.j1 kj11 a1 t257 true a0_0 a0_1 l0_2 l0_3 a0_4 a0_5 t247 t248 t249 t252 t255 t256 t270 t271 t272 t275 t278 t279))))) else (some false)))) = some r := by rw [if_neg (show ¬ (false = true) by decide)] at H; exact H
          clear H
          have H := H1
          clear H1
          replace H := Option.bind_eq_some_iff.mp H
          obtain ⟨⟨t283, t284, t285, t288, t291, t292⟩, A650, H⟩ := H
          replace H : ((laws_eqLine.f kj11 t259 t260 t261 t264 t267 t268 t283 t284 t285 t288 t291 t292).bind fun t293 => (if t293 = true then ((laws_markLine.f kj11 t259 t260 t261 t264 t267 t268 1).bind fun bt294 => (if bt294.1 < 0 then (laws_FnExactLineStep.j1 kj11 a1 t257 true a0_0 a0_1 l0_2 l0_3 a0_4 a0_5 t247 t248 t249 t252 t255 t256 t270 t271 t272 t275 t278 t279) else ((laws_eqLine.f kj11 t270 t271 t272 t275 t278 t279 t247 t248 t249 t252 t255 t256).bind fun t297 => (if t297 = true then (laws_FnExactLineStep.j1 kj11 a1 t257 (t280 != t257) a0_0 a0_1 l0_2 l0_3 a0_4 a0_5 t247 t248 t249 t252 t255 t256 t270 t271 t272 t275 t278 t279) else (laws_FnExactLineStep.j1 kj11 a1 t257 true a0_0 a0_1 l0_2 l0_3 a0_4 a0_5 t247 t248 t249 t252 t255 t256 t270 t271 t272 t275 t278 t279))))) else (some false))) = some r := H
          have A65 := Aside0.mk A650
          clear A650
          replace H := Option.bind_eq_some_iff.mp H
          obtain ⟨t293, A660, H⟩ := H
          replace H : (if t293 = true then ((laws_markLine.f kj11 t259 t260 t261 t264 t267 t268 1).bind fun bt294 => (if bt294.1 < 0 then (laws_FnExactLineStep.j1 kj11 a1 t257 true a0_0 a0_1 l0_2 l0_3 a0_4 a0_5 t247 t248 t249 t252 t255 t256 t270 t271 t272 t275 t278 t279) else ((laws_eqLine.f kj11 t270 t271 t272 t275 t278 t279 t247 t248 t249 t252 t255 t256).bind fun t297 => (if t297 = true then (laws_FnExactLineStep.j1 kj11 a1 t257 (t280 != t257) a0_0 a0_1 l0_2 l0_3 a0_4 a0_5 t247 t248 t249 t252 t255 t256 t270 t271 t272 t275 t278 t279) else (laws_FnExactLineStep.j1 kj11 a1 t257 true a0_0 a0_1 l0_2 l0_3 a0_4 a0_5 t247 t248 t249 t252 t255 t256 t270 t271 t272 t275 t278 t279))))) else (some false)) = some r := H
          have A66 := Aside0.mk A660
          clear A660
          by_cases c67 : t293 = true
          · subst c67
            have H1 : ((laws_markLine.f kj11 t259 t260 t261 t264 t267 t268 1).bind fun bt294 => (if bt294.1 < 0 then (laws_FnExactLineStep.j1 kj11 a1 t257 true a0_0 a0_1 l0_2 l0_3 a0_4 a0_5 t247 t248 t249 t252 t255 t256 t270 t271 t272 t275 t278 t279) else ((laws_eqLine.f kj11 t270 t271 t272 t275 t278 t279 t247 t248 t249 t252 t255 t256).bind fun t297 => (if t297 = true then (laws_FnExactLineStep.j1 kj11 a1 t257 (t280 != t257) a0_0 a0_1 l0_2 l0_3 a0_4 a0_5 t247 t248 t249 t252 t255 t256 t270 t271 t272 t275 t278 t279) else (laws_FnExactLineStep.j1 kj11 a1 t257 true a0_0 a0_1 l0_2 l0_3 a0_4 a0_5 t247 t248 t249 t252 t255 t256 t270 t271 t272 t275 t278 t279))))) = some r := by rw [if_pos rfl] at H; exact H
            clear H
            have H := H1
            clear H1
            replace H := Option.bind_eq_some_iff.mp H
            obtain ⟨⟨t294, t295, t296⟩, A680, H⟩ := H
            replace H : (if t294 < 0 then (laws_FnExactLineStep.j1 kj11 a1 t257 true a0_0 a0_1 l0_2 l0_3 a0_4 a0_5 t247 t248 t249 t252 t255 t256 t270 t271 t272 t275 t278 t279) else ((laws_eqLine.f kj11 t270 t271 t272 t275 t278 t279 t247 t248 t249 t252 t255 t256).bind fun t297 => (if t297 = true then (laws_FnExactLineStep.j1 kj11 a1 t257 (t280 != t257) a0_0 a0_1 l0_2 l0_3 a0_4 a0_5 t247 t248 t249 t252 t255 t256 t270 t271 t272 t275 t278 t279) else (laws_FnExactLineStep.j1 kj11 a1 t257 true a0_0 a0_1 l0_2 l0_3 a0_4 a0_5 t247 t248 t249 t252 t255 t256 t270 t271 t272 t275 t278 t279)))) = some r := H
            have A68 := Aside0.mk A680
            clear A680
            have HC69 := Aside0.mk H
            clear H
            try go_wp2
            have n0_ := Aside0.mk (Kd.Q_drew HO_259002.out)
            have n1_ := Aside0.mk (Kd.R_drew HO_259003.out)
            have n2_ := Aside0.mk (Kd.Q_drew HO_270002.out)
            have n3_ := Aside0.mk (Kd.Q_drew HO_270003.out)
            have n4_ := Aside0.mk (Kd.Q_drew HO_282002.out)
            have n5_ := Aside0.mk (Kd.Q_drew HO_282003.out)
            have n6_ := Aside0.mk (blk_drew BK235.out)
            have n7_ := Aside0.mk (blk_drew BK258.out)
            have n8_ := Aside0.mk (blk_drew BK269.out)
            have n9_ := Aside0.mk (blk_drew BK281.out)
            have n10_ := Aside0.mk (below_drew1 HB.out)
            clear HO_259002
            clear HO_259003
            clear HO_270002
            clear HO_270003
            clear HO_282002
            clear HO_282003
            clear BK235
            clear BK258
            clear BK269
            clear BK281
            clear HB
            have HO_259002 := n0_
            have HO_259003 := n1_
            have HO_270002 := n2_
            have HO_270003 := n3_
            have HO_282002 := n4_
            have HO_282003 := n5_
            have BK235 := n6_
            have BK258 := n7_
            have BK269 := n8_
            have BK281 := n9_
            have HB := n10_
            clear n0_ n1_ n2_ n3_ n4_ n5_ n6_ n7_ n8_ n9_ n10_
            refine start_ (n := 5) (S := fun w' => w'.cell? ⟨gb269, 0, none⟩ = some (.int .i64 t259) ∧ w'.cell? ⟨gb269, 1, none⟩ = some (.int .i64 t260) ∧ w'.cell? ⟨gb269, 2, none⟩ = some (.slice Ao33 t261.length co33) ∧ w'.cell? ⟨gb269, 3, none⟩ = some (.slice Ao34 t264.length co34) ∧ w'.cell? ⟨gb269, 4, none⟩ = some (.int .i64 t267) ∧ w'.cell? ⟨gb269, 5, none⟩ = some (.bool t268) ∧ w'.cell? ⟨gb235, 0, none⟩ = some (.int .i64 a0_0) ∧ w'.cell? ⟨gb235, 1, none⟩ = some (.int .i64 a0_1) ∧ w'.cell? ⟨gb235, 2, none⟩ = some (.slice A0_2 l0_2.length c0_2) ∧ w'.cell? ⟨gb235, 3, none⟩ = some (.slice A0_3 l0_3.length c0_3) ∧ w'.cell? ⟨gb235, 4, none⟩ = some (.int .i64 a0_4) ∧ w'.cell? ⟨gb235, 5, none⟩ = some (.bool a0_5)) (ds := []) #[false, false, false, false, false] (by kernel_rfl) rfl rfl ⟨(blk_cell BK269.out 0).trans rfl, (blk_cell BK269.out 1).trans rfl, (blk_cell BK269.out 2).trans rfl, (blk_cell BK269.out 3).trans rfl, (blk_cell BK269.out 4).trans rfl, (blk_cell BK269.out 5).trans rfl, (blk_cell BK235.out 0).trans rfl, (blk_cell BK235.out 1).trans rfl, (blk_cell BK235.out 2).trans rfl, (blk_cell BK235.out 3).trans rfl, (blk_cell BK235.out 4).trans rfl, (blk_cell BK235.out 5).trans rfl⟩ (fun hHeld => ?_)
            generalize wc.drew = w70 at HO_259002 HO_259003 HO_270002 HO_270003 HO_282002 HO_282003 BK235 BK258 BK269 BK281 HB hHeld ⊢
            refine take_ (i := 0) (N := some 45) (v := ?_) (a' := ?_) #[true, false, false, false, false] rfl rfl (by kernel_rfl) (fun _ _ _ h => h) (Or.inl ⟨by rfl, ?_⟩) hHeld ?_ ?_
            rotate_left
            · rintro w' ⟨s0, s1, s2, s3, s4, s5, s6, s7, s8, s9, s10, s11⟩
              go_simp
              with_reducible rfl
            rotate_left
            · simp only [Act.put, List.setIfInBounds_toArray, List.set_cons_zero, List.set_cons_succ, i64_w, i32_w]
              rfl
            refine take_ (i := 1) (N := some 46) (v := ?_) (a' := ?_) #[true, true, false, false, false] rfl rfl (by kernel_rfl) (fun _ _ _ h => h) (Or.inl ⟨by rfl, ?_⟩) hHeld ?_ ?_
            rotate_left
            · rintro w' ⟨s0, s1, s2, s3, s4, s5, s6, s7, s8, s9, s10, s11⟩
              go_simp
              with_reducible rfl
            rotate_left
            · simp only [Act.put, List.setIfInBounds_toArray, List.set_cons_zero, List.set_cons_succ, i64_w, i32_w]
              rfl
            refine one_ (i := 2) (N := some 47) #[true, true, true, false, false] rfl rfl (by kernel_rfl) (by decide) (fun K hK => ?_)
            refine goes_ Try.func24 (by kernel_rfl) rfl #[.agg #[.int .i64 a0_0, .int .i64 a0_1, .slice A0_2 l0_2.length c0_2, .slice A0_3 l0_3.length c0_3, .int .i64 a0_4, .bool a0_5]] (by rfl) rfl rfl (by (try simp only [List.map_toArray, List.map_cons, List.map_nil]); first | done | rfl | (simp only [List.length_drop, List.length_take]; rfl)) ?_
            with_reducible refine (laws_toLine.calls kj11 a0_0 a0_1 _ _ l0_2 _ _ l0_3 a0_4 a0_5 t283 t284 t285 t288 t291 t292 _ ?side1 ?side2 ?side3 ?side4 A65.out).mono ?_
            (case side1 => repeat (first | exact (Kd.C_below HR0_2.out HB.out) | (with_reducible refine Kd.C_alloc ?_ _) | (with_reducible refine Kd.C_drewN ?_ _) | (with_reducible refine Kd.C_drew ?_)))
            (case side2 => exact HC0_2.out)
            (case side3 => repeat (first | exact (Kd.C_below HR0_3.out HB.out) | (with_reducible refine Kd.C_alloc ?_ _) | (with_reducible refine Kd.C_drewN ?_ _) | (with_reducible refine Kd.C_drew ?_)))
            (case side4 => exact HC0_3.out)
            rintro e w71 ⟨v286, v289, rfl, ho0, ho1, hb⟩
            refine ⟨_, rfl, ?_⟩
            have n0_ := Aside0.mk (Kd.Q_mono (Kd.Q_told (Kd.Q_told (Kd.Q_old (by (with_reducible repeat (first | apply Kd.Q_alloc | apply Kd.Q_drewN | apply Kd.Q_drew)); exact HO_259002.out) hb) (Kd.R_base ho0)) (Kd.R_base ho1)) (fun _ h_ => h_.1))
            have n1_ := Aside0.mk (Kd.R_mono (Kd.R_told (Kd.R_told (Kd.R_old (by (with_reducible repeat (first | apply Kd.R_alloc | apply Kd.R_drewN | apply Kd.R_drew)); exact HO_259003.out) hb) (Kd.R_base ho0)) (Kd.R_base ho1)) (fun _ h_ => h_.1))
            have n2_ := Aside0.mk (Kd.Q_mono (Kd.Q_told (Kd.Q_told (Kd.Q_old (by (with_reducible repeat (first | apply Kd.Q_alloc | apply Kd.Q_drewN | apply Kd.Q_drew)); exact HO_270002.out) hb) (Kd.R_base ho0)) (Kd.R_base ho1)) (fun _ h_ => h_.1))
            have n3_ := Aside0.mk (Kd.Q_mono (Kd.Q_told (Kd.Q_told (Kd.Q_old (by (with_reducible repeat (first | apply Kd.Q_alloc | apply Kd.Q_drewN | apply Kd.Q_drew)); exact HO_270003.out) hb) (Kd.R_base ho0)) (Kd.R_base ho1)) (fun _ h_ => h_.1))
            have n4_ := Aside0.mk (Kd.Q_mono (Kd.Q_told (Kd.Q_told (Kd.Q_old (by (with_reducible repeat (first | apply Kd.Q_alloc | apply Kd.Q_drewN | apply Kd.Q_drew)); exact HO_282002.out) hb) (Kd.R_base ho0)) (Kd.R_base ho1)) (fun _ h_ => h_.1))
            have n5_ := Aside0.mk (Kd.Q_mono (Kd.Q_told (Kd.Q_told (Kd.Q_old (by (with_reducible repeat (first | apply Kd.Q_alloc | apply Kd.Q_drewN | apply Kd.Q_drew)); exact HO_282003.out) hb) (Kd.R_base ho0)) (Kd.R_base ho1)) (fun _ h_ => h_.1))
            have n6_ := Aside0.mk (Kd.R_lower (Kd.R_new' (Kd.R_new' (Kd.R_new' (Kd.R_new' (Kd.R_new' (Kd.R_new' ho0 (Kd.Q_lt (by (with_reducible repeat (first | apply Kd.Q_alloc | apply Kd.Q_drewN | apply Kd.Q_drew)); exact HO_259002.out))) (Kd.R_lt (by (with_reducible repeat (first | apply Kd.R_alloc | apply Kd.R_drewN | apply Kd.R_drew)); exact HO_259003.out))) (Kd.Q_lt (by (with_reducible repeat (first | apply Kd.Q_alloc | apply Kd.Q_drewN | apply Kd.Q_drew)); exact HO_270002.out))) (Kd.Q_lt (by (with_reducible repeat (first | apply Kd.Q_alloc | apply Kd.Q_drewN | apply Kd.Q_drew)); exact HO_270003.out))) (Kd.Q_lt (by (with_reducible repeat (first | apply Kd.Q_alloc | apply Kd.Q_drewN | apply Kd.Q_drew)); exact HO_282002.out))) (Kd.Q_lt (by (with_reducible repeat (first | apply Kd.Q_alloc | apply Kd.Q_drewN | apply Kd.Q_drew)); exact HO_282003.out))) (below_size (by repeat (first | (with_reducible first | exact HB.out | apply Fix.bA | apply Fix.bN | apply Fix.b1 | refine below_set ?_ GE235.out | refine below_set ?_ GE258.out | refine below_set ?_ GE269.out | refine below_set ?_ GE281.out) | exact HB.out))))
            have n7_ := Aside0.mk (Kd.R_lower (Kd.R_new' (Kd.R_new' (Kd.R_new' (Kd.R_new' (Kd.R_new' (Kd.R_new' ho1 (Kd.Q_lt (by (with_reducible repeat (first | apply Kd.Q_alloc | apply Kd.Q_drewN | apply Kd.Q_drew)); exact HO_259002.out))) (Kd.R_lt (by (with_reducible repeat (first | apply Kd.R_alloc | apply Kd.R_drewN | apply Kd.R_drew)); exact HO_259003.out))) (Kd.Q_lt (by (with_reducible repeat (first | apply Kd.Q_alloc | apply Kd.Q_drewN | apply Kd.Q_drew)); exact HO_270002.out))) (Kd.Q_lt (by (with_reducible repeat (first | apply Kd.Q_alloc | apply Kd.Q_drewN | apply Kd.Q_drew)); exact HO_270003.out))) (Kd.Q_lt (by (with_reducible repeat (first | apply Kd.Q_alloc | apply Kd.Q_drewN | apply Kd.Q_drew)); exact HO_282002.out))) (Kd.Q_lt (by (with_reducible repeat (first | apply Kd.Q_alloc | apply Kd.Q_drewN | apply Kd.Q_drew)); exact HO_282003.out))) (below_size (by repeat (first | (with_reducible first | exact HB.out | apply Fix.bA | apply Fix.bN | apply Fix.b1 | refine below_set ?_ GE235.out | refine below_set ?_ GE258.out | refine below_set ?_ GE269.out | refine below_set ?_ GE281.out) | exact HB.out))))
            have n8_ := Aside0.mk (blk_below (g := gb235) (o := .cells #[.int .i64 a0_0, .int .i64 a0_1, .slice A0_2 l0_2.length c0_2, .slice A0_3 l0_3.length c0_3, .int .i64 a0_4, .bool a0_5] 38 (0, 0)) (by (with_reducible repeat (first | refine Fix.kN ?_ _ | refine Fix.kD ?_ | refine Fix.kA ?_ _)); exact BK235.out) hb)
            have n9_ := Aside0.mk (blk_below (g := gb258) (o := .cells #[.int .i64 t247, .int .i64 t248, .slice Ao24 t249.length co24, .slice Ao25 t252.length co25, .int .i64 t255, .bool t256] 28 (0, 0)) (by (with_reducible repeat (first | refine Fix.kN ?_ _ | refine Fix.kD ?_ | refine Fix.kA ?_ _)); exact BK258.out) hb)
            have n10_ := Aside0.mk (blk_below (g := gb269) (o := .cells #[.int .i64 t259, .int .i64 t260, .slice Ao33 t261.length co33, .slice Ao34 t264.length co34, .int .i64 t267, .bool t268] 28 (0, 0)) (by (with_reducible repeat (first | refine Fix.kN ?_ _ | refine Fix.kD ?_ | refine Fix.kA ?_ _)); exact BK269.out) hb)
            have n11_ := Aside0.mk (blk_below (g := gb281) (o := .cells #[.int .i64 t270, .int .i64 t271, .slice Ao43 t272.length co43, .slice Ao44 t275.length co44, .int .i64 t278, .bool t279] 28 (0, 0)) (by (with_reducible repeat (first | refine Fix.kN ?_ _ | refine Fix.kD ?_ | refine Fix.kA ?_ _)); exact BK281.out) hb)
            have n12_ := Aside0.mk (below_step (by repeat (first | (with_reducible first | exact HB.out | apply Fix.bA | apply Fix.bN | apply Fix.b1 | refine below_set ?_ GE235.out | refine below_set ?_ GE258.out | refine below_set ?_ GE269.out | refine below_set ?_ GE281.out) | exact HB.out)) hb)
            clear HO_259002
            clear HO_259003
            clear HO_270002
            clear HO_270003
            clear HO_282002
            clear HO_282003
            clear BK235
            clear BK258
            clear BK269
            clear BK281
            clear HB
            have HO_259002 := n0_
            have HO_259003 := n1_
            have HO_270002 := n2_
            have HO_270003 := n3_
            have HO_282002 := n4_
            have HO_282003 := n5_
            have HO287 := n6_
            have HO290 := n7_
            have BK235 := n8_
            have BK258 := n9_
            have BK269 := n10_
            have BK281 := n11_
            have HB := n12_
            clear n0_ n1_ n2_ n3_ n4_ n5_ n6_ n7_ n8_ n9_ n10_ n11_ n12_
            (try clear hb)
            (try clear hb2)
            (try clear hk)
            (try clear hi)
            (try clear ho0)
            (try clear ho1)
            obtain ⟨Ao72, co72, eo72⟩ := Kd.R_slice HO287.out
            (first | subst eo72 | (injection eo72 with f1_ f2_ f3_; have f4_ := f1_.symm; have f5_ := f3_.symm; clear f1_ f2_ f3_; subst f4_; subst f5_))
            obtain ⟨Ao73, co73, eo73⟩ := Kd.R_slice HO290.out
            (first | subst eo73 | (injection eo73 with f1_ f2_ f3_; have f4_ := f1_.symm; have f5_ := f3_.symm; clear f1_ f2_ f3_; subst f4_; subst f5_))
            refine hK.out _ _ ⟨(blk_cell BK269.out 0).trans rfl, (blk_cell BK269.out 1).trans rfl, (blk_cell BK269.out 2).trans rfl, (blk_cell BK269.out 3).trans rfl, (blk_cell BK269.out 4).trans rfl, (blk_cell BK269.out 5).trans rfl, (blk_cell BK235.out 0).trans rfl, (blk_cell BK235.out 1).trans rfl, (blk_cell BK235.out 2).trans rfl, (blk_cell BK235.out 3).trans rfl, (blk_cell BK235.out 4).trans rfl, (blk_cell BK235.out 5).trans rfl⟩ (fun hHeld => ?_)
            clear hK K
            refine norm_ (a' := ?_) ?_ ?_
            rotate_left
            · show Act.put _ (some 47) _ = _
              simp only [Act.put, List.setIfInBounds_toArray, List.set_cons_zero, List.set_cons_succ, i64_w, i32_w]
              rfl
            refine one_ (i := 3) (N := some 48) #[true, true, true, true, false] rfl rfl (by kernel_rfl) (by decide) (fun K hK => ?_)
            refine goes_ Try.func19 (by kernel_rfl) rfl #[.agg #[.int .i64 t259, .int .i64 t260, .slice Ao33 t261.length co33, .slice Ao34 t264.length co34, .int .i64 t267, .bool t268], .agg #[.int .i64 t283, .int .i64 t284, .slice Ao72 t285.length co72, .slice Ao73 t288.length co73, .int .i64 t291, .bool t292]] (by rfl) rfl rfl (by (try simp only [List.map_toArray, List.map_cons, List.map_nil]); first | done | rfl | (simp only [List.length_drop, List.length_take]; rfl)) ?_
            with_reducible refine (laws_eqLine.calls kj11 t259 t260 _ _ t261 _ _ t264 t267 t268 t283 t284 _ _ t285 _ _ t288 t291 t292 true _ ?side1 ?side2 ?side3 ?side4 ?side5 ?side6 ?side7 ?side8 A66.out).mono ?_
            (case side1 => repeat (first | exact (Kd.Q_reads' HO_270002.out).2.2 | (with_reducible refine Kd.C_alloc ?_ _) | (with_reducible refine Kd.C_drewN ?_ _) | (with_reducible refine Kd.C_drew ?_)))
            (case side2 => exact (Kd.Q_reads' HO_270002.out).2.1)
            (case side3 => repeat (first | exact (Kd.Q_reads' HO_270003.out).2.2 | (with_reducible refine Kd.C_alloc ?_ _) | (with_reducible refine Kd.C_drewN ?_ _) | (with_reducible refine Kd.C_drew ?_)))
            (case side4 => exact (Kd.Q_reads' HO_270003.out).2.1)
            (case side5 => repeat (first | exact (Kd.R_reads' HO287.out).2.2 | (with_reducible refine Kd.C_alloc ?_ _) | (with_reducible refine Kd.C_drewN ?_ _) | (with_reducible refine Kd.C_drew ?_)))
            (case side6 => exact (Kd.R_reads' HO287.out).2.1)
            (case side7 => repeat (first | exact (Kd.R_reads' HO290.out).2.2 | (with_reducible refine Kd.C_alloc ?_ _) | (with_reducible refine Kd.C_drewN ?_ _) | (with_reducible refine Kd.C_drew ?_)))
            (case side8 => exact (Kd.R_reads' HO290.out).2.1)
            rintro e w74 ⟨rfl, hb⟩
            refine ⟨_, rfl, ?_⟩
            have n0_ := Aside0.mk (Kd.Q_below (by (with_reducible repeat (first | apply Kd.Q_alloc | apply Kd.Q_drewN | apply Kd.Q_drew)); exact HO_259002.out) hb)
            have n1_ := Aside0.mk (Kd.R_below (by (with_reducible repeat (first | apply Kd.R_alloc | apply Kd.R_drewN | apply Kd.R_drew)); exact HO_259003.out) hb)
            have n2_ := Aside0.mk (Kd.Q_below (by (with_reducible repeat (first | apply Kd.Q_alloc | apply Kd.Q_drewN | apply Kd.Q_drew)); exact HO_270002.out) hb)
            have n3_ := Aside0.mk (Kd.Q_below (by (with_reducible repeat (first | apply Kd.Q_alloc | apply Kd.Q_drewN | apply Kd.Q_drew)); exact HO_270003.out) hb)
            have n4_ := Aside0.mk (Kd.Q_below (by (with_reducible repeat (first | apply Kd.Q_alloc | apply Kd.Q_drewN | apply Kd.Q_drew)); exact HO_282002.out) hb)
            have n5_ := Aside0.mk (Kd.Q_below (by (with_reducible repeat (first | apply Kd.Q_alloc | apply Kd.Q_drewN | apply Kd.Q_drew)); exact HO_282003.out) hb)
            have n6_ := Aside0.mk (Kd.R_below (by (with_reducible repeat (first | apply Kd.R_alloc | apply Kd.R_drewN | apply Kd.R_drew)); exact HO287.out) hb)
            have n7_ := Aside0.mk (Kd.R_below (by (with_reducible repeat (first | apply Kd.R_alloc | apply Kd.R_drewN | apply Kd.R_drew)); exact HO290.out) hb)
            have n8_ := Aside0.mk (blk_below (g := gb235) (o := .cells #[.int .i64 a0_0, .int .i64 a0_1, .slice A0_2 l0_2.length c0_2, .slice A0_3 l0_3.length c0_3, .int .i64 a0_4, .bool a0_5] 38 (0, 0)) (by (with_reducible repeat (first | refine Fix.kN ?_ _ | refine Fix.kD ?_ | refine Fix.kA ?_ _)); exact BK235.out) hb)
            have n9_ := Aside0.mk (blk_below (g := gb258) (o := .cells #[.int .i64 t247, .int .i64 t248, .slice Ao24 t249.length co24, .slice Ao25 t252.length co25, .int .i64 t255, .bool t256] 28 (0, 0)) (by (with_reducible repeat (first | refine Fix.kN ?_ _ | refine Fix.kD ?_ | refine Fix.kA ?_ _)); exact BK258.out) hb)
            have n10_ := Aside0.mk (blk_below (g := gb269) (o := .cells #[.int .i64 t259, .int .i64 t260, .slice Ao33 t261.length co33, .slice Ao34 t264.length co34, .int .i64 t267, .bool t268] 28 (0, 0)) (by (with_reducible repeat (first | refine Fix.kN ?_ _ | refine Fix.kD ?_ | refine Fix.kA ?_ _)); exact BK269.out) hb)
            have n11_ := Aside0.mk (blk_below (g := gb281) (o := .cells #[.int .i64 t270, .int .i64 t271, .slice Ao43 t272.length co43, .slice Ao44 t275.length co44, .int .i64 t278, .bool t279] 28 (0, 0)) (by (with_reducible repeat (first | refine Fix.kN ?_ _ | refine Fix.kD ?_ | refine Fix.kA ?_ _)); exact BK281.out) hb)
            have n12_ := Aside0.mk (below_step (by repeat (first | (with_reducible first | exact HB.out | apply Fix.bA | apply Fix.bN | apply Fix.b1 | refine below_set ?_ GE235.out | refine below_set ?_ GE258.out | refine below_set ?_ GE269.out | refine below_set ?_ GE281.out) | exact HB.out)) hb)
            clear HO_259002
            clear HO_259003
            clear HO_270002
            clear HO_270003
            clear HO_282002
            clear HO_282003
            clear HO287
            clear HO290
            clear BK235
            clear BK258
            clear BK269
            clear BK281
            clear HB
            have HO_259002 := n0_
            have HO_259003 := n1_
            have HO_270002 := n2_
            have HO_270003 := n3_
            have HO_282002 := n4_
            have HO_282003 := n5_
            have HO287 := n6_
            have HO290 := n7_
            have BK235 := n8_
            have BK258 := n9_
            have BK269 := n10_
            have BK281 := n11_
            have HB := n12_
            clear n0_ n1_ n2_ n3_ n4_ n5_ n6_ n7_ n8_ n9_ n10_ n11_ n12_
            (try clear hb)
            (try clear hb2)
            (try clear hk)
            (try clear hi)
            refine hK.out _ _ ⟨(blk_cell BK269.out 0).trans rfl, (blk_cell BK269.out 1).trans rfl, (blk_cell BK269.out 2).trans rfl, (blk_cell BK269.out 3).trans rfl, (blk_cell BK269.out 4).trans rfl, (blk_cell BK269.out 5).trans rfl, (blk_cell BK235.out 0).trans rfl, (blk_cell BK235.out 1).trans rfl, (blk_cell BK235.out 2).trans rfl, (blk_cell BK235.out 3).trans rfl, (blk_cell BK235.out 4).trans rfl, (blk_cell BK235.out 5).trans rfl⟩ (fun hHeld => ?_)
            clear hK K
            refine norm_ (a' := ?_) ?_ ?_
            rotate_left
            · show Act.put _ (some 48) _ = _
              simp only [Act.put, List.setIfInBounds_toArray, List.set_cons_zero, List.set_cons_succ, i64_w, i32_w]
              rfl
            refine pure_ (i := 4) (N := some 49) (v := ?_) (a' := ?_) #[true, true, true, true, true] rfl rfl (by kernel_rfl) (fun _ _ _ h => h) (Or.inl ⟨by rfl, ?_⟩) ?_ ?_
            rotate_left
            · intro w'
              go_simp
              with_reducible rfl
            rotate_left
            · simp only [Act.put, List.setIfInBounds_toArray, List.set_cons_zero, List.set_cons_succ, i64_w, i32_w]
              rfl
            refine done_ (by kernel_rfl) ?_
            have hnb75 := NB269_235.out
            have hnc75 := NB235_269.out
            have hnb76 := NB269_258.out
            have hnc76 := NB258_269.out
            have hnb77 := NB269_281.out
            have hnc77 := NB281_269.out
            obtain ⟨hcz78_0, hcz78_1, hcz78_2, hcz78_3, hcz78_4, hcz78_5, hfz78_0, hfz78_1, hfz78_2, hfz78_3, hfz78_4, hfz78_5⟩ := Fix.d6 BK269.out
            go_upto_region 14 with (first | ((with_reducible refine gate_callee (f := 20) rfl ?_); refine goesL_ (some 52) rfl rfl Try.func20 (by kernel_rfl) rfl #[.agg #[.int .i64 t259, .int .i64 t260, .slice Ao33 t261.length co33, .slice Ao34 t264.length co34, .int .i64 t267, .bool t268], .int .i64 1] rfl (by (try simp only [List.map_toArray, List.map_cons, List.map_nil]); first | done | rfl | (simp only [List.length_drop, List.length_take]; rfl)) ?_; (with_reducible refine (laws_markLine.calls kj11 t259 t260 (fun k_ => some k_ = (.slice Ao33 t261.length co33 : Value).ownBlock) (.slice Ao33 t261.length co33) t261 (fun k_ => some k_ = (.slice Ao34 t264.length co34 : Value).ownBlock) (.slice Ao34 t264.length co34) t264 t267 t268 1 t294 t295 t296 w _ ?side1 ?side2 ?side3 ?side4 ?side5 A68.out).mono ?_); (case side1 => repeat (first | (with_reducible first | exact HB.out | apply Fix.bA | apply Fix.bN | apply Fix.b1 | refine below_set ?_ GE235.out | refine below_set ?_ GE258.out | refine below_set ?_ GE269.out | refine below_set ?_ GE281.out) | exact HB.out)); (case side2 => exact Kd.Q_tight rfl HO_270002.out); (case side3 => exact fun k_ e_ => (HO_270002.out.1 k_ e_.symm).1.1.2.2.1); (case side4 => exact Kd.Q_tight rfl HO_270003.out); (case side5 => exact fun k_ e_ => (HO_270003.out.1 k_ e_.symm).1.1.2.2.1); rintro e w79 ⟨rfl, hy0, hy1, hb, hkp⟩; refine ⟨_, rfl, ?_⟩; have n0_ := Aside0.mk (Kd.Q_mono (ok' := fun k_ => some k_ ≠ (.slice Ao25 t252.length co25 : Value).ownBlock ∧ some k_ ≠ (.slice Ao33 t261.length co33 : Value).ownBlock ∧ some k_ ≠ (.slice Ao34 t264.length co34 : Value).ownBlock ∧ some k_ ≠ (.slice Ao43 t272.length co43 : Value).ownBlock ∧ some k_ ≠ (.slice Ao44 t275.length co44 : Value).ownBlock ∧ some k_ ≠ (.slice Ao72 t285.length co72 : Value).ownBlock ∧ some k_ ≠ (.slice Ao73 t288.length co73 : Value).ownBlock) (Kd.Q_keptB (HO_259002.out) hkp (fun k_ hk_ hs_ => Or.elim hs_ (fun e_ => (hk_.1.1.2.1) e_) (fun e_ => (hk_.1.1.2.2.1) e_))) (fun k_ hk_ => ⟨hk_.1.1.1.1, hk_.1.1.1.2.1, hk_.1.1.1.2.2.1, hk_.1.1.1.2.2.2.1, hk_.1.1.1.2.2.2.2, hk_.1.1.2, hk_.1.2⟩)); have n1_ := Aside0.mk (Kd.R_mono (ok' := fun k_ => some k_ ≠ (.slice Ao24 t249.length co24 : Value).ownBlock ∧ some k_ ≠ (.slice Ao33 t261.length co33 : Value).ownBlock ∧ some k_ ≠ (.slice Ao34 t264.length co34 : Value).ownBlock ∧ some k_ ≠ (.slice Ao43 t272.length co43 : Value).ownBlock ∧ some k_ ≠ (.slice Ao44 t275.length co44 : Value).ownBlock ∧ some k_ ≠ (.slice Ao72 t285.length co72 : Value).ownBlock ∧ some k_ ≠ (.slice Ao73 t288.length co73 : Value).ownBlock) (Kd.R_keptB (HO_259003.out) hkp (fun k_ hk_ hs_ => Or.elim hs_ (fun e_ => (hk_.1.1.2.1) e_) (fun e_ => (hk_.1.1.2.2.1) e_))) (fun k_ hk_ => ⟨hk_.1.1.1.1, hk_.1.1.1.2.1, hk_.1.1.1.2.2.1, hk_.1.1.1.2.2.2.1, hk_.1.1.1.2.2.2.2, hk_.1.1.2, hk_.1.2⟩)); have n2_ := Aside0.mk (Ext.Q_reok rfl hy0 (fun k_ e_ => HO_270002.out.1 k_ e_)); have n3_ := Aside0.mk (Ext.Q_reok rfl hy1 (fun k_ e_ => HO_270003.out.1 k_ e_)); have n4_ := Aside0.mk (Kd.Q_mono (ok' := fun k_ => some k_ ≠ (.slice Ao24 t249.length co24 : Value).ownBlock ∧ some k_ ≠ (.slice Ao25 t252.length co25 : Value).ownBlock ∧ some k_ ≠ (.slice Ao33 t261.length co33 : Value).ownBlock ∧ some k_ ≠ (.slice Ao34 t264.length co34 : Value).ownBlock ∧ some k_ ≠ (.slice Ao44 t275.length co44 : Value).ownBlock ∧ some k_ ≠ (.slice Ao72 t285.length co72 : Value).ownBlock ∧ some k_ ≠ (.slice Ao73 t288.length co73 : Value).ownBlock) (Kd.Q_keptB (HO_282002.out) hkp (fun k_ hk_ hs_ => Or.elim hs_ (fun e_ => (hk_.1.1.2.2.1) e_) (fun e_ => (hk_.1.1.2.2.2.1) e_))) (fun k_ hk_ => ⟨hk_.1.1.1.1, hk_.1.1.1.2.1, hk_.1.1.1.2.2.1, hk_.1.1.1.2.2.2.1, hk_.1.1.1.2.2.2.2, hk_.1.1.2, hk_.1.2⟩)); have n5_ := Aside0.mk (Kd.Q_mono (ok' := fun k_ => some k_ ≠ (.slice Ao24 t249.length co24 : Value).ownBlock ∧ some k_ ≠ (.slice Ao25 t252.length co25 : Value).ownBlock ∧ some k_ ≠ (.slice Ao33 t261.length co33 : Value).ownBlock ∧ some k_ ≠ (.slice Ao34 t264.length co34 : Value).ownBlock ∧ some k_ ≠ (.slice Ao43 t272.length co43 : Value).ownBlock ∧ some k_ ≠ (.slice Ao72 t285.length co72 : Value).ownBlock ∧ some k_ ≠ (.slice Ao73 t288.length co73 : Value).ownBlock) (Kd.Q_keptB (HO_282003.out) hkp (fun k_ hk_ hs_ => Or.elim hs_ (fun e_ => (hk_.1.1.2.2.1) e_) (fun e_ => (hk_.1.1.2.2.2.1) e_))) (fun k_ hk_ => ⟨hk_.1.1.1.1, hk_.1.1.1.2.1, hk_.1.1.1.2.2.1, hk_.1.1.1.2.2.2.1, hk_.1.1.1.2.2.2.2, hk_.1.1.2, hk_.1.2⟩)); have n6_ := Aside0.mk (blk_kept (by (with_reducible repeat (first | refine Fix.kN ?_ _ | refine Fix.kD ?_ | refine Fix.kA ?_ _)); exact BK235.out) hkp (fun hs_ => Or.elim hs_ (fun e_ => (fun e_ => (Kd.Q_ne HO_270002.out BK235.out (by decide)) e_) e_) (fun e_ => (fun e_ => (Kd.Q_ne HO_270003.out BK235.out (by decide)) e_) e_))); have n7_ := Aside0.mk (blk_kept (by (with_reducible repeat (first | refine Fix.kN ?_ _ | refine Fix.kD ?_ | refine Fix.kA ?_ _)); exact BK258.out) hkp (fun hs_ => Or.elim hs_ (fun e_ => (fun e_ => (Kd.Q_ne HO_270002.out BK258.out (by decide)) e_) e_) (fun e_ => (fun e_ => (Kd.Q_ne HO_270003.out BK258.out (by decide)) e_) e_))); have n8_ := Aside0.mk (blk_kept (by (with_reducible repeat (first | refine Fix.kN ?_ _ | refine Fix.kD ?_ | refine Fix.kA ?_ _)); exact BK269.out) hkp (fun hs_ => Or.elim hs_ (fun e_ => (fun e_ => (Kd.Q_ne HO_270002.out BK269.out (by decide)) e_) e_) (fun e_ => (fun e_ => (Kd.Q_ne HO_270003.out BK269.out (by decide)) e_) e_))); have n9_ := Aside0.mk (blk_kept (by (with_reducible repeat (first | refine Fix.kN ?_ _ | refine Fix.kD ?_ | refine Fix.kA ?_ _)); exact BK281.out) hkp (fun hs_ => Or.elim hs_ (fun e_ => (fun e_ => (Kd.Q_ne HO_270002.out BK281.out (by decide)) e_) e_) (fun e_ => (fun e_ => (Kd.Q_ne HO_270003.out BK281.out (by decide)) e_) e_))); have n10_ := Aside0.mk (Kd.R_mono (ok' := fun k_ => some k_ ≠ (.slice Ao24 t249.length co24 : Value).ownBlock ∧ some k_ ≠ (.slice Ao25 t252.length co25 : Value).ownBlock ∧ some k_ ≠ (.slice Ao33 t261.length co33 : Value).ownBlock ∧ some k_ ≠ (.slice Ao34 t264.length co34 : Value).ownBlock ∧ some k_ ≠ (.slice Ao43 t272.length co43 : Value).ownBlock ∧ some k_ ≠ (.slice Ao44 t275.length co44 : Value).ownBlock ∧ some k_ ≠ (.slice Ao73 t288.length co73 : Value).ownBlock) (Kd.R_keptB (HO287.out) hkp (fun k_ hk_ hs_ => Or.elim hs_ (fun e_ => (hk_.1.1.1.2) e_) (fun e_ => (hk_.1.1.2) e_))) (fun k_ hk_ => ⟨hk_.1.1.1.1.1.1.2, hk_.1.1.1.1.1.2, hk_.1.1.1.1.2, hk_.1.1.1.2, hk_.1.1.2, hk_.1.2, hk_.1.1.1.1.1.1.1⟩)); have n11_ := Aside0.mk (Kd.R_mono (ok' := fun k_ => some k_ ≠ (.slice Ao24 t249.length co24 : Value).ownBlock ∧ some k_ ≠ (.slice Ao25 t252.length co25 : Value).ownBlock ∧ some k_ ≠ (.slice Ao33 t261.length co33 : Value).ownBlock ∧ some k_ ≠ (.slice Ao34 t264.length co34 : Value).ownBlock ∧ some k_ ≠ (.slice Ao43 t272.length co43 : Value).ownBlock ∧ some k_ ≠ (.slice Ao44 t275.length co44 : Value).ownBlock ∧ some k_ ≠ (.slice Ao72 t285.length co72 : Value).ownBlock) (Kd.R_keptB (HO290.out) hkp (fun k_ hk_ hs_ => Or.elim hs_ (fun e_ => (hk_.1.1.1.2) e_) (fun e_ => (hk_.1.1.2) e_))) (fun k_ hk_ => ⟨hk_.1.1.1.1.1.1.2, hk_.1.1.1.1.1.2, hk_.1.1.1.1.2, hk_.1.1.1.2, hk_.1.1.2, hk_.1.2, hk_.1.1.1.1.1.1.1⟩)); have n12_ := Aside0.mk (hb); clear HO_259002; clear HO_259003; clear HO_270002; clear HO_270003; clear HO_282002; clear HO_282003; clear BK235; clear BK258; clear BK269; clear BK281; clear HO287; clear HO290; clear HB; have HO_259002 := n0_; have HO_259003 := n1_; have HO_270002 := n2_; have HO_270003 := n3_; have HO_282002 := n4_; have HO_282003 := n5_; have BK235 := n6_; have BK258 := n7_; have BK269 := n8_; have BK281 := n9_; have HO287 := n10_; have HO290 := n11_; have HB := n12_; clear n0_ n1_ n2_ n3_ n4_ n5_ n6_ n7_ n8_ n9_ n10_ n11_ n12_; (try clear hb); (try clear hkp); (try clear hy0); (try clear hy1)))
            (try simp only [Act.put, List.setIfInBounds_toArray, List.set_cons_zero, List.set_cons_succ])
            go_cut [65] (fun v65 wc => ∃ (kq : Nat) (x65_68 : Bool), v65 = .bool x65_68 ∧ Aside0 (laws_FnExactLineStep.j1 kq a1 t257 x65_68 a0_0 a0_1 l0_2 l0_3 a0_4 a0_5 t247 t248 t249 t252 t255 t256 t270 t271 t272 t275 t278 t279 = some r) ∧ Aside0 (kq ≤ kj11) ∧ Aside0 (Kd.Q (Kd.int .i64) 3 wc w.heap.size (fun k_ => some k_ ≠ ((.slice Ao25 t252.length co25) : Value).ownBlock ∧ some k_ ≠ ((.slice Ao33 t261.length co33) : Value).ownBlock ∧ some k_ ≠ ((.slice Ao34 t264.length co34) : Value).ownBlock ∧ some k_ ≠ ((.slice Ao43 t272.length co43) : Value).ownBlock ∧ some k_ ≠ ((.slice Ao44 t275.length co44) : Value).ownBlock) (.slice Ao24 t249.length co24) t249) ∧ Aside0 (Kd.R (Kd.int .i64) 3 wc w.heap.size (fun k_ => some k_ ≠ ((.slice Ao24 t249.length co24) : Value).ownBlock ∧ some k_ ≠ ((.slice Ao33 t261.length co33) : Value).ownBlock ∧ some k_ ≠ ((.slice Ao34 t264.length co34) : Value).ownBlock ∧ some k_ ≠ ((.slice Ao43 t272.length co43) : Value).ownBlock ∧ some k_ ≠ ((.slice Ao44 t275.length co44) : Value).ownBlock) (.slice Ao25 t252.length co25) t252) ∧ Aside0 (Kd.Q (Kd.int .i64) 3 wc w.heap.size (fun k_ => some k_ ≠ ((.slice Ao24 t249.length co24) : Value).ownBlock ∧ some k_ ≠ ((.slice Ao25 t252.length co25) : Value).ownBlock ∧ some k_ ≠ ((.slice Ao34 t264.length co34) : Value).ownBlock ∧ some k_ ≠ ((.slice Ao43 t272.length co43) : Value).ownBlock ∧ some k_ ≠ ((.slice Ao44 t275.length co44) : Value).ownBlock) (.slice Ao33 t261.length co33) t295) ∧ Aside0 (Kd.Q (Kd.int .i64) 3 wc w.heap.size (fun k_ => some k_ ≠ ((.slice Ao24 t249.length co24) : Value).ownBlock ∧ some k_ ≠ ((.slice Ao25 t252.length co25) : Value).ownBlock ∧ some k_ ≠ ((.slice Ao33 t261.length co33) : Value).ownBlock ∧ some k_ ≠ ((.slice Ao43 t272.length co43) : Value).ownBlock ∧ some k_ ≠ ((.slice Ao44 t275.length co44) : Value).ownBlock) (.slice Ao34 t264.length co34) t296) ∧ Aside0 (Kd.Q (Kd.int .i64) 3 wc w.heap.size (fun k_ => some k_ ≠ ((.slice Ao24 t249.length co24) : Value).ownBlock ∧ some k_ ≠ ((.slice Ao25 t252.length co25) : Value).ownBlock ∧ some k_ ≠ ((.slice Ao33 t261.length co33) : Value).ownBlock ∧ some k_ ≠ ((.slice Ao34 t264.length co34) : Value).ownBlock ∧ some k_ ≠ ((.slice Ao44 t275.length co44) : Value).ownBlock) (.slice Ao43 t272.length co43) t272) ∧ Aside0 (Kd.Q (Kd.int .i64) 3 wc w.heap.size (fun k_ => some k_ ≠ ((.slice Ao24 t249.length co24) : Value).ownBlock ∧ some k_ ≠ ((.slice Ao25 t252.length co25) : Value).ownBlock ∧ some k_ ≠ ((.slice Ao33 t261.length co33) : Value).ownBlock ∧ some k_ ≠ ((.slice Ao34 t264.length co34) : Value).ownBlock ∧ some k_ ≠ ((.slice Ao43 t272.length co43) : Value).ownBlock) (.slice Ao44 t275.length co44) t275) ∧ Aside0 (wc.heap[gb235]? = some (.cells #[.int .i64 a0_0, .int .i64 a0_1, (.slice A0_2 l0_2.length c0_2), (.slice A0_3 l0_3.length c0_3), .int .i64 a0_4, .bool a0_5] 38 (0, 0))) ∧ Aside0 (wc.heap[gb258]? = some (.cells #[.int .i64 t247, .int .i64 t248, (.slice Ao24 t249.length co24), (.slice Ao25 t252.length co25), .int .i64 t255, .bool t256] 28 (0, 0))) ∧ Aside0 (wc.heap[gb269]? = some (.cells #[.int .i64 t259, .int .i64 t260, (.slice Ao33 t261.length co33), (.slice Ao34 t264.length co34), .int .i64 t267, .bool t268] 28 (0, 0))) ∧ Aside0 (wc.heap[gb281]? = some (.cells #[.int .i64 t270, .int .i64 t271, (.slice Ao43 t272.length co43), (.slice Ao44 t275.length co44), .int .i64 t278, .bool t279] 28 (0, 0))) ∧ Aside0 (Below w.heap.size w wc))
            case first =>
              have H := HC69.out
              clear HC69
              by_cases c80 : t294 < 0
              · rw [if_pos c80] at H
                have c80b0 : decide (t294 < 0) = true := decide_eq_true c80
                clear c80
                (first | rw [c80b0] | (simp only [i64_w, i32_w]; rw [c80b0]) | skip)
                have H' := Aside0.mk H
                clear H
                go_wp2
                go_meet
                case rel => exact ⟨_, (true), (by first | rfl | (simp; done) | (simp [*]; done)), H', ⟨by have := HJ11.out; first | omega | exact Nat.le_refl _⟩, ⟨by (with_reducible repeat (first | apply Kd.Q_alloc | apply Kd.Q_drewN | apply Kd.Q_drew)); exact Kd.Q_mono HO_259002.out (fun _ hk => ⟨hk.1, ⟨hk.2.1, ⟨hk.2.2.1, ⟨hk.2.2.2.1, hk.2.2.2.2.1⟩⟩⟩⟩)⟩, ⟨by (with_reducible repeat (first | apply Kd.R_alloc | apply Kd.R_drewN | apply Kd.R_drew)); exact Kd.R_mono HO_259003.out (fun _ hk => ⟨hk.1, ⟨hk.2.1, ⟨hk.2.2.1, ⟨hk.2.2.2.1, hk.2.2.2.2.1⟩⟩⟩⟩)⟩, ⟨by (with_reducible repeat (first | apply Kd.Q_alloc | apply Kd.Q_drewN | apply Kd.Q_drew)); exact Kd.Q_mono HO_270002.out (fun _ hk => ⟨hk.1.1.1, ⟨hk.1.1.2.1, ⟨hk.1.1.2.2.1, ⟨hk.1.1.2.2.2.1, hk.1.1.2.2.2.2⟩⟩⟩⟩)⟩, ⟨by (with_reducible repeat (first | apply Kd.Q_alloc | apply Kd.Q_drewN | apply Kd.Q_drew)); exact Kd.Q_mono HO_270003.out (fun _ hk => ⟨hk.1.1.1, ⟨hk.1.1.2.1, ⟨hk.1.1.2.2.1, ⟨hk.1.1.2.2.2.1, hk.1.1.2.2.2.2⟩⟩⟩⟩)⟩, ⟨by (with_reducible repeat (first | apply Kd.Q_alloc | apply Kd.Q_drewN | apply Kd.Q_drew)); exact Kd.Q_mono HO_282002.out (fun _ hk => ⟨hk.1, ⟨hk.2.1, ⟨hk.2.2.1, ⟨hk.2.2.2.1, hk.2.2.2.2.1⟩⟩⟩⟩)⟩, ⟨by (with_reducible repeat (first | apply Kd.Q_alloc | apply Kd.Q_drewN | apply Kd.Q_drew)); exact Kd.Q_mono HO_282003.out (fun _ hk => ⟨hk.1, ⟨hk.2.1, ⟨hk.2.2.1, ⟨hk.2.2.2.1, hk.2.2.2.2.1⟩⟩⟩⟩)⟩, ⟨by (with_reducible repeat (first | refine Fix.kN ?_ _ | refine Fix.kD ?_ | refine Fix.kA ?_ _)); exact BK235.out⟩, ⟨by (with_reducible repeat (first | refine Fix.kN ?_ _ | refine Fix.kD ?_ | refine Fix.kA ?_ _)); exact BK258.out⟩, ⟨by (with_reducible repeat (first | refine Fix.kN ?_ _ | refine Fix.kD ?_ | refine Fix.kA ?_ _)); exact BK269.out⟩, ⟨by (with_reducible repeat (first | refine Fix.kN ?_ _ | refine Fix.kD ?_ | refine Fix.kA ?_ _)); exact BK281.out⟩, ⟨by repeat (first | (with_reducible first | exact HB.out | apply Fix.bA | apply Fix.bN | apply Fix.b1 | refine below_set ?_ GE235.out | refine below_set ?_ GE258.out | refine below_set ?_ GE269.out | refine below_set ?_ GE281.out) | exact HB.out)⟩⟩
              · rw [if_neg c80] at H
                have c80b0 : decide (t294 < 0) = false := decide_eq_false c80
                clear c80
                (first | rw [c80b0] | (simp only [i64_w, i32_w]; rw [c80b0]) | skip)
                replace H := Option.bind_eq_some_iff.mp H
                obtain ⟨t297, A810, H⟩ := H
                replace H : (if t297 = true then (laws_FnExactLineStep.j1 kj11 a1 t257 (t280 != t257) a0_0 a0_1 l0_2 l0_3 a0_4 a0_5 t247 t248 t249 t252 t255 t256 t270 t271 t272 t275 t278 t279) else (laws_FnExactLineStep.j1 kj11 a1 t257 true a0_0 a0_1 l0_2 l0_3 a0_4 a0_5 t247 t248 t249 t252 t255 t256 t270 t271 t272 t275 t278 t279)) = some r := H
                have A81 := Aside0.mk A810
                clear A810
                by_cases c82 : t297 = true
                · subst c82
                  have H1 : (laws_FnExactLineStep.j1 kj11 a1 t257 (t280 != t257) a0_0 a0_1 l0_2 l0_3 a0_4 a0_5 t247 t248 t249 t252 t255 t256 t270 t271 t272 t275 t278 t279) = some r := by rw [if_pos rfl] at H; exact H
                  clear H
                  have H := H1
                  clear H1
                  have H' := Aside0.mk H
                  clear H
                  have hnb83 := NB281_235.out
                  have hnc83 := NB235_281.out
                  have hnb84 := NB281_258.out
                  have hnc84 := NB258_281.out
                  have hnb85 := NB281_269.out
                  have hnc85 := NB269_281.out
                  obtain ⟨hcz86_0, hcz86_1, hcz86_2, hcz86_3, hcz86_4, hcz86_5, hfz86_0, hfz86_1, hfz86_2, hfz86_3, hfz86_4, hfz86_5⟩ := Fix.d6 BK281.out
                  have hnb87 := NB258_235.out
                  have hnc87 := NB235_258.out
                  have hnb88 := NB258_269.out
                  have hnc88 := NB269_258.out
                  obtain ⟨hcz89_0, hcz89_1, hcz89_2, hcz89_3, hcz89_4, hcz89_5, hfz89_0, hfz89_1, hfz89_2, hfz89_3, hfz89_4, hfz89_5⟩ := Fix.d6 BK258.out
                  go_wp2_with (first | (go_at_call 19; (with_reducible refine (laws_eqLine.calls kj11 t270 t271 _ _ t272 _ _ t275 t278 t279 t247 t248 _ _ t249 _ _ t252 t255 t256 true _ ?side1 ?side2 ?side3 ?side4 ?side5 ?side6 ?side7 ?side8 A81.out).mono ?_); (case side1 => repeat (first | exact (Kd.Q_reads' HO_282002.out).2.2 | (with_reducible refine Kd.C_alloc ?_ _) | (with_reducible refine Kd.C_drewN ?_ _) | (with_reducible refine Kd.C_drew ?_))); (case side2 => exact (Kd.Q_reads' HO_282002.out).2.1); (case side3 => repeat (first | exact (Kd.Q_reads' HO_282003.out).2.2 | (with_reducible refine Kd.C_alloc ?_ _) | (with_reducible refine Kd.C_drewN ?_ _) | (with_reducible refine Kd.C_drew ?_))); (case side4 => exact (Kd.Q_reads' HO_282003.out).2.1); (case side5 => repeat (first | exact (Kd.Q_reads' HO_259002.out).2.2 | (with_reducible refine Kd.C_alloc ?_ _) | (with_reducible refine Kd.C_drewN ?_ _) | (with_reducible refine Kd.C_drew ?_))); (case side6 => exact (Kd.Q_reads' HO_259002.out).2.1); (case side7 => repeat (first | exact (Kd.R_reads' HO_259003.out).2.2 | (with_reducible refine Kd.C_alloc ?_ _) | (with_reducible refine Kd.C_drewN ?_ _) | (with_reducible refine Kd.C_drew ?_))); (case side8 => exact (Kd.R_reads' HO_259003.out).2.1); rintro e w90 ⟨rfl, hb⟩; have n0_ := Aside0.mk (Kd.Q_below (by (with_reducible repeat (first | apply Kd.Q_alloc | apply Kd.Q_drewN | apply Kd.Q_drew)); exact HO_259002.out) hb); have n1_ := Aside0.mk (Kd.R_below (by (with_reducible repeat (first | apply Kd.R_alloc | apply Kd.R_drewN | apply Kd.R_drew)); exact HO_259003.out) hb); have n2_ := Aside0.mk (Kd.Q_below (by (with_reducible repeat (first | apply Kd.Q_alloc | apply Kd.Q_drewN | apply Kd.Q_drew)); exact HO_270002.out) hb); have n3_ := Aside0.mk (Kd.Q_below (by (with_reducible repeat (first | apply Kd.Q_alloc | apply Kd.Q_drewN | apply Kd.Q_drew)); exact HO_270003.out) hb); have n4_ := Aside0.mk (Kd.Q_below (by (with_reducible repeat (first | apply Kd.Q_alloc | apply Kd.Q_drewN | apply Kd.Q_drew)); exact HO_282002.out) hb); have n5_ := Aside0.mk (Kd.Q_below (by (with_reducible repeat (first | apply Kd.Q_alloc | apply Kd.Q_drewN | apply Kd.Q_drew)); exact HO_282003.out) hb); have n6_ := Aside0.mk (Kd.R_below (by (with_reducible repeat (first | apply Kd.R_alloc | apply Kd.R_drewN | apply Kd.R_drew)); exact HO287.out) hb); have n7_ := Aside0.mk (Kd.R_below (by (with_reducible repeat (first | apply Kd.R_alloc | apply Kd.R_drewN | apply Kd.R_drew)); exact HO290.out) hb); have n8_ := Aside0.mk (blk_below (g := gb235) (o := .cells #[.int .i64 a0_0, .int .i64 a0_1, .slice A0_2 l0_2.length c0_2, .slice A0_3 l0_3.length c0_3, .int .i64 a0_4, .bool a0_5] 38 (0, 0)) (by (with_reducible repeat (first | refine Fix.kN ?_ _ | refine Fix.kD ?_ | refine Fix.kA ?_ _)); exact BK235.out) hb); have n9_ := Aside0.mk (blk_below (g := gb258) (o := .cells #[.int .i64 t247, .int .i64 t248, .slice Ao24 t249.length co24, .slice Ao25 t252.length co25, .int .i64 t255, .bool t256] 28 (0, 0)) (by (with_reducible repeat (first | refine Fix.kN ?_ _ | refine Fix.kD ?_ | refine Fix.kA ?_ _)); exact BK258.out) hb); have n10_ := Aside0.mk (blk_below (g := gb269) (o := .cells #[.int .i64 t259, .int .i64 t260, .slice Ao33 t261.length co33, .slice Ao34 t264.length co34, .int .i64 t267, .bool t268] 28 (0, 0)) (by (with_reducible repeat (first | refine Fix.kN ?_ _ | refine Fix.kD ?_ | refine Fix.kA ?_ _)); exact BK269.out) hb); have n11_ := Aside0.mk (blk_below (g := gb281) (o := .cells #[.int .i64 t270, .int .i64 t271, .slice Ao43 t272.length co43, .slice Ao44 t275.length co44, .int .i64 t278, .bool t279] 28 (0, 0)) (by (with_reducible repeat (first | refine Fix.kN ?_ _ | refine Fix.kD ?_ | refine Fix.kA ?_ _)); exact BK281.out) hb); have n12_ := Aside0.mk (below_step (by repeat (first | (with_reducible first | exact HB.out | apply Fix.bA | apply Fix.bN | apply Fix.b1 | refine below_set ?_ GE235.out | refine below_set ?_ GE258.out | refine below_set ?_ GE269.out | refine below_set ?_ GE281.out) | exact HB.out)) hb); clear HO_259002; clear HO_259003; clear HO_270002; clear HO_270003; clear HO_282002; clear HO_282003; clear HO287; clear HO290; clear BK235; clear BK258; clear BK269; clear BK281; clear HB; have HO_259002 := n0_; have HO_259003 := n1_; have HO_270002 := n2_; have HO_270003 := n3_; have HO_282002 := n4_; have HO_282003 := n5_; have HO287 := n6_; have HO290 := n7_; have BK235 := n8_; have BK258 := n9_; have BK269 := n10_; have BK281 := n11_; have HB := n12_; clear n0_ n1_ n2_ n3_ n4_ n5_ n6_ n7_ n8_ n9_ n10_ n11_ n12_; (try clear hb); (try clear hb2); (try clear hk); (try clear hi)))
                  go_meet
                  case rel => exact ⟨_, ((t280 != t257)), (by first | rfl | (simp; done) | (simp [*]; done)), H', ⟨by have := HJ11.out; first | omega | exact Nat.le_refl _⟩, ⟨by (with_reducible repeat (first | apply Kd.Q_alloc | apply Kd.Q_drewN | apply Kd.Q_drew)); exact Kd.Q_mono HO_259002.out (fun _ hk => ⟨hk.1, ⟨hk.2.1, ⟨hk.2.2.1, ⟨hk.2.2.2.1, hk.2.2.2.2.1⟩⟩⟩⟩)⟩, ⟨by (with_reducible repeat (first | apply Kd.R_alloc | apply Kd.R_drewN | apply Kd.R_drew)); exact Kd.R_mono HO_259003.out (fun _ hk => ⟨hk.1, ⟨hk.2.1, ⟨hk.2.2.1, ⟨hk.2.2.2.1, hk.2.2.2.2.1⟩⟩⟩⟩)⟩, ⟨by (with_reducible repeat (first | apply Kd.Q_alloc | apply Kd.Q_drewN | apply Kd.Q_drew)); exact Kd.Q_mono HO_270002.out (fun _ hk => ⟨hk.1.1.1, ⟨hk.1.1.2.1, ⟨hk.1.1.2.2.1, ⟨hk.1.1.2.2.2.1, hk.1.1.2.2.2.2⟩⟩⟩⟩)⟩, ⟨by (with_reducible repeat (first | apply Kd.Q_alloc | apply Kd.Q_drewN | apply Kd.Q_drew)); exact Kd.Q_mono HO_270003.out (fun _ hk => ⟨hk.1.1.1, ⟨hk.1.1.2.1, ⟨hk.1.1.2.2.1, ⟨hk.1.1.2.2.2.1, hk.1.1.2.2.2.2⟩⟩⟩⟩)⟩, ⟨by (with_reducible repeat (first | apply Kd.Q_alloc | apply Kd.Q_drewN | apply Kd.Q_drew)); exact Kd.Q_mono HO_282002.out (fun _ hk => ⟨hk.1, ⟨hk.2.1, ⟨hk.2.2.1, ⟨hk.2.2.2.1, hk.2.2.2.2.1⟩⟩⟩⟩)⟩, ⟨by (with_reducible repeat (first | apply Kd.Q_alloc | apply Kd.Q_drewN | apply Kd.Q_drew)); exact Kd.Q_mono HO_282003.out (fun _ hk => ⟨hk.1, ⟨hk.2.1, ⟨hk.2.2.1, ⟨hk.2.2.2.1, hk.2.2.2.2.1⟩⟩⟩⟩)⟩, ⟨by (with_reducible repeat (first | refine Fix.kN ?_ _ | refine Fix.kD ?_ | refine Fix.kA ?_ _)); exact BK235.out⟩, ⟨by (with_reducible repeat (first | refine Fix.kN ?_ _ | refine Fix.kD ?_ | refine Fix.kA ?_ _)); exact BK258.out⟩, ⟨by (with_reducible repeat (first | refine Fix.kN ?_ _ | refine Fix.kD ?_ | refine Fix.kA ?_ _)); exact BK269.out⟩, ⟨by (with_reducible repeat (first | refine Fix.kN ?_ _ | refine Fix.kD ?_ | refine Fix.kA ?_ _)); exact BK281.out⟩, ⟨by repeat (first | (with_reducible first | exact HB.out | apply Fix.bA | apply Fix.bN | apply Fix.b1 | refine below_set ?_ GE235.out | refine below_set ?_ GE258.out | refine below_set ?_ GE269.out | refine below_set ?_ GE281.out) | exact HB.out)⟩⟩
                · replace c82 := Bool.eq_false_iff.mpr c82
                  subst c82
                  have H1 : (laws_FnExactLineStep.j1 kj11 a1 t257 true a0_0 a0_1 l0_2 l0_3 a0_4 a0_5 t247 t248 t249 t252 t255 t256 t270 t271 t272 t275 t278 t279) = some r := by rw [if_neg (show ¬ (false = true) by decide)] at H; exact H
                  clear H
                  have H := H1
                  clear H1
                  have H' := Aside0.mk H
                  clear H
                  have hnb91 := NB281_235.out
                  have hnc91 := NB235_281.out
                  have hnb92 := NB281_258.out
                  have hnc92 := NB258_281.out
                  have hnb93 := NB281_269.out
                  have hnc93 := NB269_281.out
                  obtain ⟨hcz94_0, hcz94_1, hcz94_2, hcz94_3, hcz94_4, hcz94_5, hfz94_0, hfz94_1, hfz94_2, hfz94_3, hfz94_4, hfz94_5⟩ := Fix.d6 BK281.out
                  have hnb95 := NB258_235.out
                  have hnc95 := NB235_258.out
                  have hnb96 := NB258_269.out
                  have hnc96 := NB269_258.out
                  obtain ⟨hcz97_0, hcz97_1, hcz97_2, hcz97_3, hcz97_4, hcz97_5, hfz97_0, hfz97_1, hfz97_2, hfz97_3, hfz97_4, hfz97_5⟩ := Fix.d6 BK258.out
                  go_wp2_with (first | (go_at_call 19; (with_reducible refine (laws_eqLine.calls kj11 t270 t271 _ _ t272 _ _ t275 t278 t279 t247 t248 _ _ t249 _ _ t252 t255 t256 false _ ?side1 ?side2 ?side3 ?side4 ?side5 ?side6 ?side7 ?side8 A81.out).mono ?_); (case side1 => repeat (first | exact (Kd.Q_reads' HO_282002.out).2.2 | (with_reducible refine Kd.C_alloc ?_ _) | (with_reducible refine Kd.C_drewN ?_ _) | (with_reducible refine Kd.C_drew ?_))); (case side2 => exact (Kd.Q_reads' HO_282002.out).2.1); (case side3 => repeat (first | exact (Kd.Q_reads' HO_282003.out).2.2 | (with_reducible refine Kd.C_alloc ?_ _) | (with_reducible refine Kd.C_drewN ?_ _) | (with_reducible refine Kd.C_drew ?_))); (case side4 => exact (Kd.Q_reads' HO_282003.out).2.1); (case side5 => repeat (first | exact (Kd.Q_reads' HO_259002.out).2.2 | (with_reducible refine Kd.C_alloc ?_ _) | (with_reducible refine Kd.C_drewN ?_ _) | (with_reducible refine Kd.C_drew ?_))); (case side6 => exact (Kd.Q_reads' HO_259002.out).2.1); (case side7 => repeat (first | exact (Kd.R_reads' HO_259003.out).2.2 | (with_reducible refine Kd.C_alloc ?_ _) | (with_reducible refine Kd.C_drewN ?_ _) | (with_reducible refine Kd.C_drew ?_))); (case side8 => exact (Kd.R_reads' HO_259003.out).2.1); rintro e w98 ⟨rfl, hb⟩; have n0_ := Aside0.mk (Kd.Q_below (by (with_reducible repeat (first | apply Kd.Q_alloc | apply Kd.Q_drewN | apply Kd.Q_drew)); exact HO_259002.out) hb); have n1_ := Aside0.mk (Kd.R_below (by (with_reducible repeat (first | apply Kd.R_alloc | apply Kd.R_drewN | apply Kd.R_drew)); exact HO_259003.out) hb); have n2_ := Aside0.mk (Kd.Q_below (by (with_reducible repeat (first | apply Kd.Q_alloc | apply Kd.Q_drewN | apply Kd.Q_drew)); exact HO_270002.out) hb); have n3_ := Aside0.mk (Kd.Q_below (by (with_reducible repeat (first | apply Kd.Q_alloc | apply Kd.Q_drewN | apply Kd.Q_drew)); exact HO_270003.out) hb); have n4_ := Aside0.mk (Kd.Q_below (by (with_reducible repeat (first | apply Kd.Q_alloc | apply Kd.Q_drewN | apply Kd.Q_drew)); exact HO_282002.out) hb); have n5_ := Aside0.mk (Kd.Q_below (by (with_reducible repeat (first | apply Kd.Q_alloc | apply Kd.Q_drewN | apply Kd.Q_drew)); exact HO_282003.out) hb); have n6_ := Aside0.mk (Kd.R_below (by (with_reducible repeat (first | apply Kd.R_alloc | apply Kd.R_drewN | apply Kd.R_drew)); exact HO287.out) hb); have n7_ := Aside0.mk (Kd.R_below (by (with_reducible repeat (first | apply Kd.R_alloc | apply Kd.R_drewN | apply Kd.R_drew)); exact HO290.out) hb); have n8_ := Aside0.mk (blk_below (g := gb235) (o := .cells #[.int .i64 a0_0, .int .i64 a0_1, .slice A0_2 l0_2.length c0_2, .slice A0_3 l0_3.length c0_3, .int .i64 a0_4, .bool a0_5] 38 (0, 0)) (by (with_reducible repeat (first | refine Fix.kN ?_ _ | refine Fix.kD ?_ | refine Fix.kA ?_ _)); exact BK235.out) hb); have n9_ := Aside0.mk (blk_below (g := gb258) (o := .cells #[.int .i64 t247, .int .i64 t248, .slice Ao24 t249.length co24, .slice Ao25 t252.length co25, .int .i64 t255, .bool t256] 28 (0, 0)) (by (with_reducible repeat (first | refine Fix.kN ?_ _ | refine Fix.kD ?_ | refine Fix.kA ?_ _)); exact BK258.out) hb); have n10_ := Aside0.mk (blk_below (g := gb269) (o := .cells #[.int .i64 t259, .int .i64 t260, .slice Ao33 t261.length co33, .slice Ao34 t264.length co34, .int .i64 t267, .bool t268] 28 (0, 0)) (by (with_reducible repeat (first | refine Fix.kN ?_ _ | refine Fix.kD ?_ | refine Fix.kA ?_ _)); exact BK269.out) hb); have n11_ := Aside0.mk (blk_below (g := gb281) (o := .cells #[.int .i64 t270, .int .i64 t271, .slice Ao43 t272.length co43, .slice Ao44 t275.length co44, .int .i64 t278, .bool t279] 28 (0, 0)) (by (with_reducible repeat (first | refine Fix.kN ?_ _ | refine Fix.kD ?_ | refine Fix.kA ?_ _)); exact BK281.out) hb); have n12_ := Aside0.mk (below_step (by repeat (first | (with_reducible first | exact HB.out | apply Fix.bA | apply Fix.bN | apply Fix.b1 | refine below_set ?_ GE235.out | refine below_set ?_ GE258.out | refine below_set ?_ GE269.out | refine below_set ?_ GE281.out) | exact HB.out)) hb); clear HO_259002; clear HO_259003; clear HO_270002; clear HO_270003; clear HO_282002; clear HO_282003; clear HO287; clear HO290; clear BK235; clear BK258; clear BK269; clear BK281; clear HB; have HO_259002 := n0_; have HO_259003 := n1_; have HO_270002 := n2_; have HO_270003 := n3_; have HO_282002 := n4_; have HO_282003 := n5_; have HO287 := n6_; have HO290 := n7_; have BK235 := n8_; have BK258 := n9_; have BK269 := n10_; have BK281 := n11_; have HB := n12_; clear n0_ n1_ n2_ n3_ n4_ n5_ n6_ n7_ n8_ n9_ n10_ n11_ n12_; (try clear hb); (try clear hb2); (try clear hk); (try clear hi)))
                  go_meet
                  case rel => exact ⟨_, (true), (by first | rfl | (simp; done) | (simp [*]; done)), H', ⟨by have := HJ11.out; first | omega | exact Nat.le_refl _⟩, ⟨by (with_reducible repeat (first | apply Kd.Q_alloc | apply Kd.Q_drewN | apply Kd.Q_drew)); exact Kd.Q_mono HO_259002.out (fun _ hk => ⟨hk.1, ⟨hk.2.1, ⟨hk.2.2.1, ⟨hk.2.2.2.1, hk.2.2.2.2.1⟩⟩⟩⟩)⟩, ⟨by (with_reducible repeat (first | apply Kd.R_alloc | apply Kd.R_drewN | apply Kd.R_drew)); exact Kd.R_mono HO_259003.out (fun _ hk => ⟨hk.1, ⟨hk.2.1, ⟨hk.2.2.1, ⟨hk.2.2.2.1, hk.2.2.2.2.1⟩⟩⟩⟩)⟩, ⟨by (with_reducible repeat (first | apply Kd.Q_alloc | apply Kd.Q_drewN | apply Kd.Q_drew)); exact Kd.Q_mono HO_270002.out (fun _ hk => ⟨hk.1.1.1, ⟨hk.1.1.2.1, ⟨hk.1.1.2.2.1, ⟨hk.1.1.2.2.2.1, hk.1.1.2.2.2.2⟩⟩⟩⟩)⟩, ⟨by (with_reducible repeat (first | apply Kd.Q_alloc | apply Kd.Q_drewN | apply Kd.Q_drew)); exact Kd.Q_mono HO_270003.out (fun _ hk => ⟨hk.1.1.1, ⟨hk.1.1.2.1, ⟨hk.1.1.2.2.1, ⟨hk.1.1.2.2.2.1, hk.1.1.2.2.2.2⟩⟩⟩⟩)⟩, ⟨by (with_reducible repeat (first | apply Kd.Q_alloc | apply Kd.Q_drewN | apply Kd.Q_drew)); exact Kd.Q_mono HO_282002.out (fun _ hk => ⟨hk.1, ⟨hk.2.1, ⟨hk.2.2.1, ⟨hk.2.2.2.1, hk.2.2.2.2.1⟩⟩⟩⟩)⟩, ⟨by (with_reducible repeat (first | apply Kd.Q_alloc | apply Kd.Q_drewN | apply Kd.Q_drew)); exact Kd.Q_mono HO_282003.out (fun _ hk => ⟨hk.1, ⟨hk.2.1, ⟨hk.2.2.1, ⟨hk.2.2.2.1, hk.2.2.2.2.1⟩⟩⟩⟩)⟩, ⟨by (with_reducible repeat (first | refine Fix.kN ?_ _ | refine Fix.kD ?_ | refine Fix.kA ?_ _)); exact BK235.out⟩, ⟨by (with_reducible repeat (first | refine Fix.kN ?_ _ | refine Fix.kD ?_ | refine Fix.kA ?_ _)); exact BK258.out⟩, ⟨by (with_reducible repeat (first | refine Fix.kN ?_ _ | refine Fix.kD ?_ | refine Fix.kA ?_ _)); exact BK269.out⟩, ⟨by (with_reducible repeat (first | refine Fix.kN ?_ _ | refine Fix.kD ?_ | refine Fix.kA ?_ _)); exact BK281.out⟩, ⟨by repeat (first | (with_reducible first | exact HB.out | apply Fix.bA | apply Fix.bN | apply Fix.b1 | refine below_set ?_ GE235.out | refine below_set ?_ GE258.out | refine below_set ?_ GE269.out | refine below_set ?_ GE281.out) | exact HB.out)⟩⟩
            case rest =>
              clear HC69
              try clear c1
              try clear c2
              try clear p2
              try clear c3
              try clear c4
              try clear c4b0
              try clear c5
              try clear c6
              try clear c7
              try clear c8
              try clear c9
              try clear c19
              try clear c20
              try clear c22
              try clear c24
              try clear c26
              try clear c28
              try clear c30
              try clear c31
              try clear c39
              try clear c40
              try clear c41
              try clear c47
              try clear c48
              try clear c49
              try clear c50
              try clear c52
              try clear c53
              try clear c56
              try clear c57
              try clear c58
              try clear c60
              try clear c61
              try clear c64
              try clear c67
              try clear c75
              try clear c76
              try clear c77
              try clear c80
              try clear c80b0
              try clear c82
              try clear c83
              try clear c84
              try clear c85
              try clear c87
              try clear c88
              try clear c91
              try clear c92
              try clear c93
              try clear c95
              try clear c96
              try clear hcz14_0
              try clear hcz14_1
              try clear hcz14_2
              try clear hcz14_3
              try clear hcz14_4
              try clear hcz14_5
              try clear hcz16_0
              try clear hcz16_1
              try clear hcz16_2
              try clear hcz16_3
              try clear hcz16_4
              try clear hcz16_5
              try clear hcz23_0
              try clear hcz23_1
              try clear hcz23_2
              try clear hcz23_3
              try clear hcz23_4
              try clear hcz23_5
              try clear hcz27_0
              try clear hcz27_1
              try clear hcz27_2
              try clear hcz27_3
              try clear hcz27_4
              try clear hcz27_5
              try clear hcz32_0
              try clear hcz32_1
              try clear hcz32_2
              try clear hcz32_3
              try clear hcz32_4
              try clear hcz32_5
              try clear hcz36_0
              try clear hcz36_1
              try clear hcz36_2
              try clear hcz36_3
              try clear hcz36_4
              try clear hcz36_5
              try clear hcz42_0
              try clear hcz42_1
              try clear hcz42_2
              try clear hcz42_3
              try clear hcz42_4
              try clear hcz42_5
              try clear hcz51_0
              try clear hcz51_1
              try clear hcz51_2
              try clear hcz51_3
              try clear hcz51_4
              try clear hcz51_5
              try clear hcz54_0
              try clear hcz54_1
              try clear hcz54_2
              try clear hcz54_3
              try clear hcz54_4
              try clear hcz54_5
              try clear hcz59_0
              try clear hcz59_1
              try clear hcz59_2
              try clear hcz59_3
              try clear hcz59_4
              try clear hcz59_5
              try clear hcz62_0
              try clear hcz62_1
              try clear hcz62_2
              try clear hcz62_3
              try clear hcz62_4
              try clear hcz62_5
              try clear hcz6_0
              try clear hcz6_1
              try clear hcz6_2
              try clear hcz6_3
              try clear hcz6_4
              try clear hcz6_5
              try clear hcz78_0
              try clear hcz78_1
              try clear hcz78_2
              try clear hcz78_3
              try clear hcz78_4
              try clear hcz78_5
              try clear hcz86_0
              try clear hcz86_1
              try clear hcz86_2
              try clear hcz86_3
              try clear hcz86_4
              try clear hcz86_5
              try clear hcz89_0
              try clear hcz89_1
              try clear hcz89_2
              try clear hcz89_3
              try clear hcz89_4
              try clear hcz89_5
              try clear hcz94_0
              try clear hcz94_1
              try clear hcz94_2
              try clear hcz94_3
              try clear hcz94_4
              try clear hcz94_5
              try clear hcz97_0
              try clear hcz97_1
              try clear hcz97_2
              try clear hcz97_3
              try clear hcz97_4
              try clear hcz97_5
              try clear hfz14_0
              try clear hfz14_1
              try clear hfz14_2
              try clear hfz14_3
              try clear hfz14_4
              try clear hfz14_5
              try clear hfz16_0
              try clear hfz16_1
              try clear hfz16_2
              try clear hfz16_3
              try clear hfz16_4
              try clear hfz16_5
              try clear hfz23_0
              try clear hfz23_1
              try clear hfz23_2
              try clear hfz23_3
              try clear hfz23_4
              try clear hfz23_5
              try clear hfz27_0
              try clear hfz27_1
              try clear hfz27_2
              try clear hfz27_3
              try clear hfz27_4
              try clear hfz27_5
              try clear hfz32_0
              try clear hfz32_1
              try clear hfz32_2
              try clear hfz32_3
              try clear hfz32_4
              try clear hfz32_5
              try clear hfz36_0
              try clear hfz36_1
              try clear hfz36_2
              try clear hfz36_3
              try clear hfz36_4
              try clear hfz36_5
              try clear hfz42_0
              try clear hfz42_1
              try clear hfz42_2
              try clear hfz42_3
              try clear hfz42_4
              try clear hfz42_5
              try clear hfz51_0
              try clear hfz51_1
              try clear hfz51_2
              try clear hfz51_3
              try clear hfz51_4
              try clear hfz51_5
              try clear hfz54_0
              try clear hfz54_1
              try clear hfz54_2
              try clear hfz54_3
              try clear hfz54_4
              try clear hfz54_5
              try clear hfz59_0
              try clear hfz59_1
              try clear hfz59_2
              try clear hfz59_3
              try clear hfz59_4
              try clear hfz59_5
              try clear hfz62_0
              try clear hfz62_1
              try clear hfz62_2
              try clear hfz62_3
              try clear hfz62_4
              try clear hfz62_5
              try clear hfz6_0
              try clear hfz6_1
              try clear hfz6_2
              try clear hfz6_3
              try clear hfz6_4
              try clear hfz6_5
              try clear hfz78_0
              try clear hfz78_1
              try clear hfz78_2
              try clear hfz78_3
              try clear hfz78_4
              try clear hfz78_5
              try clear hfz86_0
              try clear hfz86_1
              try clear hfz86_2
              try clear hfz86_3
              try clear hfz86_4
              try clear hfz86_5
              try clear hfz89_0
              try clear hfz89_1
              try clear hfz89_2
              try clear hfz89_3
              try clear hfz89_4
              try clear hfz89_5
              try clear hfz94_0
              try clear hfz94_1
              try clear hfz94_2
              try clear hfz94_3
              try clear hfz94_4
              try clear hfz94_5
              try clear hfz97_0
              try clear hfz97_1
              try clear hfz97_2
              try clear hfz97_3
              try clear hfz97_4
              try clear hfz97_5
              try clear p2
              obtain ⟨kq, x65_68, rfl, HA, HJ68, HO_259002, HO_259003, HO_270002, HO_270003, HO_282002, HO_282003, BK235, BK258, BK269, BK281, HB⟩ := hcut
              have hl270002_68 := (Kd.Q_reads' HO_270002.out).1
              rw [hl270002_68] at HO_270002
              (try simp only [hl270002_68])
              (try simp only [hl270002_68] at BK235)
              (try simp only [hl270002_68] at BK258)
              (try simp only [hl270002_68] at BK269)
              (try simp only [hl270002_68] at BK281)
              (try simp only [hl270002_68] at HO_259002)
              (try simp only [hl270002_68] at HO_259003)
              (try simp only [hl270002_68] at HO_270003)
              (try simp only [hl270002_68] at HO_282002)
              (try simp only [hl270002_68] at HO_282003)
              have hl270003_68 := (Kd.Q_reads' HO_270003.out).1
              rw [hl270003_68] at HO_270003
              (try simp only [hl270003_68])
              (try simp only [hl270003_68] at BK235)
              (try simp only [hl270003_68] at BK258)
              (try simp only [hl270003_68] at BK269)
              (try simp only [hl270003_68] at BK281)
              (try simp only [hl270003_68] at HO_259002)
              (try simp only [hl270003_68] at HO_259003)
              (try simp only [hl270003_68] at HO_270002)
              (try simp only [hl270003_68] at HO_282002)
              (try simp only [hl270003_68] at HO_282003)
              cases kq with
              | zero => exact absurd HA.out (by simp [laws_FnExactLineStep.j1])
              | succ kj68 =>
                have H := HA.out
                clear HA
                simp only [laws_FnExactLineStep.j1] at H
                by_cases c99 : x65_68 = true
                · subst c99
                  have H1 : (some false) = some r := by rw [if_pos rfl] at H; exact H
                  clear H
                  have H := H1
                  clear H1
                  exact absurd (hT.out ▸ H) (by simp)
                · replace c99 := Bool.eq_false_iff.mpr c99
                  subst c99
                  have H1 : ((laws_markLine.f kj68 t270 t271 t272 t275 t278 t279 1).bind fun bt298 => ((laws_heldLine.f kj68 t270 t271 bt298.2.1 bt298.2.2 t278 t279 1).bind fun t301 => (if t301 < 0 then (some false) else (if t301 = bt298.1 then ((laws_toLine.f kj68 a0_0 a0_1 l0_2 l0_3 a0_4 a0_5).bind fun bt302 => ((impl_LineStep.f kj68 bt302.1 bt302.2.1 bt302.2.2.1 bt302.2.2.2.1 bt302.2.2.2.2.1 bt302.2.2.2.2.2 a1).bind fun bt312 => ((laws_eqLine.f kj68 bt312.1 bt312.2.1 bt312.2.2.1 bt312.2.2.2.1 bt312.2.2.2.2.1 bt312.2.2.2.2.2.1 t247 t248 t249 t252 t255 t256).bind fun t324 => (if t324 = true then (laws_FnExactLineStep.j2 kj68 bt298.1 (bt312.2.2.2.2.2.2 != t257) t270 t271 bt298.2.1 bt298.2.2 t278 t279) else (laws_FnExactLineStep.j2 kj68 bt298.1 true t270 t271 bt298.2.1 bt298.2.2 t278 t279))))) else (some false))))) = some r := by rw [if_neg (show ¬ (false = true) by decide)] at H; exact H
                  clear H
                  have H := H1
                  clear H1
                  replace H := Option.bind_eq_some_iff.mp H
                  obtain ⟨⟨t298, t299, t300⟩, A1000, H⟩ := H
                  replace H : ((laws_heldLine.f kj68 t270 t271 t299 t300 t278 t279 1).bind fun t301 => (if t301 < 0 then (some false) else (if t301 = t298 then ((laws_toLine.f kj68 a0_0 a0_1 l0_2 l0_3 a0_4 a0_5).bind fun bt302 => ((impl_LineStep.f kj68 bt302.1 bt302.2.1 bt302.2.2.1 bt302.2.2.2.1 bt302.2.2.2.2.1 bt302.2.2.2.2.2 a1).bind fun bt312 => ((laws_eqLine.f kj68 bt312.1 bt312.2.1 bt312.2.2.1 bt312.2.2.2.1 bt312.2.2.2.2.1 bt312.2.2.2.2.2.1 t247 t248 t249 t252 t255 t256).bind fun t324 => (if t324 = true then (laws_FnExactLineStep.j2 kj68 t298 (bt312.2.2.2.2.2.2 != t257) t270 t271 t299 t300 t278 t279) else (laws_FnExactLineStep.j2 kj68 t298 true t270 t271 t299 t300 t278 t279))))) else (some false)))) = some r := H
                  have A100 := Aside0.mk A1000
                  clear A1000
                  replace H := Option.bind_eq_some_iff.mp H
                  obtain ⟨t301, A1010, H⟩ := H
                  replace H : (if t301 < 0 then (some false) else (if t301 = t298 then ((laws_toLine.f kj68 a0_0 a0_1 l0_2 l0_3 a0_4 a0_5).bind fun bt302 => ((impl_LineStep.f kj68 bt302.1 bt302.2.1 bt302.2.2.1 bt302.2.2.2.1 bt302.2.2.2.2.1 bt302.2.2.2.2.2 a1).bind fun bt312 => ((laws_eqLine.f kj68 bt312.1 bt312.2.1 bt312.2.2.1 bt312.2.2.2.1 bt312.2.2.2.2.1 bt312.2.2.2.2.2.1 t247 t248 t249 t252 t255 t256).bind fun t324 => (if t324 = true then (laws_FnExactLineStep.j2 kj68 t298 (bt312.2.2.2.2.2.2 != t257) t270 t271 t299 t300 t278 t279) else (laws_FnExactLineStep.j2 kj68 t298 true t270 t271 t299 t300 t278 t279))))) else (some false))) = some r := H
                  have A101 := Aside0.mk A1010
                  clear A1010
                  by_cases c102 : t301 < 0
                  · rw [if_pos c102] at H
                    have c102b0 : decide (t301 < 0) = true := decide_eq_true c102
                    clear c102
                    exact absurd (hT.out ▸ H) (by simp)
                  · rw [if_neg c102] at H
                    have c102b0 : decide (t301 < 0) = false := decide_eq_false c102
                    clear c102
                    by_cases c103 : t301 = t298
                    · rw [if_pos c103] at H
                      have c103b0 : (t301 == t298) = true := beq_iff_eq.mpr c103
                      have c103b1 : (t301 != t298) = false := bne_eq_false_iff_eq.mpr c103
                      clear c103
                      replace H := Option.bind_eq_some_iff.mp H
                      obtain ⟨⟨t302, t303, t304, t307, t310, t311⟩, A1040, H⟩ := H
                      replace H : ((impl_LineStep.f kj68 t302 t303 t304 t307 t310 t311 a1).bind fun bt312 => ((laws_eqLine.f kj68 bt312.1 bt312.2.1 bt312.2.2.1 bt312.2.2.2.1 bt312.2.2.2.2.1 bt312.2.2.2.2.2.1 t247 t248 t249 t252 t255 t256).bind fun t324 => (if t324 = true then (laws_FnExactLineStep.j2 kj68 t298 (bt312.2.2.2.2.2.2 != t257) t270 t271 t299 t300 t278 t279) else (laws_FnExactLineStep.j2 kj68 t298 true t270 t271 t299 t300 t278 t279)))) = some r := H
                      have A104 := Aside0.mk A1040
                      clear A1040
                      replace H := Option.bind_eq_some_iff.mp H
                      obtain ⟨⟨t312, t313, t314, t317, t320, t321, t322⟩, A1050, H⟩ := H
                      replace H : ((laws_eqLine.f kj68 t312 t313 t314 t317 t320 t321 t247 t248 t249 t252 t255 t256).bind fun t324 => (if t324 = true then (laws_FnExactLineStep.j2 kj68 t298 (t322 != t257) t270 t271 t299 t300 t278 t279) else (laws_FnExactLineStep.j2 kj68 t298 true t270 t271 t299 t300 t278 t279))) = some r := H
                      have A105 := Aside0.mk A1050
                      clear A1050
                      have HC106 := Aside0.mk H
                      clear H
                      have hnb107 := NB281_235.out
                      have hnc107 := NB235_281.out
                      have hnb108 := NB281_258.out
                      have hnc108 := NB258_281.out
                      have hnb109 := NB281_269.out
                      have hnc109 := NB269_281.out
                      obtain ⟨hcz110_0, hcz110_1, hcz110_2, hcz110_3, hcz110_4, hcz110_5, hfz110_0, hfz110_1, hfz110_2, hfz110_3, hfz110_4, hfz110_5⟩ := Fix.d6 BK281.out
                      go_upto_region 25 with (first | ((with_reducible refine gate_callee (f := 20) rfl ?_); refine goesL_ (some 68) rfl rfl Try.func20 (by kernel_rfl) rfl #[.agg #[.int .i64 t270, .int .i64 t271, .slice Ao43 t272.length co43, .slice Ao44 t275.length co44, .int .i64 t278, .bool t279], .int .i64 1] rfl (by (try simp only [List.map_toArray, List.map_cons, List.map_nil]); first | done | rfl | (simp only [List.length_drop, List.length_take]; rfl)) ?_; (with_reducible refine (laws_markLine.calls kj68 t270 t271 (fun k_ => some k_ = (.slice Ao43 t272.length co43 : Value).ownBlock) (.slice Ao43 t272.length co43) t272 (fun k_ => some k_ = (.slice Ao44 t275.length co44 : Value).ownBlock) (.slice Ao44 t275.length co44) t275 t278 t279 1 t298 t299 t300 w _ ?side1 ?side2 ?side3 ?side4 ?side5 A100.out).mono ?_); (case side1 => repeat (first | (with_reducible first | exact HB.out | apply Fix.bA | apply Fix.bN | apply Fix.b1 | refine below_set ?_ GE235.out | refine below_set ?_ GE258.out | refine below_set ?_ GE269.out | refine below_set ?_ GE281.out) | exact HB.out)); (case side2 => exact Kd.Q_tight rfl HO_282002.out); (case side3 => exact fun k_ e_ => (HO_282002.out.1 k_ e_.symm).2.2.2.2); (case side4 => exact Kd.Q_tight rfl HO_282003.out); (case side5 => exact fun k_ e_ => (HO_282003.out.1 k_ e_.symm).2.2.2.2); rintro e w111 ⟨rfl, hy0, hy1, hb, hkp⟩; refine ⟨_, rfl, ?_⟩; have n0_ := Aside0.mk (Kd.Q_mono (ok' := fun k_ => some k_ ≠ (.slice Ao25 t252.length co25 : Value).ownBlock ∧ some k_ ≠ (.slice Ao33 t295.length co33 : Value).ownBlock ∧ some k_ ≠ (.slice Ao34 t296.length co34 : Value).ownBlock ∧ some k_ ≠ (.slice Ao43 t272.length co43 : Value).ownBlock ∧ some k_ ≠ (.slice Ao44 t275.length co44 : Value).ownBlock) (Kd.Q_keptB (HO_259002.out) hkp (fun k_ hk_ hs_ => Or.elim hs_ (fun e_ => (hk_.2.2.2.1) e_) (fun e_ => (hk_.2.2.2.2) e_))) (fun k_ hk_ => ⟨hk_.1.1, hk_.1.2.1, hk_.1.2.2.1, hk_.1.2.2.2.1, hk_.1.2.2.2.2⟩)); have n1_ := Aside0.mk (Kd.R_mono (ok' := fun k_ => some k_ ≠ (.slice Ao24 t249.length co24 : Value).ownBlock ∧ some k_ ≠ (.slice Ao33 t295.length co33 : Value).ownBlock ∧ some k_ ≠ (.slice Ao34 t296.length co34 : Value).ownBlock ∧ some k_ ≠ (.slice Ao43 t272.length co43 : Value).ownBlock ∧ some k_ ≠ (.slice Ao44 t275.length co44 : Value).ownBlock) (Kd.R_keptB (HO_259003.out) hkp (fun k_ hk_ hs_ => Or.elim hs_ (fun e_ => (hk_.2.2.2.1) e_) (fun e_ => (hk_.2.2.2.2) e_))) (fun k_ hk_ => ⟨hk_.1.1, hk_.1.2.1, hk_.1.2.2.1, hk_.1.2.2.2.1, hk_.1.2.2.2.2⟩)); have n2_ := Aside0.mk (Kd.Q_mono (ok' := fun k_ => some k_ ≠ (.slice Ao24 t249.length co24 : Value).ownBlock ∧ some k_ ≠ (.slice Ao25 t252.length co25 : Value).ownBlock ∧ some k_ ≠ (.slice Ao34 t296.length co34 : Value).ownBlock ∧ some k_ ≠ (.slice Ao43 t272.length co43 : Value).ownBlock ∧ some k_ ≠ (.slice Ao44 t275.length co44 : Value).ownBlock) (Kd.Q_keptB (HO_270002.out) hkp (fun k_ hk_ hs_ => Or.elim hs_ (fun e_ => (hk_.2.2.2.1) e_) (fun e_ => (hk_.2.2.2.2) e_))) (fun k_ hk_ => ⟨hk_.1.1, hk_.1.2.1, hk_.1.2.2.1, hk_.1.2.2.2.1, hk_.1.2.2.2.2⟩)); have n3_ := Aside0.mk (Kd.Q_mono (ok' := fun k_ => some k_ ≠ (.slice Ao24 t249.length co24 : Value).ownBlock ∧ some k_ ≠ (.slice Ao25 t252.length co25 : Value).ownBlock ∧ some k_ ≠ (.slice Ao33 t295.length co33 : Value).ownBlock ∧ some k_ ≠ (.slice Ao43 t272.length co43 : Value).ownBlock ∧ some k_ ≠ (.slice Ao44 t275.length co44 : Value).ownBlock) (Kd.Q_keptB (HO_270003.out) hkp (fun k_ hk_ hs_ => Or.elim hs_ (fun e_ => (hk_.2.2.2.1) e_) (fun e_ => (hk_.2.2.2.2) e_))) (fun k_ hk_ => ⟨hk_.1.1, hk_.1.2.1, hk_.1.2.2.1, hk_.1.2.2.2.1, hk_.1.2.2.2.2⟩)); have n4_ := Aside0.mk (Ext.Q_reok rfl hy0 (fun k_ e_ => HO_282002.out.1 k_ e_)); have n5_ := Aside0.mk (Ext.Q_reok rfl hy1 (fun k_ e_ => HO_282003.out.1 k_ e_)); have n6_ := Aside0.mk (blk_kept (by (with_reducible repeat (first | refine Fix.kN ?_ _ | refine Fix.kD ?_ | refine Fix.kA ?_ _)); exact BK235.out) hkp (fun hs_ => Or.elim hs_ (fun e_ => (fun e_ => (Kd.Q_ne HO_282002.out BK235.out (by decide)) e_) e_) (fun e_ => (fun e_ => (Kd.Q_ne HO_282003.out BK235.out (by decide)) e_) e_))); have n7_ := Aside0.mk (blk_kept (by (with_reducible repeat (first | refine Fix.kN ?_ _ | refine Fix.kD ?_ | refine Fix.kA ?_ _)); exact BK258.out) hkp (fun hs_ => Or.elim hs_ (fun e_ => (fun e_ => (Kd.Q_ne HO_282002.out BK258.out (by decide)) e_) e_) (fun e_ => (fun e_ => (Kd.Q_ne HO_282003.out BK258.out (by decide)) e_) e_))); have n8_ := Aside0.mk (blk_kept (by (with_reducible repeat (first | refine Fix.kN ?_ _ | refine Fix.kD ?_ | refine Fix.kA ?_ _)); exact BK269.out) hkp (fun hs_ => Or.elim hs_ (fun e_ => (fun e_ => (Kd.Q_ne HO_282002.out BK269.out (by decide)) e_) e_) (fun e_ => (fun e_ => (Kd.Q_ne HO_282003.out BK269.out (by decide)) e_) e_))); have n9_ := Aside0.mk (blk_kept (by (with_reducible repeat (first | refine Fix.kN ?_ _ | refine Fix.kD ?_ | refine Fix.kA ?_ _)); exact BK281.out) hkp (fun hs_ => Or.elim hs_ (fun e_ => (fun e_ => (Kd.Q_ne HO_282002.out BK281.out (by decide)) e_) e_) (fun e_ => (fun e_ => (Kd.Q_ne HO_282003.out BK281.out (by decide)) e_) e_))); have n10_ := Aside0.mk (hb); clear HO_259002; clear HO_259003; clear HO_270002; clear HO_270003; clear HO_282002; clear HO_282003; clear BK235; clear BK258; clear BK269; clear BK281; clear HB; have HO_259002 := n0_; have HO_259003 := n1_; have HO_270002 := n2_; have HO_270003 := n3_; have HO_282002 := n4_; have HO_282003 := n5_; have BK235 := n6_; have BK258 := n7_; have BK269 := n8_; have BK281 := n9_; have HB := n10_; clear n0_ n1_ n2_ n3_ n4_ n5_ n6_ n7_ n8_ n9_ n10_; (try clear hb); (try clear hkp); (try clear hy0); (try clear hy1); obtain ⟨hcz112_0, hcz112_1, hcz112_2, hcz112_3, hcz112_4, hcz112_5, hfz112_0, hfz112_1, hfz112_2, hfz112_3, hfz112_4, hfz112_5⟩ := Fix.d6 BK281.out) | ((with_reducible refine gate_callee (f := 21) rfl ?_); refine goesL_ (some 71) rfl rfl Try.func21 (by kernel_rfl) rfl #[.agg #[.int .i64 t270, .int .i64 t271, .slice Ao43 t299.length co43, .slice Ao44 t300.length co44, .int .i64 t278, .bool t279], .int .i64 1] rfl (by (try simp only [List.map_toArray, List.map_cons, List.map_nil]); first | done | (rw [show t299.length = t272.length from (Kd.Q_reads' HO_282002.out).1.symm, show t300.length = t275.length from (Kd.Q_reads' HO_282003.out).1.symm] <;> rfl) | rfl | (simp only [List.length_drop, List.length_take]; rfl)) ?_; (with_reducible refine (laws_heldLine.calls kj68 t270 t271 _ _ t299 _ _ t300 t278 t279 1 t301 _ ?side1 ?side2 ?side3 ?side4 A101.out).mono ?_); (case side1 => repeat (first | exact (Kd.Q_reads' HO_282002.out).2.2 | (with_reducible refine Kd.C_alloc ?_ _) | (with_reducible refine Kd.C_drewN ?_ _) | (with_reducible refine Kd.C_drew ?_))); (case side2 => rw [show t299.length = t272.length from (Kd.Q_reads' HO_282002.out).1.symm]; exact (Kd.Q_reads' HO_282002.out).2.1); (case side3 => repeat (first | exact (Kd.Q_reads' HO_282003.out).2.2 | (with_reducible refine Kd.C_alloc ?_ _) | (with_reducible refine Kd.C_drewN ?_ _) | (with_reducible refine Kd.C_drew ?_))); (case side4 => rw [show t300.length = t275.length from (Kd.Q_reads' HO_282003.out).1.symm]; exact (Kd.Q_reads' HO_282003.out).2.1); rintro e w113 ⟨rfl, hb⟩; refine ⟨_, rfl, ?_⟩; have n0_ := Aside0.mk (Kd.Q_below (by (with_reducible repeat (first | apply Kd.Q_alloc | apply Kd.Q_drewN | apply Kd.Q_drew)); exact HO_259002.out) hb); have n1_ := Aside0.mk (Kd.R_below (by (with_reducible repeat (first | apply Kd.R_alloc | apply Kd.R_drewN | apply Kd.R_drew)); exact HO_259003.out) hb); have n2_ := Aside0.mk (Kd.Q_below (by (with_reducible repeat (first | apply Kd.Q_alloc | apply Kd.Q_drewN | apply Kd.Q_drew)); exact HO_270002.out) hb); have n3_ := Aside0.mk (Kd.Q_below (by (with_reducible repeat (first | apply Kd.Q_alloc | apply Kd.Q_drewN | apply Kd.Q_drew)); exact HO_270003.out) hb); have n4_ := Aside0.mk (Kd.Q_below (by (with_reducible repeat (first | apply Kd.Q_alloc | apply Kd.Q_drewN | apply Kd.Q_drew)); exact HO_282002.out) hb); have n5_ := Aside0.mk (Kd.Q_below (by (with_reducible repeat (first | apply Kd.Q_alloc | apply Kd.Q_drewN | apply Kd.Q_drew)); exact HO_282003.out) hb); have n6_ := Aside0.mk (blk_below (g := gb235) (o := .cells #[.int .i64 a0_0, .int .i64 a0_1, .slice A0_2 l0_2.length c0_2, .slice A0_3 l0_3.length c0_3, .int .i64 a0_4, .bool a0_5] 38 (0, 0)) (by (with_reducible repeat (first | refine Fix.kN ?_ _ | refine Fix.kD ?_ | refine Fix.kA ?_ _)); exact BK235.out) hb); have n7_ := Aside0.mk (blk_below (g := gb258) (o := .cells #[.int .i64 t247, .int .i64 t248, .slice Ao24 t249.length co24, .slice Ao25 t252.length co25, .int .i64 t255, .bool t256] 28 (0, 0)) (by (with_reducible repeat (first | refine Fix.kN ?_ _ | refine Fix.kD ?_ | refine Fix.kA ?_ _)); exact BK258.out) hb); have n8_ := Aside0.mk (blk_below (g := gb269) (o := .cells #[.int .i64 t259, .int .i64 t260, .slice Ao33 t295.length co33, .slice Ao34 t296.length co34, .int .i64 t267, .bool t268] 28 (0, 0)) (by (with_reducible repeat (first | refine Fix.kN ?_ _ | refine Fix.kD ?_ | refine Fix.kA ?_ _)); exact BK269.out) hb); have n9_ := Aside0.mk (blk_below (g := gb281) (o := .cells #[.int .i64 t270, .int .i64 t271, .slice Ao43 t272.length co43, .slice Ao44 t275.length co44, .int .i64 t278, .bool t279] 28 (0, 0)) (by (with_reducible repeat (first | refine Fix.kN ?_ _ | refine Fix.kD ?_ | refine Fix.kA ?_ _)); exact BK281.out) hb); have n10_ := Aside0.mk (below_step (by repeat (first | (with_reducible first | exact HB.out | apply Fix.bA | apply Fix.bN | apply Fix.b1 | refine below_set ?_ GE235.out | refine below_set ?_ GE258.out | refine below_set ?_ GE269.out | refine below_set ?_ GE281.out) | exact HB.out)) hb); clear HO_259002; clear HO_259003; clear HO_270002; clear HO_270003; clear HO_282002; clear HO_282003; clear BK235; clear BK258; clear BK269; clear BK281; clear HB; have HO_259002 := n0_; have HO_259003 := n1_; have HO_270002 := n2_; have HO_270003 := n3_; have HO_282002 := n4_; have HO_282003 := n5_; have BK235 := n6_; have BK258 := n7_; have BK269 := n8_; have BK281 := n9_; have HB := n10_; clear n0_ n1_ n2_ n3_ n4_ n5_ n6_ n7_ n8_ n9_ n10_; (try clear hb); (try clear hb2); (try clear hk); (try clear hi); have hnb114 := NB235_258.out; have hnc114 := NB258_235.out; have hnb115 := NB235_269.out; have hnc115 := NB269_235.out; obtain ⟨hcz116_0, hcz116_1, hcz116_2, hcz116_3, hcz116_4, hcz116_5, hfz116_0, hfz116_1, hfz116_2, hfz116_3, hfz116_4, hfz116_5⟩ := Fix.d6 BK235.out) | ((with_reducible refine gate_callee (f := 24) rfl ?_); refine goesL_ (some 79) rfl rfl Try.func24 (by kernel_rfl) rfl #[.agg #[.int .i64 a0_0, .int .i64 a0_1, .slice A0_2 l0_2.length c0_2, .slice A0_3 l0_3.length c0_3, .int .i64 a0_4, .bool a0_5]] rfl (by (try simp only [List.map_toArray, List.map_cons, List.map_nil]); first | done | rfl | (simp only [List.length_drop, List.length_take]; rfl)) ?_; (with_reducible refine (laws_toLine.calls kj68 a0_0 a0_1 _ _ l0_2 _ _ l0_3 a0_4 a0_5 t302 t303 t304 t307 t310 t311 _ ?side1 ?side2 ?side3 ?side4 A104.out).mono ?_); (case side1 => repeat (first | exact (Kd.C_below HR0_2.out HB.out) | (with_reducible refine Kd.C_alloc ?_ _) | (with_reducible refine Kd.C_drewN ?_ _) | (with_reducible refine Kd.C_drew ?_))); (case side2 => exact HC0_2.out); (case side3 => repeat (first | exact (Kd.C_below HR0_3.out HB.out) | (with_reducible refine Kd.C_alloc ?_ _) | (with_reducible refine Kd.C_drewN ?_ _) | (with_reducible refine Kd.C_drew ?_))); (case side4 => exact HC0_3.out); rintro e w117 ⟨v305, v308, rfl, ho0, ho1, hb⟩; refine ⟨_, rfl, ?_⟩; have n0_ := Aside0.mk (Kd.Q_mono (Kd.Q_told (Kd.Q_told (Kd.Q_old (by (with_reducible repeat (first | apply Kd.Q_alloc | apply Kd.Q_drewN | apply Kd.Q_drew)); exact HO_259002.out) hb) (Kd.R_base ho0)) (Kd.R_base ho1)) (fun _ h_ => h_.1)); have n1_ := Aside0.mk (Kd.R_mono (Kd.R_told (Kd.R_told (Kd.R_old (by (with_reducible repeat (first | apply Kd.R_alloc | apply Kd.R_drewN | apply Kd.R_drew)); exact HO_259003.out) hb) (Kd.R_base ho0)) (Kd.R_base ho1)) (fun _ h_ => h_.1)); have n2_ := Aside0.mk (Kd.Q_mono (Kd.Q_told (Kd.Q_told (Kd.Q_old (by (with_reducible repeat (first | apply Kd.Q_alloc | apply Kd.Q_drewN | apply Kd.Q_drew)); exact HO_270002.out) hb) (Kd.R_base ho0)) (Kd.R_base ho1)) (fun _ h_ => h_.1)); have n3_ := Aside0.mk (Kd.Q_mono (Kd.Q_told (Kd.Q_told (Kd.Q_old (by (with_reducible repeat (first | apply Kd.Q_alloc | apply Kd.Q_drewN | apply Kd.Q_drew)); exact HO_270003.out) hb) (Kd.R_base ho0)) (Kd.R_base ho1)) (fun _ h_ => h_.1)); have n4_ := Aside0.mk (Kd.Q_mono (Kd.Q_told (Kd.Q_told (Kd.Q_old (by (with_reducible repeat (first | apply Kd.Q_alloc | apply Kd.Q_drewN | apply Kd.Q_drew)); exact HO_282002.out) hb) (Kd.R_base ho0)) (Kd.R_base ho1)) (fun _ h_ => h_.1)); have n5_ := Aside0.mk (Kd.Q_mono (Kd.Q_told (Kd.Q_told (Kd.Q_old (by (with_reducible repeat (first | apply Kd.Q_alloc | apply Kd.Q_drewN | apply Kd.Q_drew)); exact HO_282003.out) hb) (Kd.R_base ho0)) (Kd.R_base ho1)) (fun _ h_ => h_.1)); have n6_ := Aside0.mk (Kd.R_lower (Kd.R_new' (Kd.R_new' (Kd.R_new' (Kd.R_new' (Kd.R_new' (Kd.R_new' ho0 (Kd.Q_lt (by (with_reducible repeat (first | apply Kd.Q_alloc | apply Kd.Q_drewN | apply Kd.Q_drew)); exact HO_259002.out))) (Kd.R_lt (by (with_reducible repeat (first | apply Kd.R_alloc | apply Kd.R_drewN | apply Kd.R_drew)); exact HO_259003.out))) (Kd.Q_lt (by (with_reducible repeat (first | apply Kd.Q_alloc | apply Kd.Q_drewN | apply Kd.Q_drew)); exact HO_270002.out))) (Kd.Q_lt (by (with_reducible repeat (first | apply Kd.Q_alloc | apply Kd.Q_drewN | apply Kd.Q_drew)); exact HO_270003.out))) (Kd.Q_lt (by (with_reducible repeat (first | apply Kd.Q_alloc | apply Kd.Q_drewN | apply Kd.Q_drew)); exact HO_282002.out))) (Kd.Q_lt (by (with_reducible repeat (first | apply Kd.Q_alloc | apply Kd.Q_drewN | apply Kd.Q_drew)); exact HO_282003.out))) (below_size (by repeat (first | (with_reducible first | exact HB.out | apply Fix.bA | apply Fix.bN | apply Fix.b1 | refine below_set ?_ GE235.out | refine below_set ?_ GE258.out | refine below_set ?_ GE269.out | refine below_set ?_ GE281.out) | exact HB.out)))); have n7_ := Aside0.mk (Kd.R_lower (Kd.R_new' (Kd.R_new' (Kd.R_new' (Kd.R_new' (Kd.R_new' (Kd.R_new' ho1 (Kd.Q_lt (by (with_reducible repeat (first | apply Kd.Q_alloc | apply Kd.Q_drewN | apply Kd.Q_drew)); exact HO_259002.out))) (Kd.R_lt (by (with_reducible repeat (first | apply Kd.R_alloc | apply Kd.R_drewN | apply Kd.R_drew)); exact HO_259003.out))) (Kd.Q_lt (by (with_reducible repeat (first | apply Kd.Q_alloc | apply Kd.Q_drewN | apply Kd.Q_drew)); exact HO_270002.out))) (Kd.Q_lt (by (with_reducible repeat (first | apply Kd.Q_alloc | apply Kd.Q_drewN | apply Kd.Q_drew)); exact HO_270003.out))) (Kd.Q_lt (by (with_reducible repeat (first | apply Kd.Q_alloc | apply Kd.Q_drewN | apply Kd.Q_drew)); exact HO_282002.out))) (Kd.Q_lt (by (with_reducible repeat (first | apply Kd.Q_alloc | apply Kd.Q_drewN | apply Kd.Q_drew)); exact HO_282003.out))) (below_size (by repeat (first | (with_reducible first | exact HB.out | apply Fix.bA | apply Fix.bN | apply Fix.b1 | refine below_set ?_ GE235.out | refine below_set ?_ GE258.out | refine below_set ?_ GE269.out | refine below_set ?_ GE281.out) | exact HB.out)))); have n8_ := Aside0.mk (blk_below (g := gb235) (o := .cells #[.int .i64 a0_0, .int .i64 a0_1, .slice A0_2 l0_2.length c0_2, .slice A0_3 l0_3.length c0_3, .int .i64 a0_4, .bool a0_5] 38 (0, 0)) (by (with_reducible repeat (first | refine Fix.kN ?_ _ | refine Fix.kD ?_ | refine Fix.kA ?_ _)); exact BK235.out) hb); have n9_ := Aside0.mk (blk_below (g := gb258) (o := .cells #[.int .i64 t247, .int .i64 t248, .slice Ao24 t249.length co24, .slice Ao25 t252.length co25, .int .i64 t255, .bool t256] 28 (0, 0)) (by (with_reducible repeat (first | refine Fix.kN ?_ _ | refine Fix.kD ?_ | refine Fix.kA ?_ _)); exact BK258.out) hb); have n10_ := Aside0.mk (blk_below (g := gb269) (o := .cells #[.int .i64 t259, .int .i64 t260, .slice Ao33 t295.length co33, .slice Ao34 t296.length co34, .int .i64 t267, .bool t268] 28 (0, 0)) (by (with_reducible repeat (first | refine Fix.kN ?_ _ | refine Fix.kD ?_ | refine Fix.kA ?_ _)); exact BK269.out) hb); have n11_ := Aside0.mk (blk_below (g := gb281) (o := .cells #[.int .i64 t270, .int .i64 t271, .slice Ao43 t272.length co43, .slice Ao44 t275.length co44, .int .i64 t278, .bool t279] 28 (0, 0)) (by (with_reducible repeat (first | refine Fix.kN ?_ _ | refine Fix.kD ?_ | refine Fix.kA ?_ _)); exact BK281.out) hb); have n12_ := Aside0.mk (below_step (by repeat (first | (with_reducible first | exact HB.out | apply Fix.bA | apply Fix.bN | apply Fix.b1 | refine below_set ?_ GE235.out | refine below_set ?_ GE258.out | refine below_set ?_ GE269.out | refine below_set ?_ GE281.out) | exact HB.out)) hb); clear HO_259002; clear HO_259003; clear HO_270002; clear HO_270003; clear HO_282002; clear HO_282003; clear BK235; clear BK258; clear BK269; clear BK281; clear HB; have HO_259002 := n0_; have HO_259003 := n1_; have HO_270002 := n2_; have HO_270003 := n3_; have HO_282002 := n4_; have HO_282003 := n5_; have HO306 := n6_; have HO309 := n7_; have BK235 := n8_; have BK258 := n9_; have BK269 := n10_; have BK281 := n11_; have HB := n12_; clear n0_ n1_ n2_ n3_ n4_ n5_ n6_ n7_ n8_ n9_ n10_ n11_ n12_; (try clear hb); (try clear hb2); (try clear hk); (try clear hi); (try clear ho0); (try clear ho1); obtain ⟨Ao118, co118, eo118⟩ := Kd.R_slice HO306.out; subst eo118; obtain ⟨Ao119, co119, eo119⟩ := Kd.R_slice HO309.out; subst eo119) | ((with_reducible refine gate_callee (f := 26) rfl ?_); refine goesL_ (some 81) rfl rfl Try.func26 (by kernel_rfl) rfl #[.agg #[.int .i64 t302, .int .i64 t303, .slice Ao118 t304.length co118, .slice Ao119 t307.length co119, .int .i64 t310, .bool t311], .int .i64 a1] rfl (by (try simp only [List.map_toArray, List.map_cons, List.map_nil]); first | done | rfl | (simp only [List.length_drop, List.length_take]; rfl)) ?_; (with_reducible refine (impl_LineStep.calls kj68 t302 t303 _ _ t304 _ _ t307 t310 t311 a1 t312 t313 t314 t317 t320 t321 t322 _ ?side1 ?side2 ?side3 ?side4 A105.out).mono ?_); (case side1 => repeat (first | exact (Kd.R_reads' HO306.out).2.2 | (with_reducible refine Kd.C_alloc ?_ _) | (with_reducible refine Kd.C_drewN ?_ _) | (with_reducible refine Kd.C_drew ?_))); (case side2 => exact (Kd.R_reads' HO306.out).2.1); (case side3 => repeat (first | exact (Kd.R_reads' HO309.out).2.2 | (with_reducible refine Kd.C_alloc ?_ _) | (with_reducible refine Kd.C_drewN ?_ _) | (with_reducible refine Kd.C_drew ?_))); (case side4 => exact (Kd.R_reads' HO309.out).2.1); rintro e w120 ⟨v315, v318, rfl, ho0, ho1, hb⟩; refine ⟨_, rfl, ?_⟩; have n0_ := Aside0.mk (Kd.Q_mono (Kd.Q_told (Kd.Q_told (Kd.Q_old (by (with_reducible repeat (first | apply Kd.Q_alloc | apply Kd.Q_drewN | apply Kd.Q_drew)); exact HO_259002.out) hb) (Kd.Q_base ho0)) (Kd.R_base ho1)) (fun _ h_ => h_.1)); have n1_ := Aside0.mk (Kd.R_mono (Kd.R_told (Kd.R_told (Kd.R_old (by (with_reducible repeat (first | apply Kd.R_alloc | apply Kd.R_drewN | apply Kd.R_drew)); exact HO_259003.out) hb) (Kd.Q_base ho0)) (Kd.R_base ho1)) (fun _ h_ => h_.1)); have n2_ := Aside0.mk (Kd.Q_mono (Kd.Q_told (Kd.Q_told (Kd.Q_old (by (with_reducible repeat (first | apply Kd.Q_alloc | apply Kd.Q_drewN | apply Kd.Q_drew)); exact HO_270002.out) hb) (Kd.Q_base ho0)) (Kd.R_base ho1)) (fun _ h_ => h_.1)); have n3_ := Aside0.mk (Kd.Q_mono (Kd.Q_told (Kd.Q_told (Kd.Q_old (by (with_reducible repeat (first | apply Kd.Q_alloc | apply Kd.Q_drewN | apply Kd.Q_drew)); exact HO_270003.out) hb) (Kd.Q_base ho0)) (Kd.R_base ho1)) (fun _ h_ => h_.1)); have n4_ := Aside0.mk (Kd.Q_mono (Kd.Q_told (Kd.Q_told (Kd.Q_old (by (with_reducible repeat (first | apply Kd.Q_alloc | apply Kd.Q_drewN | apply Kd.Q_drew)); exact HO_282002.out) hb) (Kd.Q_base ho0)) (Kd.R_base ho1)) (fun _ h_ => h_.1)); have n5_ := Aside0.mk (Kd.Q_mono (Kd.Q_told (Kd.Q_told (Kd.Q_old (by (with_reducible repeat (first | apply Kd.Q_alloc | apply Kd.Q_drewN | apply Kd.Q_drew)); exact HO_282003.out) hb) (Kd.Q_base ho0)) (Kd.R_base ho1)) (fun _ h_ => h_.1)); have n6_ := Aside0.mk (Kd.R_mono (Kd.R_told (Kd.R_told (Kd.R_old (by (with_reducible repeat (first | apply Kd.R_alloc | apply Kd.R_drewN | apply Kd.R_drew)); exact HO306.out) hb) (Kd.Q_base ho0)) (Kd.R_base ho1)) (fun _ h_ => h_.1)); have n7_ := Aside0.mk (Kd.R_mono (Kd.R_told (Kd.R_told (Kd.R_old (by (with_reducible repeat (first | apply Kd.R_alloc | apply Kd.R_drewN | apply Kd.R_drew)); exact HO309.out) hb) (Kd.Q_base ho0)) (Kd.R_base ho1)) (fun _ h_ => h_.1)); have n8_ := Aside0.mk (Kd.Q_lower (Kd.Q_new' (Kd.Q_new' (Kd.Q_new' (Kd.Q_new' (Kd.Q_new' (Kd.Q_new' (Kd.Q_new' (Kd.Q_new' ho0 (Kd.Q_lt (by (with_reducible repeat (first | apply Kd.Q_alloc | apply Kd.Q_drewN | apply Kd.Q_drew)); exact HO_259002.out))) (Kd.R_lt (by (with_reducible repeat (first | apply Kd.R_alloc | apply Kd.R_drewN | apply Kd.R_drew)); exact HO_259003.out))) (Kd.Q_lt (by (with_reducible repeat (first | apply Kd.Q_alloc | apply Kd.Q_drewN | apply Kd.Q_drew)); exact HO_270002.out))) (Kd.Q_lt (by (with_reducible repeat (first | apply Kd.Q_alloc | apply Kd.Q_drewN | apply Kd.Q_drew)); exact HO_270003.out))) (Kd.Q_lt (by (with_reducible repeat (first | apply Kd.Q_alloc | apply Kd.Q_drewN | apply Kd.Q_drew)); exact HO_282002.out))) (Kd.Q_lt (by (with_reducible repeat (first | apply Kd.Q_alloc | apply Kd.Q_drewN | apply Kd.Q_drew)); exact HO_282003.out))) (Kd.R_lt (by (with_reducible repeat (first | apply Kd.R_alloc | apply Kd.R_drewN | apply Kd.R_drew)); exact HO306.out))) (Kd.R_lt (by (with_reducible repeat (first | apply Kd.R_alloc | apply Kd.R_drewN | apply Kd.R_drew)); exact HO309.out))) (below_size (by repeat (first | (with_reducible first | exact HB.out | apply Fix.bA | apply Fix.bN | apply Fix.b1 | refine below_set ?_ GE235.out | refine below_set ?_ GE258.out | refine below_set ?_ GE269.out | refine below_set ?_ GE281.out) | exact HB.out)))); have n9_ := Aside0.mk (Kd.R_lower (Kd.R_new' (Kd.R_new' (Kd.R_new' (Kd.R_new' (Kd.R_new' (Kd.R_new' (Kd.R_new' (Kd.R_new' ho1 (Kd.Q_lt (by (with_reducible repeat (first | apply Kd.Q_alloc | apply Kd.Q_drewN | apply Kd.Q_drew)); exact HO_259002.out))) (Kd.R_lt (by (with_reducible repeat (first | apply Kd.R_alloc | apply Kd.R_drewN | apply Kd.R_drew)); exact HO_259003.out))) (Kd.Q_lt (by (with_reducible repeat (first | apply Kd.Q_alloc | apply Kd.Q_drewN | apply Kd.Q_drew)); exact HO_270002.out))) (Kd.Q_lt (by (with_reducible repeat (first | apply Kd.Q_alloc | apply Kd.Q_drewN | apply Kd.Q_drew)); exact HO_270003.out))) (Kd.Q_lt (by (with_reducible repeat (first | apply Kd.Q_alloc | apply Kd.Q_drewN | apply Kd.Q_drew)); exact HO_282002.out))) (Kd.Q_lt (by (with_reducible repeat (first | apply Kd.Q_alloc | apply Kd.Q_drewN | apply Kd.Q_drew)); exact HO_282003.out))) (Kd.R_lt (by (with_reducible repeat (first | apply Kd.R_alloc | apply Kd.R_drewN | apply Kd.R_drew)); exact HO306.out))) (Kd.R_lt (by (with_reducible repeat (first | apply Kd.R_alloc | apply Kd.R_drewN | apply Kd.R_drew)); exact HO309.out))) (below_size (by repeat (first | (with_reducible first | exact HB.out | apply Fix.bA | apply Fix.bN | apply Fix.b1 | refine below_set ?_ GE235.out | refine below_set ?_ GE258.out | refine below_set ?_ GE269.out | refine below_set ?_ GE281.out) | exact HB.out)))); have n10_ := Aside0.mk (blk_below (g := gb235) (o := .cells #[.int .i64 a0_0, .int .i64 a0_1, .slice A0_2 l0_2.length c0_2, .slice A0_3 l0_3.length c0_3, .int .i64 a0_4, .bool a0_5] 38 (0, 0)) (by (with_reducible repeat (first | refine Fix.kN ?_ _ | refine Fix.kD ?_ | refine Fix.kA ?_ _)); exact BK235.out) hb); have n11_ := Aside0.mk (blk_below (g := gb258) (o := .cells #[.int .i64 t247, .int .i64 t248, .slice Ao24 t249.length co24, .slice Ao25 t252.length co25, .int .i64 t255, .bool t256] 28 (0, 0)) (by (with_reducible repeat (first | refine Fix.kN ?_ _ | refine Fix.kD ?_ | refine Fix.kA ?_ _)); exact BK258.out) hb); have n12_ := Aside0.mk (blk_below (g := gb269) (o := .cells #[.int .i64 t259, .int .i64 t260, .slice Ao33 t295.length co33, .slice Ao34 t296.length co34, .int .i64 t267, .bool t268] 28 (0, 0)) (by (with_reducible repeat (first | refine Fix.kN ?_ _ | refine Fix.kD ?_ | refine Fix.kA ?_ _)); exact BK269.out) hb); have n13_ := Aside0.mk (blk_below (g := gb281) (o := .cells #[.int .i64 t270, .int .i64 t271, .slice Ao43 t272.length co43, .slice Ao44 t275.length co44, .int .i64 t278, .bool t279] 28 (0, 0)) (by (with_reducible repeat (first | refine Fix.kN ?_ _ | refine Fix.kD ?_ | refine Fix.kA ?_ _)); exact BK281.out) hb); have n14_ := Aside0.mk (below_step (by repeat (first | (with_reducible first | exact HB.out | apply Fix.bA | apply Fix.bN | apply Fix.b1 | refine below_set ?_ GE235.out | refine below_set ?_ GE258.out | refine below_set ?_ GE269.out | refine below_set ?_ GE281.out) | exact HB.out)) hb); clear HO_259002; clear HO_259003; clear HO_270002; clear HO_270003; clear HO_282002; clear HO_282003; clear HO306; clear HO309; clear BK235; clear BK258; clear BK269; clear BK281; clear HB; have HO_259002 := n0_; have HO_259003 := n1_; have HO_270002 := n2_; have HO_270003 := n3_; have HO_282002 := n4_; have HO_282003 := n5_; have HO306 := n6_; have HO309 := n7_; have HO316 := n8_; have HO319 := n9_; have BK235 := n10_; have BK258 := n11_; have BK269 := n12_; have BK281 := n13_; have HB := n14_; clear n0_ n1_ n2_ n3_ n4_ n5_ n6_ n7_ n8_ n9_ n10_ n11_ n12_ n13_ n14_; (try clear hb); (try clear hb2); (try clear hk); (try clear hi); (try clear ho0); (try clear ho1)) | ((with_reducible refine gate_dst (N := 14) rfl ?_); refine box_event ?hg (N := 14) ?hd (cs := #[.int .i64 0, .int .i64 0, .slice none 0 0, .slice none 0 0, .int .i64 0, .bool false]) (t := 28) ?hr ?_; (case hd => rfl); (case hg => rfl); (case hr => first | (go_simp; done) | (go_simp; rfl)); intro gb323 hg w121 hbox hb; have n0_ := Aside0.mk (Kd.Q_below (by (with_reducible repeat (first | apply Kd.Q_alloc | apply Kd.Q_drewN | apply Kd.Q_drew)); exact HO_259002.out) hb); have n1_ := Aside0.mk (Kd.R_below (by (with_reducible repeat (first | apply Kd.R_alloc | apply Kd.R_drewN | apply Kd.R_drew)); exact HO_259003.out) hb); have n2_ := Aside0.mk (Kd.Q_below (by (with_reducible repeat (first | apply Kd.Q_alloc | apply Kd.Q_drewN | apply Kd.Q_drew)); exact HO_270002.out) hb); have n3_ := Aside0.mk (Kd.Q_below (by (with_reducible repeat (first | apply Kd.Q_alloc | apply Kd.Q_drewN | apply Kd.Q_drew)); exact HO_270003.out) hb); have n4_ := Aside0.mk (Kd.Q_below (by (with_reducible repeat (first | apply Kd.Q_alloc | apply Kd.Q_drewN | apply Kd.Q_drew)); exact HO_282002.out) hb); have n5_ := Aside0.mk (Kd.Q_below (by (with_reducible repeat (first | apply Kd.Q_alloc | apply Kd.Q_drewN | apply Kd.Q_drew)); exact HO_282003.out) hb); have n6_ := Aside0.mk (Kd.R_below (by (with_reducible repeat (first | apply Kd.R_alloc | apply Kd.R_drewN | apply Kd.R_drew)); exact HO306.out) hb); have n7_ := Aside0.mk (Kd.R_below (by (with_reducible repeat (first | apply Kd.R_alloc | apply Kd.R_drewN | apply Kd.R_drew)); exact HO309.out) hb); have n8_ := Aside0.mk (Kd.Q_below (by (with_reducible repeat (first | apply Kd.Q_alloc | apply Kd.Q_drewN | apply Kd.Q_drew)); exact HO316.out) hb); have n9_ := Aside0.mk (Kd.R_below (by (with_reducible repeat (first | apply Kd.R_alloc | apply Kd.R_drewN | apply Kd.R_drew)); exact HO319.out) hb); have n10_ := Aside0.mk (blk_below (g := gb235) (o := .cells #[.int .i64 a0_0, .int .i64 a0_1, .slice A0_2 l0_2.length c0_2, .slice A0_3 l0_3.length c0_3, .int .i64 a0_4, .bool a0_5] 38 (0, 0)) (by (with_reducible repeat (first | refine Fix.kN ?_ _ | refine Fix.kD ?_ | refine Fix.kA ?_ _)); exact BK235.out) hb); have n11_ := Aside0.mk (blk_below (g := gb258) (o := .cells #[.int .i64 t247, .int .i64 t248, .slice Ao24 t249.length co24, .slice Ao25 t252.length co25, .int .i64 t255, .bool t256] 28 (0, 0)) (by (with_reducible repeat (first | refine Fix.kN ?_ _ | refine Fix.kD ?_ | refine Fix.kA ?_ _)); exact BK258.out) hb); have n12_ := Aside0.mk (blk_below (g := gb269) (o := .cells #[.int .i64 t259, .int .i64 t260, .slice Ao33 t295.length co33, .slice Ao34 t296.length co34, .int .i64 t267, .bool t268] 28 (0, 0)) (by (with_reducible repeat (first | refine Fix.kN ?_ _ | refine Fix.kD ?_ | refine Fix.kA ?_ _)); exact BK269.out) hb); have n13_ := Aside0.mk (blk_below (g := gb281) (o := .cells #[.int .i64 t270, .int .i64 t271, .slice Ao43 t272.length co43, .slice Ao44 t275.length co44, .int .i64 t278, .bool t279] 28 (0, 0)) (by (with_reducible repeat (first | refine Fix.kN ?_ _ | refine Fix.kD ?_ | refine Fix.kA ?_ _)); exact BK281.out) hb); have n14_ := Aside0.mk (below_step (by repeat (first | (with_reducible first | exact HB.out | apply Fix.bA | apply Fix.bN | apply Fix.b1 | refine below_set ?_ GE235.out | refine below_set ?_ GE258.out | refine below_set ?_ GE269.out | refine below_set ?_ GE281.out) | exact HB.out)) hb); have n15_ := Aside0.mk (hbox); have n16_ := Aside0.mk ((by rw [hg]; exact (below_size (by repeat (first | (with_reducible first | exact HB.out | apply Fix.bA | apply Fix.bN | apply Fix.b1 | refine below_set ?_ GE235.out | refine below_set ?_ GE258.out | refine below_set ?_ GE269.out | refine below_set ?_ GE281.out) | exact HB.out))) : w.heap.size ≤ gb323)); have n17_ := Aside0.mk ((by rw [hg]; exact (below_size (by repeat (first | (with_reducible first | exact HB.out | apply Fix.bA | apply Fix.bN | apply Fix.b1 | refine below_set ?_ GE235.out | refine below_set ?_ GE258.out | refine below_set ?_ GE269.out | refine below_set ?_ GE281.out) | exact HB.out))) : w.heap.size ≤ gb323)); have n18_ := Aside0.mk ((by rw [hg]; exact Nat.ne_of_lt (blk_lt (g := gb235) (o := .cells #[.int .i64 a0_0, .int .i64 a0_1, .slice A0_2 l0_2.length c0_2, .slice A0_3 l0_3.length c0_3, .int .i64 a0_4, .bool a0_5] 38 (0, 0)) (by (with_reducible repeat (first | refine Fix.kN ?_ _ | refine Fix.kD ?_ | refine Fix.kA ?_ _)); exact BK235.out)) : gb235 ≠ gb323)); have n19_ := Aside0.mk ((by rw [hg]; exact Nat.ne_of_gt (blk_lt (g := gb235) (o := .cells #[.int .i64 a0_0, .int .i64 a0_1, .slice A0_2 l0_2.length c0_2, .slice A0_3 l0_3.length c0_3, .int .i64 a0_4, .bool a0_5] 38 (0, 0)) (by (with_reducible repeat (first | refine Fix.kN ?_ _ | refine Fix.kD ?_ | refine Fix.kA ?_ _)); exact BK235.out)) : gb323 ≠ gb235)); have n20_ := Aside0.mk ((by rw [hg]; exact Nat.ne_of_lt (blk_lt (g := gb258) (o := .cells #[.int .i64 t247, .int .i64 t248, .slice Ao24 t249.length co24, .slice Ao25 t252.length co25, .int .i64 t255, .bool t256] 28 (0, 0)) (by (with_reducible repeat (first | refine Fix.kN ?_ _ | refine Fix.kD ?_ | refine Fix.kA ?_ _)); exact BK258.out)) : gb258 ≠ gb323)); have n21_ := Aside0.mk ((by rw [hg]; exact Nat.ne_of_gt (blk_lt (g := gb258) (o := .cells #[.int .i64 t247, .int .i64 t248, .slice Ao24 t249.length co24, .slice Ao25 t252.length co25, .int .i64 t255, .bool t256] 28 (0, 0)) (by (with_reducible repeat (first | refine Fix.kN ?_ _ | refine Fix.kD ?_ | refine Fix.kA ?_ _)); exact BK258.out)) : gb323 ≠ gb258)); have n22_ := Aside0.mk ((by rw [hg]; exact Nat.ne_of_lt (blk_lt (g := gb269) (o := .cells #[.int .i64 t259, .int .i64 t260, .slice Ao33 t295.length co33, .slice Ao34 t296.length co34, .int .i64 t267, .bool t268] 28 (0, 0)) (by (with_reducible repeat (first | refine Fix.kN ?_ _ | refine Fix.kD ?_ | refine Fix.kA ?_ _)); exact BK269.out)) : gb269 ≠ gb323)); have n23_ := Aside0.mk ((by rw [hg]; exact Nat.ne_of_gt (blk_lt (g := gb269) (o := .cells #[.int .i64 t259, .int .i64 t260, .slice Ao33 t295.length co33, .slice Ao34 t296.length co34, .int .i64 t267, .bool t268] 28 (0, 0)) (by (with_reducible repeat (first | refine Fix.kN ?_ _ | refine Fix.kD ?_ | refine Fix.kA ?_ _)); exact BK269.out)) : gb323 ≠ gb269)); have n24_ := Aside0.mk ((by rw [hg]; exact Nat.ne_of_lt (blk_lt (g := gb281) (o := .cells #[.int .i64 t270, .int .i64 t271, .slice Ao43 t272.length co43, .slice Ao44 t275.length co44, .int .i64 t278, .bool t279] 28 (0, 0)) (by (with_reducible repeat (first | refine Fix.kN ?_ _ | refine Fix.kD ?_ | refine Fix.kA ?_ _)); exact BK281.out)) : gb281 ≠ gb323)); have n25_ := Aside0.mk ((by rw [hg]; exact Nat.ne_of_gt (blk_lt (g := gb281) (o := .cells #[.int .i64 t270, .int .i64 t271, .slice Ao43 t272.length co43, .slice Ao44 t275.length co44, .int .i64 t278, .bool t279] 28 (0, 0)) (by (with_reducible repeat (first | refine Fix.kN ?_ _ | refine Fix.kD ?_ | refine Fix.kA ?_ _)); exact BK281.out)) : gb323 ≠ gb281)); clear HO_259002; clear HO_259003; clear HO_270002; clear HO_270003; clear HO_282002; clear HO_282003; clear HO306; clear HO309; clear HO316; clear HO319; clear BK235; clear BK258; clear BK269; clear BK281; clear HB; have HO_259002 := n0_; have HO_259003 := n1_; have HO_270002 := n2_; have HO_270003 := n3_; have HO_282002 := n4_; have HO_282003 := n5_; have HO306 := n6_; have HO309 := n7_; have HO316 := n8_; have HO319 := n9_; have BK235 := n10_; have BK258 := n11_; have BK269 := n12_; have BK281 := n13_; have HB := n14_; have BK323 := n15_; have GW323 := n16_; have GE323 := n17_; have NB235_323 := n18_; have NB323_235 := n19_; have NB258_323 := n20_; have NB323_258 := n21_; have NB269_323 := n22_; have NB323_269 := n23_; have NB281_323 := n24_; have NB323_281 := n25_; clear n0_ n1_ n2_ n3_ n4_ n5_ n6_ n7_ n8_ n9_ n10_ n11_ n12_ n13_ n14_ n15_ n16_ n17_ n18_ n19_ n20_ n21_ n22_ n23_ n24_ n25_; clear hb hbox hg; have hnb122 := NB323_235.out; have hnc122 := NB235_323.out; have hnb123 := NB323_258.out; have hnc123 := NB258_323.out; have hnb124 := NB323_269.out; have hnc124 := NB269_323.out; have hnb125 := NB323_281.out; have hnc125 := NB281_323.out; obtain ⟨hcz126_0, hcz126_1, hcz126_2, hcz126_3, hcz126_4, hcz126_5, hfz126_0, hfz126_1, hfz126_2, hfz126_3, hfz126_4, hfz126_5⟩ := Fix.d6 BK323.out; obtain ⟨Ao127, co127, eo127, _⟩ := Kd.Q_slice HO316.out; subst eo127; obtain ⟨Ao128, co128, eo128⟩ := Kd.R_slice HO319.out; subst eo128) | ((with_reducible refine gate_store (t := 28) (p := 14) rfl ?_); refine store_event (t := 28) (p := 14) (v := ?vo_w129) (w1 := ((((((w121.setCell ⟨gb323, 0, none⟩ (.int .i64 t312)).setCell ⟨gb323, 1, none⟩ (.int .i64 t313)).setCell ⟨gb323, 2, none⟩ (.slice Ao127 t314.length co127)).setCell ⟨gb323, 3, none⟩ (.slice Ao128 t317.length co128)).setCell ⟨gb323, 4, none⟩ (.int .i64 t320)).setCell ⟨gb323, 5, none⟩ (.bool t321))) ?hg ?ho ?hn ?hr ?_; (case ho => rfl); (case hg => rfl); (case hn => rfl); (case hr => first | (go_simp; done) | (go_simp; rfl)); intro w129 hw; have n0_ : Aside0 (Kd.Q (Kd.int .i64) 3 w129 w.heap.size (fun k_ => some k_ ≠ (.slice Ao25 t252.length co25 : Value).ownBlock ∧ some k_ ≠ (.slice Ao33 t295.length co33 : Value).ownBlock ∧ some k_ ≠ (.slice Ao34 t296.length co34 : Value).ownBlock ∧ some k_ ≠ (.slice Ao43 t272.length co43 : Value).ownBlock ∧ some k_ ≠ (.slice Ao44 t275.length co44 : Value).ownBlock ∧ some k_ ≠ (.slice Ao118 t304.length co118 : Value).ownBlock ∧ some k_ ≠ (.slice Ao119 t307.length co119 : Value).ownBlock ∧ some k_ ≠ (.slice Ao127 t314.length co127 : Value).ownBlock ∧ some k_ ≠ (.slice Ao128 t317.length co128 : Value).ownBlock) (.slice Ao24 t249.length co24) t249) := ⟨(by rw [hw]; exact (by (with_reducible repeat (first | apply Kd.Q_alloc | apply Kd.Q_drewN | apply Kd.Q_drew)); exact Kd.Q_mono (Fix.Q_far6 (g := gb323) (Kd.Q_types HO_259002.out BK323.out (by decide)) (fun _ hk => hk.2) _ _ _ _ _ _) (fun _ hk => ⟨hk.1.1.1.1.1.1, ⟨hk.1.1.1.1.1.2.1, ⟨hk.1.1.1.1.1.2.2.1, ⟨hk.1.1.1.1.1.2.2.2.1, ⟨hk.1.1.1.1.1.2.2.2.2, ⟨hk.1.1.1.1.2, ⟨hk.1.1.1.2, ⟨hk.1.1.2, hk.1.2⟩⟩⟩⟩⟩⟩⟩⟩)))⟩; have n1_ : Aside0 (Kd.R (Kd.int .i64) 3 w129 w.heap.size (fun k_ => some k_ ≠ (.slice Ao24 t249.length co24 : Value).ownBlock ∧ some k_ ≠ (.slice Ao33 t295.length co33 : Value).ownBlock ∧ some k_ ≠ (.slice Ao34 t296.length co34 : Value).ownBlock ∧ some k_ ≠ (.slice Ao43 t272.length co43 : Value).ownBlock ∧ some k_ ≠ (.slice Ao44 t275.length co44 : Value).ownBlock ∧ some k_ ≠ (.slice Ao118 t304.length co118 : Value).ownBlock ∧ some k_ ≠ (.slice Ao119 t307.length co119 : Value).ownBlock ∧ some k_ ≠ (.slice Ao127 t314.length co127 : Value).ownBlock ∧ some k_ ≠ (.slice Ao128 t317.length co128 : Value).ownBlock) (.slice Ao25 t252.length co25) t252) := ⟨(by rw [hw]; exact (by (with_reducible repeat (first | apply Kd.R_alloc | apply Kd.R_drewN | apply Kd.R_drew)); exact Kd.R_mono (Fix.R_far6 (g := gb323) (Kd.R_types HO_259003.out BK323.out (by decide)) (fun _ hk => hk.2) _ _ _ _ _ _) (fun _ hk => ⟨hk.1.1.1.1.1.1, ⟨hk.1.1.1.1.1.2.1, ⟨hk.1.1.1.1.1.2.2.1, ⟨hk.1.1.1.1.1.2.2.2.1, ⟨hk.1.1.1.1.1.2.2.2.2, ⟨hk.1.1.1.1.2, ⟨hk.1.1.1.2, ⟨hk.1.1.2, hk.1.2⟩⟩⟩⟩⟩⟩⟩⟩)))⟩; have n2_ : Aside0 (Kd.Q (Kd.int .i64) 3 w129 w.heap.size (fun k_ => some k_ ≠ (.slice Ao24 t249.length co24 : Value).ownBlock ∧ some k_ ≠ (.slice Ao25 t252.length co25 : Value).ownBlock ∧ some k_ ≠ (.slice Ao34 t296.length co34 : Value).ownBlock ∧ some k_ ≠ (.slice Ao43 t272.length co43 : Value).ownBlock ∧ some k_ ≠ (.slice Ao44 t275.length co44 : Value).ownBlock ∧ some k_ ≠ (.slice Ao118 t304.length co118 : Value).ownBlock ∧ some k_ ≠ (.slice Ao119 t307.length co119 : Value).ownBlock ∧ some k_ ≠ (.slice Ao127 t314.length co127 : Value).ownBlock ∧ some k_ ≠ (.slice Ao128 t317.length co128 : Value).ownBlock) (.slice Ao33 t295.length co33) t295) := ⟨(by rw [hw]; exact (by (with_reducible repeat (first | apply Kd.Q_alloc | apply Kd.Q_drewN | apply Kd.Q_drew)); exact Kd.Q_mono (Fix.Q_far6 (g := gb323) (Kd.Q_types HO_270002.out BK323.out (by decide)) (fun _ hk => hk.2) _ _ _ _ _ _) (fun _ hk => ⟨hk.1.1.1.1.1.1, ⟨hk.1.1.1.1.1.2.1, ⟨hk.1.1.1.1.1.2.2.1, ⟨hk.1.1.1.1.1.2.2.2.1, ⟨hk.1.1.1.1.1.2.2.2.2, ⟨hk.1.1.1.1.2, ⟨hk.1.1.1.2, ⟨hk.1.1.2, hk.1.2⟩⟩⟩⟩⟩⟩⟩⟩)))⟩; have n3_ : Aside0 (Kd.Q (Kd.int .i64) 3 w129 w.heap.size (fun k_ => some k_ ≠ (.slice Ao24 t249.length co24 : Value).ownBlock ∧ some k_ ≠ (.slice Ao25 t252.length co25 : Value).ownBlock ∧ some k_ ≠ (.slice Ao33 t295.length co33 : Value).ownBlock ∧ some k_ ≠ (.slice Ao43 t272.length co43 : Value).ownBlock ∧ some k_ ≠ (.slice Ao44 t275.length co44 : Value).ownBlock ∧ some k_ ≠ (.slice Ao118 t304.length co118 : Value).ownBlock ∧ some k_ ≠ (.slice Ao119 t307.length co119 : Value).ownBlock ∧ some k_ ≠ (.slice Ao127 t314.length co127 : Value).ownBlock ∧ some k_ ≠ (.slice Ao128 t317.length co128 : Value).ownBlock) (.slice Ao34 t296.length co34) t296) := ⟨(by rw [hw]; exact (by (with_reducible repeat (first | apply Kd.Q_alloc | apply Kd.Q_drewN | apply Kd.Q_drew)); exact Kd.Q_mono (Fix.Q_far6 (g := gb323) (Kd.Q_types HO_270003.out BK323.out (by decide)) (fun _ hk => hk.2) _ _ _ _ _ _) (fun _ hk => ⟨hk.1.1.1.1.1.1, ⟨hk.1.1.1.1.1.2.1, ⟨hk.1.1.1.1.1.2.2.1, ⟨hk.1.1.1.1.1.2.2.2.1, ⟨hk.1.1.1.1.1.2.2.2.2, ⟨hk.1.1.1.1.2, ⟨hk.1.1.1.2, ⟨hk.1.1.2, hk.1.2⟩⟩⟩⟩⟩⟩⟩⟩)))⟩; have n4_ : Aside0 (Kd.Q (Kd.int .i64) 3 w129 w.heap.size (fun k_ => some k_ ≠ (.slice Ao24 t249.length co24 : Value).ownBlock ∧ some k_ ≠ (.slice Ao25 t252.length co25 : Value).ownBlock ∧ some k_ ≠ (.slice Ao33 t295.length co33 : Value).ownBlock ∧ some k_ ≠ (.slice Ao34 t296.length co34 : Value).ownBlock ∧ some k_ ≠ (.slice Ao44 t275.length co44 : Value).ownBlock ∧ some k_ ≠ (.slice Ao118 t304.length co118 : Value).ownBlock ∧ some k_ ≠ (.slice Ao119 t307.length co119 : Value).ownBlock ∧ some k_ ≠ (.slice Ao127 t314.length co127 : Value).ownBlock ∧ some k_ ≠ (.slice Ao128 t317.length co128 : Value).ownBlock) (.slice Ao43 t272.length co43) t299) := ⟨(by rw [hw]; exact (by (with_reducible repeat (first | apply Kd.Q_alloc | apply Kd.Q_drewN | apply Kd.Q_drew)); exact Kd.Q_mono (Fix.Q_far6 (g := gb323) (Kd.Q_types HO_282002.out BK323.out (by decide)) (fun _ hk => hk.2) _ _ _ _ _ _) (fun _ hk => ⟨hk.1.1.1.1.1.1, ⟨hk.1.1.1.1.1.2.1, ⟨hk.1.1.1.1.1.2.2.1, ⟨hk.1.1.1.1.1.2.2.2.1, ⟨hk.1.1.1.1.1.2.2.2.2, ⟨hk.1.1.1.1.2, ⟨hk.1.1.1.2, ⟨hk.1.1.2, hk.1.2⟩⟩⟩⟩⟩⟩⟩⟩)))⟩; have n5_ : Aside0 (Kd.Q (Kd.int .i64) 3 w129 w.heap.size (fun k_ => some k_ ≠ (.slice Ao24 t249.length co24 : Value).ownBlock ∧ some k_ ≠ (.slice Ao25 t252.length co25 : Value).ownBlock ∧ some k_ ≠ (.slice Ao33 t295.length co33 : Value).ownBlock ∧ some k_ ≠ (.slice Ao34 t296.length co34 : Value).ownBlock ∧ some k_ ≠ (.slice Ao43 t272.length co43 : Value).ownBlock ∧ some k_ ≠ (.slice Ao118 t304.length co118 : Value).ownBlock ∧ some k_ ≠ (.slice Ao119 t307.length co119 : Value).ownBlock ∧ some k_ ≠ (.slice Ao127 t314.length co127 : Value).ownBlock ∧ some k_ ≠ (.slice Ao128 t317.length co128 : Value).ownBlock) (.slice Ao44 t275.length co44) t300) := ⟨(by rw [hw]; exact (by (with_reducible repeat (first | apply Kd.Q_alloc | apply Kd.Q_drewN | apply Kd.Q_drew)); exact Kd.Q_mono (Fix.Q_far6 (g := gb323) (Kd.Q_types HO_282003.out BK323.out (by decide)) (fun _ hk => hk.2) _ _ _ _ _ _) (fun _ hk => ⟨hk.1.1.1.1.1.1, ⟨hk.1.1.1.1.1.2.1, ⟨hk.1.1.1.1.1.2.2.1, ⟨hk.1.1.1.1.1.2.2.2.1, ⟨hk.1.1.1.1.1.2.2.2.2, ⟨hk.1.1.1.1.2, ⟨hk.1.1.1.2, ⟨hk.1.1.2, hk.1.2⟩⟩⟩⟩⟩⟩⟩⟩)))⟩; have n6_ : Aside0 (Kd.R (Kd.int .i64) 3 w129 w.heap.size (fun k_ => some k_ ≠ (.slice Ao24 t249.length co24 : Value).ownBlock ∧ some k_ ≠ (.slice Ao25 t252.length co25 : Value).ownBlock ∧ some k_ ≠ (.slice Ao33 t295.length co33 : Value).ownBlock ∧ some k_ ≠ (.slice Ao34 t296.length co34 : Value).ownBlock ∧ some k_ ≠ (.slice Ao43 t272.length co43 : Value).ownBlock ∧ some k_ ≠ (.slice Ao44 t275.length co44 : Value).ownBlock ∧ some k_ ≠ (.slice Ao119 t307.length co119 : Value).ownBlock ∧ some k_ ≠ (.slice Ao127 t314.length co127 : Value).ownBlock ∧ some k_ ≠ (.slice Ao128 t317.length co128 : Value).ownBlock) (.slice Ao118 t304.length co118) t304) := ⟨(by rw [hw]; exact (by (with_reducible repeat (first | apply Kd.R_alloc | apply Kd.R_drewN | apply Kd.R_drew)); exact Kd.R_mono (Fix.R_far6 (g := gb323) (Kd.R_types HO306.out BK323.out (by decide)) (fun _ hk => hk.2) _ _ _ _ _ _) (fun _ hk => ⟨hk.1.1.1.1.1.1.1.1.2, ⟨hk.1.1.1.1.1.1.1.2, ⟨hk.1.1.1.1.1.1.2, ⟨hk.1.1.1.1.1.2, ⟨hk.1.1.1.1.2, ⟨hk.1.1.1.2, ⟨hk.1.1.1.1.1.1.1.1.1, ⟨hk.1.1.2, hk.1.2⟩⟩⟩⟩⟩⟩⟩⟩)))⟩; have n7_ : Aside0 (Kd.R (Kd.int .i64) 3 w129 w.heap.size (fun k_ => some k_ ≠ (.slice Ao24 t249.length co24 : Value).ownBlock ∧ some k_ ≠ (.slice Ao25 t252.length co25 : Value).ownBlock ∧ some k_ ≠ (.slice Ao33 t295.length co33 : Value).ownBlock ∧ some k_ ≠ (.slice Ao34 t296.length co34 : Value).ownBlock ∧ some k_ ≠ (.slice Ao43 t272.length co43 : Value).ownBlock ∧ some k_ ≠ (.slice Ao44 t275.length co44 : Value).ownBlock ∧ some k_ ≠ (.slice Ao118 t304.length co118 : Value).ownBlock ∧ some k_ ≠ (.slice Ao127 t314.length co127 : Value).ownBlock ∧ some k_ ≠ (.slice Ao128 t317.length co128 : Value).ownBlock) (.slice Ao119 t307.length co119) t307) := ⟨(by rw [hw]; exact (by (with_reducible repeat (first | apply Kd.R_alloc | apply Kd.R_drewN | apply Kd.R_drew)); exact Kd.R_mono (Fix.R_far6 (g := gb323) (Kd.R_types HO309.out BK323.out (by decide)) (fun _ hk => hk.2) _ _ _ _ _ _) (fun _ hk => ⟨hk.1.1.1.1.1.1.1.1.2, ⟨hk.1.1.1.1.1.1.1.2, ⟨hk.1.1.1.1.1.1.2, ⟨hk.1.1.1.1.1.2, ⟨hk.1.1.1.1.2, ⟨hk.1.1.1.2, ⟨hk.1.1.1.1.1.1.1.1.1, ⟨hk.1.1.2, hk.1.2⟩⟩⟩⟩⟩⟩⟩⟩)))⟩; have n8_ : Aside0 (Kd.Q (Kd.int .i64) 3 w129 w.heap.size (fun k_ => some k_ ≠ (.slice Ao24 t249.length co24 : Value).ownBlock ∧ some k_ ≠ (.slice Ao25 t252.length co25 : Value).ownBlock ∧ some k_ ≠ (.slice Ao33 t295.length co33 : Value).ownBlock ∧ some k_ ≠ (.slice Ao34 t296.length co34 : Value).ownBlock ∧ some k_ ≠ (.slice Ao43 t272.length co43 : Value).ownBlock ∧ some k_ ≠ (.slice Ao44 t275.length co44 : Value).ownBlock ∧ some k_ ≠ (.slice Ao118 t304.length co118 : Value).ownBlock ∧ some k_ ≠ (.slice Ao119 t307.length co119 : Value).ownBlock ∧ some k_ ≠ (.slice Ao128 t317.length co128 : Value).ownBlock) (.slice Ao127 t314.length co127) t314) := ⟨(by rw [hw]; exact (by (with_reducible repeat (first | apply Kd.Q_alloc | apply Kd.Q_drewN | apply Kd.Q_drew)); exact Kd.Q_mono (Fix.Q_far6 (g := gb323) (Kd.Q_types HO316.out BK323.out (by decide)) (fun _ hk => hk.2) _ _ _ _ _ _) (fun _ hk => ⟨hk.1.1.1.1.1.1.1.1.2, ⟨hk.1.1.1.1.1.1.1.2, ⟨hk.1.1.1.1.1.1.2, ⟨hk.1.1.1.1.1.2, ⟨hk.1.1.1.1.2, ⟨hk.1.1.1.2, ⟨hk.1.1.2, ⟨hk.1.2, hk.1.1.1.1.1.1.1.1.1⟩⟩⟩⟩⟩⟩⟩⟩)))⟩; have n9_ : Aside0 (Kd.R (Kd.int .i64) 3 w129 w.heap.size (fun k_ => some k_ ≠ (.slice Ao24 t249.length co24 : Value).ownBlock ∧ some k_ ≠ (.slice Ao25 t252.length co25 : Value).ownBlock ∧ some k_ ≠ (.slice Ao33 t295.length co33 : Value).ownBlock ∧ some k_ ≠ (.slice Ao34 t296.length co34 : Value).ownBlock ∧ some k_ ≠ (.slice Ao43 t272.length co43 : Value).ownBlock ∧ some k_ ≠ (.slice Ao44 t275.length co44 : Value).ownBlock ∧ some k_ ≠ (.slice Ao118 t304.length co118 : Value).ownBlock ∧ some k_ ≠ (.slice Ao119 t307.length co119 : Value).ownBlock ∧ some k_ ≠ (.slice Ao127 t314.length co127 : Value).ownBlock) (.slice Ao128 t317.length co128) t317) := ⟨(by rw [hw]; exact (by (with_reducible repeat (first | apply Kd.R_alloc | apply Kd.R_drewN | apply Kd.R_drew)); exact Kd.R_mono (Fix.R_far6 (g := gb323) (Kd.R_types HO319.out BK323.out (by decide)) (fun _ hk => hk.2) _ _ _ _ _ _) (fun _ hk => ⟨hk.1.1.1.1.1.1.1.1.2, ⟨hk.1.1.1.1.1.1.1.2, ⟨hk.1.1.1.1.1.1.2, ⟨hk.1.1.1.1.1.2, ⟨hk.1.1.1.1.2, ⟨hk.1.1.1.2, ⟨hk.1.1.2, ⟨hk.1.2, hk.1.1.1.1.1.1.1.1.1⟩⟩⟩⟩⟩⟩⟩⟩)))⟩; have n10_ : Aside0 (w129.heap[gb235]? = some (.cells #[.int .i64 a0_0, .int .i64 a0_1, .slice A0_2 l0_2.length c0_2, .slice A0_3 l0_3.length c0_3, .int .i64 a0_4, .bool a0_5] 38 (0, 0))) := ⟨(by rw [hw]; exact (by (with_reducible repeat (first | refine Fix.kN ?_ _ | refine Fix.kD ?_ | refine Fix.kA ?_ _)); refine Fix.far6 ?_ NB235_323.out _ _ _ _ _ _; (with_reducible repeat (first | refine Fix.kN ?_ _ | refine Fix.kD ?_ | refine Fix.kA ?_ _)); exact BK235.out))⟩; have n11_ : Aside0 (w129.heap[gb258]? = some (.cells #[.int .i64 t247, .int .i64 t248, .slice Ao24 t249.length co24, .slice Ao25 t252.length co25, .int .i64 t255, .bool t256] 28 (0, 0))) := ⟨(by rw [hw]; exact (by (with_reducible repeat (first | refine Fix.kN ?_ _ | refine Fix.kD ?_ | refine Fix.kA ?_ _)); refine Fix.far6 ?_ NB258_323.out _ _ _ _ _ _; (with_reducible repeat (first | refine Fix.kN ?_ _ | refine Fix.kD ?_ | refine Fix.kA ?_ _)); exact BK258.out))⟩; have n12_ : Aside0 (w129.heap[gb269]? = some (.cells #[.int .i64 t259, .int .i64 t260, .slice Ao33 t295.length co33, .slice Ao34 t296.length co34, .int .i64 t267, .bool t268] 28 (0, 0))) := ⟨(by rw [hw]; exact (by (with_reducible repeat (first | refine Fix.kN ?_ _ | refine Fix.kD ?_ | refine Fix.kA ?_ _)); refine Fix.far6 ?_ NB269_323.out _ _ _ _ _ _; (with_reducible repeat (first | refine Fix.kN ?_ _ | refine Fix.kD ?_ | refine Fix.kA ?_ _)); exact BK269.out))⟩; have n13_ : Aside0 (w129.heap[gb281]? = some (.cells #[.int .i64 t270, .int .i64 t271, .slice Ao43 t272.length co43, .slice Ao44 t275.length co44, .int .i64 t278, .bool t279] 28 (0, 0))) := ⟨(by rw [hw]; exact (by (with_reducible repeat (first | refine Fix.kN ?_ _ | refine Fix.kD ?_ | refine Fix.kA ?_ _)); refine Fix.far6 ?_ NB281_323.out _ _ _ _ _ _; (with_reducible repeat (first | refine Fix.kN ?_ _ | refine Fix.kD ?_ | refine Fix.kA ?_ _)); exact BK281.out))⟩; have n14_ : Aside0 (w129.heap[gb323]? = some (.cells #[.int .i64 t312, .int .i64 t313, .slice Ao127 t314.length co127, .slice Ao128 t317.length co128, .int .i64 t320, .bool t321] 28 (0, 0))) := ⟨(by rw [hw]; exact (by (with_reducible repeat (first | refine Fix.kN ?_ _ | refine Fix.kD ?_ | refine Fix.kA ?_ _)); apply Fix.put6; (with_reducible repeat (first | refine Fix.kN ?_ _ | refine Fix.kD ?_ | refine Fix.kA ?_ _)); exact BK323.out))⟩; have n15_ : Aside0 (Below w.heap.size w w129) := ⟨(by rw [hw]; exact (by repeat (first | (with_reducible first | exact HB.out | apply Fix.bA | apply Fix.bN | apply Fix.b1 | refine below_set ?_ GE235.out | refine below_set ?_ GE258.out | refine below_set ?_ GE269.out | refine below_set ?_ GE281.out | refine below_set ?_ GE323.out) | exact HB.out)))⟩; clear hw; clear HO_259002; clear HO_259003; clear HO_270002; clear HO_270003; clear HO_282002; clear HO_282003; clear HO306; clear HO309; clear HO316; clear HO319; clear BK235; clear BK258; clear BK269; clear BK281; clear BK323; clear HB; have HO_259002 := n0_; have HO_259003 := n1_; have HO_270002 := n2_; have HO_270003 := n3_; have HO_282002 := n4_; have HO_282003 := n5_; have HO306 := n6_; have HO309 := n7_; have HO316 := n8_; have HO319 := n9_; have BK235 := n10_; have BK258 := n11_; have BK269 := n12_; have BK281 := n13_; have BK323 := n14_; have HB := n15_; clear n0_ n1_ n2_ n3_ n4_ n5_ n6_ n7_ n8_ n9_ n10_ n11_ n12_ n13_ n14_ n15_))
                      (try simp only [Act.put, List.setIfInBounds_toArray, List.set_cons_zero, List.set_cons_succ])
                      go_cut [92] (fun v92 wc => ∃ (kq : Nat) (x92_105 : Bool), v92 = .bool x92_105 ∧ Aside0 (laws_FnExactLineStep.j2 kq t298 x92_105 t270 t271 t299 t300 t278 t279 = some r) ∧ Aside0 (kq ≤ kj68) ∧ Aside0 (Kd.Q (Kd.int .i64) 3 wc w.heap.size (fun k_ => some k_ ≠ ((.slice Ao25 t252.length co25) : Value).ownBlock ∧ some k_ ≠ ((.slice Ao33 t295.length co33) : Value).ownBlock ∧ some k_ ≠ ((.slice Ao34 t296.length co34) : Value).ownBlock ∧ some k_ ≠ ((.slice Ao43 t272.length co43) : Value).ownBlock ∧ some k_ ≠ ((.slice Ao44 t275.length co44) : Value).ownBlock ∧ some k_ ≠ ((.slice Ao127 t314.length co127) : Value).ownBlock ∧ some k_ ≠ ((.slice Ao128 t317.length co128) : Value).ownBlock) (.slice Ao24 t249.length co24) t249) ∧ Aside0 (Kd.R (Kd.int .i64) 3 wc w.heap.size (fun k_ => some k_ ≠ ((.slice Ao24 t249.length co24) : Value).ownBlock ∧ some k_ ≠ ((.slice Ao33 t295.length co33) : Value).ownBlock ∧ some k_ ≠ ((.slice Ao34 t296.length co34) : Value).ownBlock ∧ some k_ ≠ ((.slice Ao43 t272.length co43) : Value).ownBlock ∧ some k_ ≠ ((.slice Ao44 t275.length co44) : Value).ownBlock ∧ some k_ ≠ ((.slice Ao127 t314.length co127) : Value).ownBlock ∧ some k_ ≠ ((.slice Ao128 t317.length co128) : Value).ownBlock) (.slice Ao25 t252.length co25) t252) ∧ Aside0 (Kd.Q (Kd.int .i64) 3 wc w.heap.size (fun k_ => some k_ ≠ ((.slice Ao24 t249.length co24) : Value).ownBlock ∧ some k_ ≠ ((.slice Ao25 t252.length co25) : Value).ownBlock ∧ some k_ ≠ ((.slice Ao34 t296.length co34) : Value).ownBlock ∧ some k_ ≠ ((.slice Ao43 t272.length co43) : Value).ownBlock ∧ some k_ ≠ ((.slice Ao44 t275.length co44) : Value).ownBlock ∧ some k_ ≠ ((.slice Ao127 t314.length co127) : Value).ownBlock ∧ some k_ ≠ ((.slice Ao128 t317.length co128) : Value).ownBlock) (.slice Ao33 t295.length co33) t295) ∧ Aside0 (Kd.Q (Kd.int .i64) 3 wc w.heap.size (fun k_ => some k_ ≠ ((.slice Ao24 t249.length co24) : Value).ownBlock ∧ some k_ ≠ ((.slice Ao25 t252.length co25) : Value).ownBlock ∧ some k_ ≠ ((.slice Ao33 t295.length co33) : Value).ownBlock ∧ some k_ ≠ ((.slice Ao43 t272.length co43) : Value).ownBlock ∧ some k_ ≠ ((.slice Ao44 t275.length co44) : Value).ownBlock ∧ some k_ ≠ ((.slice Ao127 t314.length co127) : Value).ownBlock ∧ some k_ ≠ ((.slice Ao128 t317.length co128) : Value).ownBlock) (.slice Ao34 t296.length co34) t296) ∧ Aside0 (Kd.Q (Kd.int .i64) 3 wc w.heap.size (fun k_ => some k_ ≠ ((.slice Ao24 t249.length co24) : Value).ownBlock ∧ some k_ ≠ ((.slice Ao25 t252.length co25) : Value).ownBlock ∧ some k_ ≠ ((.slice Ao33 t295.length co33) : Value).ownBlock ∧ some k_ ≠ ((.slice Ao34 t296.length co34) : Value).ownBlock ∧ some k_ ≠ ((.slice Ao44 t275.length co44) : Value).ownBlock ∧ some k_ ≠ ((.slice Ao127 t314.length co127) : Value).ownBlock ∧ some k_ ≠ ((.slice Ao128 t317.length co128) : Value).ownBlock) (.slice Ao43 t272.length co43) t299) ∧ Aside0 (Kd.Q (Kd.int .i64) 3 wc w.heap.size (fun k_ => some k_ ≠ ((.slice Ao24 t249.length co24) : Value).ownBlock ∧ some k_ ≠ ((.slice Ao25 t252.length co25) : Value).ownBlock ∧ some k_ ≠ ((.slice Ao33 t295.length co33) : Value).ownBlock ∧ some k_ ≠ ((.slice Ao34 t296.length co34) : Value).ownBlock ∧ some k_ ≠ ((.slice Ao43 t272.length co43) : Value).ownBlock ∧ some k_ ≠ ((.slice Ao127 t314.length co127) : Value).ownBlock ∧ some k_ ≠ ((.slice Ao128 t317.length co128) : Value).ownBlock) (.slice Ao44 t275.length co44) t300) ∧ Aside0 (Kd.Q (Kd.int .i64) 3 wc w.heap.size (fun k_ => some k_ ≠ ((.slice Ao24 t249.length co24) : Value).ownBlock ∧ some k_ ≠ ((.slice Ao25 t252.length co25) : Value).ownBlock ∧ some k_ ≠ ((.slice Ao33 t295.length co33) : Value).ownBlock ∧ some k_ ≠ ((.slice Ao34 t296.length co34) : Value).ownBlock ∧ some k_ ≠ ((.slice Ao43 t272.length co43) : Value).ownBlock ∧ some k_ ≠ ((.slice Ao44 t275.length co44) : Value).ownBlock ∧ some k_ ≠ ((.slice Ao128 t317.length co128) : Value).ownBlock) (.slice Ao127 t314.length co127) t314) ∧ Aside0 (Kd.R (Kd.int .i64) 3 wc w.heap.size (fun k_ => some k_ ≠ ((.slice Ao24 t249.length co24) : Value).ownBlock ∧ some k_ ≠ ((.slice Ao25 t252.length co25) : Value).ownBlock ∧ some k_ ≠ ((.slice Ao33 t295.length co33) : Value).ownBlock ∧ some k_ ≠ ((.slice Ao34 t296.length co34) : Value).ownBlock ∧ some k_ ≠ ((.slice Ao43 t272.length co43) : Value).ownBlock ∧ some k_ ≠ ((.slice Ao44 t275.length co44) : Value).ownBlock ∧ some k_ ≠ ((.slice Ao127 t314.length co127) : Value).ownBlock) (.slice Ao128 t317.length co128) t317) ∧ Aside0 (wc.heap[gb235]? = some (.cells #[.int .i64 a0_0, .int .i64 a0_1, (.slice A0_2 l0_2.length c0_2), (.slice A0_3 l0_3.length c0_3), .int .i64 a0_4, .bool a0_5] 38 (0, 0))) ∧ Aside0 (wc.heap[gb258]? = some (.cells #[.int .i64 t247, .int .i64 t248, (.slice Ao24 t249.length co24), (.slice Ao25 t252.length co25), .int .i64 t255, .bool t256] 28 (0, 0))) ∧ Aside0 (wc.heap[gb269]? = some (.cells #[.int .i64 t259, .int .i64 t260, (.slice Ao33 t295.length co33), (.slice Ao34 t296.length co34), .int .i64 t267, .bool t268] 28 (0, 0))) ∧ Aside0 (wc.heap[gb281]? = some (.cells #[.int .i64 t270, .int .i64 t271, (.slice Ao43 t272.length co43), (.slice Ao44 t275.length co44), .int .i64 t278, .bool t279] 28 (0, 0))) ∧ Aside0 (wc.heap[gb323]? = some (.cells #[.int .i64 t312, .int .i64 t313, (.slice Ao127 t314.length co127), (.slice Ao128 t317.length co128), .int .i64 t320, .bool t321] 28 (0, 0))) ∧ Aside0 (Below w.heap.size w wc))
                      case first =>
                        have H := HC106.out
                        clear HC106
                        replace H := Option.bind_eq_some_iff.mp H
                        obtain ⟨t324, A1300, H⟩ := H
                        replace H : (if t324 = true then (laws_FnExactLineStep.j2 kj68 t298 (t322 != t257) t270 t271 t299 t300 t278 t279) else (laws_FnExactLineStep.j2 kj68 t298 true t270 t271 t299 t300 t278 t279)) = some r := H
                        have A130 := Aside0.mk A1300
                        clear A1300
                        by_cases c131 : t324 = true
                        · subst c131
                          have H1 : (laws_FnExactLineStep.j2 kj68 t298 (t322 != t257) t270 t271 t299 t300 t278 t279) = some r := by rw [if_pos rfl] at H; exact H
                          clear H
                          have H := H1
                          clear H1
                          have H' := Aside0.mk H
                          clear H
                          have hnb132 := NB323_235.out
                          have hnc132 := NB235_323.out
                          have hnb133 := NB323_258.out
                          have hnc133 := NB258_323.out
                          have hnb134 := NB323_269.out
                          have hnc134 := NB269_323.out
                          have hnb135 := NB323_281.out
                          have hnc135 := NB281_323.out
                          obtain ⟨hcz136_0, hcz136_1, hcz136_2, hcz136_3, hcz136_4, hcz136_5, hfz136_0, hfz136_1, hfz136_2, hfz136_3, hfz136_4, hfz136_5⟩ := Fix.d6 BK323.out
                          have hnb137 := NB258_235.out
                          have hnc137 := NB235_258.out
                          have hnb138 := NB258_269.out
                          have hnc138 := NB269_258.out
                          have hnb139 := NB258_281.out
                          have hnc139 := NB281_258.out
                          obtain ⟨hcz140_0, hcz140_1, hcz140_2, hcz140_3, hcz140_4, hcz140_5, hfz140_0, hfz140_1, hfz140_2, hfz140_3, hfz140_4, hfz140_5⟩ := Fix.d6 BK258.out
                          go_wp2_with (first | ((with_reducible refine gate_callee (f := 19) rfl ?_); refine goesL_ (some 86) rfl rfl Try.func19 (by kernel_rfl) rfl #[.agg #[.int .i64 t312, .int .i64 t313, .slice Ao127 t314.length co127, .slice Ao128 t317.length co128, .int .i64 t320, .bool t321], .agg #[.int .i64 t247, .int .i64 t248, .slice Ao24 t249.length co24, .slice Ao25 t252.length co25, .int .i64 t255, .bool t256]] rfl (by (try simp only [List.map_toArray, List.map_cons, List.map_nil]); first | done | rfl | (simp only [List.length_drop, List.length_take]; rfl)) ?_; (with_reducible refine (laws_eqLine.calls kj68 t312 t313 _ _ t314 _ _ t317 t320 t321 t247 t248 _ _ t249 _ _ t252 t255 t256 true _ ?side1 ?side2 ?side3 ?side4 ?side5 ?side6 ?side7 ?side8 A130.out).mono ?_); (case side1 => repeat (first | exact (Kd.Q_reads' HO316.out).2.2 | (with_reducible refine Kd.C_alloc ?_ _) | (with_reducible refine Kd.C_drewN ?_ _) | (with_reducible refine Kd.C_drew ?_))); (case side2 => exact (Kd.Q_reads' HO316.out).2.1); (case side3 => repeat (first | exact (Kd.R_reads' HO319.out).2.2 | (with_reducible refine Kd.C_alloc ?_ _) | (with_reducible refine Kd.C_drewN ?_ _) | (with_reducible refine Kd.C_drew ?_))); (case side4 => exact (Kd.R_reads' HO319.out).2.1); (case side5 => repeat (first | exact (Kd.Q_reads' HO_259002.out).2.2 | (with_reducible refine Kd.C_alloc ?_ _) | (with_reducible refine Kd.C_drewN ?_ _) | (with_reducible refine Kd.C_drew ?_))); (case side6 => exact (Kd.Q_reads' HO_259002.out).2.1); (case side7 => repeat (first | exact (Kd.R_reads' HO_259003.out).2.2 | (with_reducible refine Kd.C_alloc ?_ _) | (with_reducible refine Kd.C_drewN ?_ _) | (with_reducible refine Kd.C_drew ?_))); (case side8 => exact (Kd.R_reads' HO_259003.out).2.1); rintro e w141 ⟨rfl, hb⟩; refine ⟨_, rfl, ?_⟩; have n0_ := Aside0.mk (Kd.Q_below (by (with_reducible repeat (first | apply Kd.Q_alloc | apply Kd.Q_drewN | apply Kd.Q_drew)); exact HO_259002.out) hb); have n1_ := Aside0.mk (Kd.R_below (by (with_reducible repeat (first | apply Kd.R_alloc | apply Kd.R_drewN | apply Kd.R_drew)); exact HO_259003.out) hb); have n2_ := Aside0.mk (Kd.Q_below (by (with_reducible repeat (first | apply Kd.Q_alloc | apply Kd.Q_drewN | apply Kd.Q_drew)); exact HO_270002.out) hb); have n3_ := Aside0.mk (Kd.Q_below (by (with_reducible repeat (first | apply Kd.Q_alloc | apply Kd.Q_drewN | apply Kd.Q_drew)); exact HO_270003.out) hb); have n4_ := Aside0.mk (Kd.Q_below (by (with_reducible repeat (first | apply Kd.Q_alloc | apply Kd.Q_drewN | apply Kd.Q_drew)); exact HO_282002.out) hb); have n5_ := Aside0.mk (Kd.Q_below (by (with_reducible repeat (first | apply Kd.Q_alloc | apply Kd.Q_drewN | apply Kd.Q_drew)); exact HO_282003.out) hb); have n6_ := Aside0.mk (Kd.R_below (by (with_reducible repeat (first | apply Kd.R_alloc | apply Kd.R_drewN | apply Kd.R_drew)); exact HO306.out) hb); have n7_ := Aside0.mk (Kd.R_below (by (with_reducible repeat (first | apply Kd.R_alloc | apply Kd.R_drewN | apply Kd.R_drew)); exact HO309.out) hb); have n8_ := Aside0.mk (Kd.Q_below (by (with_reducible repeat (first | apply Kd.Q_alloc | apply Kd.Q_drewN | apply Kd.Q_drew)); exact HO316.out) hb); have n9_ := Aside0.mk (Kd.R_below (by (with_reducible repeat (first | apply Kd.R_alloc | apply Kd.R_drewN | apply Kd.R_drew)); exact HO319.out) hb); have n10_ := Aside0.mk (blk_below (g := gb235) (o := .cells #[.int .i64 a0_0, .int .i64 a0_1, .slice A0_2 l0_2.length c0_2, .slice A0_3 l0_3.length c0_3, .int .i64 a0_4, .bool a0_5] 38 (0, 0)) (by (with_reducible repeat (first | refine Fix.kN ?_ _ | refine Fix.kD ?_ | refine Fix.kA ?_ _)); exact BK235.out) hb); have n11_ := Aside0.mk (blk_below (g := gb258) (o := .cells #[.int .i64 t247, .int .i64 t248, .slice Ao24 t249.length co24, .slice Ao25 t252.length co25, .int .i64 t255, .bool t256] 28 (0, 0)) (by (with_reducible repeat (first | refine Fix.kN ?_ _ | refine Fix.kD ?_ | refine Fix.kA ?_ _)); exact BK258.out) hb); have n12_ := Aside0.mk (blk_below (g := gb269) (o := .cells #[.int .i64 t259, .int .i64 t260, .slice Ao33 t295.length co33, .slice Ao34 t296.length co34, .int .i64 t267, .bool t268] 28 (0, 0)) (by (with_reducible repeat (first | refine Fix.kN ?_ _ | refine Fix.kD ?_ | refine Fix.kA ?_ _)); exact BK269.out) hb); have n13_ := Aside0.mk (blk_below (g := gb281) (o := .cells #[.int .i64 t270, .int .i64 t271, .slice Ao43 t272.length co43, .slice Ao44 t275.length co44, .int .i64 t278, .bool t279] 28 (0, 0)) (by (with_reducible repeat (first | refine Fix.kN ?_ _ | refine Fix.kD ?_ | refine Fix.kA ?_ _)); exact BK281.out) hb); have n14_ := Aside0.mk (blk_below (g := gb323) (o := .cells #[.int .i64 t312, .int .i64 t313, .slice Ao127 t314.length co127, .slice Ao128 t317.length co128, .int .i64 t320, .bool t321] 28 (0, 0)) (by (with_reducible repeat (first | refine Fix.kN ?_ _ | refine Fix.kD ?_ | refine Fix.kA ?_ _)); exact BK323.out) hb); have n15_ := Aside0.mk (below_step (by repeat (first | (with_reducible first | exact HB.out | apply Fix.bA | apply Fix.bN | apply Fix.b1 | refine below_set ?_ GE235.out | refine below_set ?_ GE258.out | refine below_set ?_ GE269.out | refine below_set ?_ GE281.out | refine below_set ?_ GE323.out) | exact HB.out)) hb); clear HO_259002; clear HO_259003; clear HO_270002; clear HO_270003; clear HO_282002; clear HO_282003; clear HO306; clear HO309; clear HO316; clear HO319; clear BK235; clear BK258; clear BK269; clear BK281; clear BK323; clear HB; have HO_259002 := n0_; have HO_259003 := n1_; have HO_270002 := n2_; have HO_270003 := n3_; have HO_282002 := n4_; have HO_282003 := n5_; have HO306 := n6_; have HO309 := n7_; have HO316 := n8_; have HO319 := n9_; have BK235 := n10_; have BK258 := n11_; have BK269 := n12_; have BK281 := n13_; have BK323 := n14_; have HB := n15_; clear n0_ n1_ n2_ n3_ n4_ n5_ n6_ n7_ n8_ n9_ n10_ n11_ n12_ n13_ n14_ n15_; (try clear hb); (try clear hb2); (try clear hk); (try clear hi)))
                          go_meet
                          case rel => exact ⟨_, ((t322 != t257)), (by first | rfl | (simp; done) | (simp [*]; done)), H', ⟨by have := HJ11.out; have := HJ68.out; first | omega | exact Nat.le_refl _⟩, ⟨by (try simp only [hl270002_68]); (try simp only [hl270003_68]); (with_reducible repeat (first | apply Kd.Q_alloc | apply Kd.Q_drewN | apply Kd.Q_drew)); exact Kd.Q_mono HO_259002.out (fun _ hk => ⟨hk.1, ⟨hk.2.1, ⟨hk.2.2.1, ⟨hk.2.2.2.1, ⟨hk.2.2.2.2.1, ⟨hk.2.2.2.2.2.2.2.1, hk.2.2.2.2.2.2.2.2⟩⟩⟩⟩⟩⟩)⟩, ⟨by (try simp only [hl270002_68]); (try simp only [hl270003_68]); (with_reducible repeat (first | apply Kd.R_alloc | apply Kd.R_drewN | apply Kd.R_drew)); exact Kd.R_mono HO_259003.out (fun _ hk => ⟨hk.1, ⟨hk.2.1, ⟨hk.2.2.1, ⟨hk.2.2.2.1, ⟨hk.2.2.2.2.1, ⟨hk.2.2.2.2.2.2.2.1, hk.2.2.2.2.2.2.2.2⟩⟩⟩⟩⟩⟩)⟩, ⟨by (try simp only [hl270002_68]); (try simp only [hl270003_68]); (with_reducible repeat (first | apply Kd.Q_alloc | apply Kd.Q_drewN | apply Kd.Q_drew)); exact Kd.Q_mono HO_270002.out (fun _ hk => ⟨hk.1, ⟨hk.2.1, ⟨hk.2.2.1, ⟨hk.2.2.2.1, ⟨hk.2.2.2.2.1, ⟨hk.2.2.2.2.2.2.2.1, hk.2.2.2.2.2.2.2.2⟩⟩⟩⟩⟩⟩)⟩, ⟨by (try simp only [hl270002_68]); (try simp only [hl270003_68]); (with_reducible repeat (first | apply Kd.Q_alloc | apply Kd.Q_drewN | apply Kd.Q_drew)); exact Kd.Q_mono HO_270003.out (fun _ hk => ⟨hk.1, ⟨hk.2.1, ⟨hk.2.2.1, ⟨hk.2.2.2.1, ⟨hk.2.2.2.2.1, ⟨hk.2.2.2.2.2.2.2.1, hk.2.2.2.2.2.2.2.2⟩⟩⟩⟩⟩⟩)⟩, ⟨by (try simp only [hl270002_68]); (try simp only [hl270003_68]); (with_reducible repeat (first | apply Kd.Q_alloc | apply Kd.Q_drewN | apply Kd.Q_drew)); exact Kd.Q_mono HO_282002.out (fun _ hk => ⟨hk.1, ⟨hk.2.1, ⟨hk.2.2.1, ⟨hk.2.2.2.1, ⟨hk.2.2.2.2.1, ⟨hk.2.2.2.2.2.2.2.1, hk.2.2.2.2.2.2.2.2⟩⟩⟩⟩⟩⟩)⟩, ⟨by (try simp only [hl270002_68]); (try simp only [hl270003_68]); (with_reducible repeat (first | apply Kd.Q_alloc | apply Kd.Q_drewN | apply Kd.Q_drew)); exact Kd.Q_mono HO_282003.out (fun _ hk => ⟨hk.1, ⟨hk.2.1, ⟨hk.2.2.1, ⟨hk.2.2.2.1, ⟨hk.2.2.2.2.1, ⟨hk.2.2.2.2.2.2.2.1, hk.2.2.2.2.2.2.2.2⟩⟩⟩⟩⟩⟩)⟩, ⟨by (try simp only [hl270002_68]); (try simp only [hl270003_68]); (with_reducible repeat (first | apply Kd.Q_alloc | apply Kd.Q_drewN | apply Kd.Q_drew)); exact Kd.Q_mono HO316.out (fun _ hk => ⟨hk.1, ⟨hk.2.1, ⟨hk.2.2.1, ⟨hk.2.2.2.1, ⟨hk.2.2.2.2.1, ⟨hk.2.2.2.2.2.1, hk.2.2.2.2.2.2.2.2⟩⟩⟩⟩⟩⟩)⟩, ⟨by (try simp only [hl270002_68]); (try simp only [hl270003_68]); (with_reducible repeat (first | apply Kd.R_alloc | apply Kd.R_drewN | apply Kd.R_drew)); exact Kd.R_mono HO319.out (fun _ hk => ⟨hk.1, ⟨hk.2.1, ⟨hk.2.2.1, ⟨hk.2.2.2.1, ⟨hk.2.2.2.2.1, ⟨hk.2.2.2.2.2.1, hk.2.2.2.2.2.2.2.2⟩⟩⟩⟩⟩⟩)⟩, ⟨by (try simp only [hl270002_68]); (try simp only [hl270003_68]); (with_reducible repeat (first | refine Fix.kN ?_ _ | refine Fix.kD ?_ | refine Fix.kA ?_ _)); exact BK235.out⟩, ⟨by (try simp only [hl270002_68]); (try simp only [hl270003_68]); (with_reducible repeat (first | refine Fix.kN ?_ _ | refine Fix.kD ?_ | refine Fix.kA ?_ _)); exact BK258.out⟩, ⟨by (try simp only [hl270002_68]); (try simp only [hl270003_68]); (with_reducible repeat (first | refine Fix.kN ?_ _ | refine Fix.kD ?_ | refine Fix.kA ?_ _)); exact BK269.out⟩, ⟨by (try simp only [hl270002_68]); (try simp only [hl270003_68]); (with_reducible repeat (first | refine Fix.kN ?_ _ | refine Fix.kD ?_ | refine Fix.kA ?_ _)); exact BK281.out⟩, ⟨by (try simp only [hl270002_68]); (try simp only [hl270003_68]); (with_reducible repeat (first | refine Fix.kN ?_ _ | refine Fix.kD ?_ | refine Fix.kA ?_ _)); exact BK323.out⟩, ⟨by repeat (first | (with_reducible first | exact HB.out | apply Fix.bA | apply Fix.bN | apply Fix.b1 | refine below_set ?_ GE235.out | refine below_set ?_ GE258.out | refine below_set ?_ GE269.out | refine below_set ?_ GE281.out | refine below_set ?_ GE323.out) | exact HB.out)⟩⟩
                        · replace c131 := Bool.eq_false_iff.mpr c131
                          subst c131
                          have H1 : (laws_FnExactLineStep.j2 kj68 t298 true t270 t271 t299 t300 t278 t279) = some r := by rw [if_neg (show ¬ (false = true) by decide)] at H; exact H
                          clear H
                          have H := H1
                          clear H1
                          have H' := Aside0.mk H
                          clear H
                          have hnb142 := NB323_235.out
                          have hnc142 := NB235_323.out
                          have hnb143 := NB323_258.out
                          have hnc143 := NB258_323.out
                          have hnb144 := NB323_269.out
                          have hnc144 := NB269_323.out
                          have hnb145 := NB323_281.out
                          have hnc145 := NB281_323.out
                          obtain ⟨hcz146_0, hcz146_1, hcz146_2, hcz146_3, hcz146_4, hcz146_5, hfz146_0, hfz146_1, hfz146_2, hfz146_3, hfz146_4, hfz146_5⟩ := Fix.d6 BK323.out
                          have hnb147 := NB258_235.out
                          have hnc147 := NB235_258.out
                          have hnb148 := NB258_269.out
                          have hnc148 := NB269_258.out
                          have hnb149 := NB258_281.out
                          have hnc149 := NB281_258.out
                          obtain ⟨hcz150_0, hcz150_1, hcz150_2, hcz150_3, hcz150_4, hcz150_5, hfz150_0, hfz150_1, hfz150_2, hfz150_3, hfz150_4, hfz150_5⟩ := Fix.d6 BK258.out
                          go_wp2_with (first | ((with_reducible refine gate_callee (f := 19) rfl ?_); refine goesL_ (some 86) rfl rfl Try.func19 (by kernel_rfl) rfl #[.agg #[.int .i64 t312, .int .i64 t313, .slice Ao127 t314.length co127, .slice Ao128 t317.length co128, .int .i64 t320, .bool t321], .agg #[.int .i64 t247, .int .i64 t248, .slice Ao24 t249.length co24, .slice Ao25 t252.length co25, .int .i64 t255, .bool t256]] rfl (by (try simp only [List.map_toArray, List.map_cons, List.map_nil]); first | done | rfl | (simp only [List.length_drop, List.length_take]; rfl)) ?_; (with_reducible refine (laws_eqLine.calls kj68 t312 t313 _ _ t314 _ _ t317 t320 t321 t247 t248 _ _ t249 _ _ t252 t255 t256 false _ ?side1 ?side2 ?side3 ?side4 ?side5 ?side6 ?side7 ?side8 A130.out).mono ?_); (case side1 => repeat (first | exact (Kd.Q_reads' HO316.out).2.2 | (with_reducible refine Kd.C_alloc ?_ _) | (with_reducible refine Kd.C_drewN ?_ _) | (with_reducible refine Kd.C_drew ?_))); (case side2 => exact (Kd.Q_reads' HO316.out).2.1); (case side3 => repeat (first | exact (Kd.R_reads' HO319.out).2.2 | (with_reducible refine Kd.C_alloc ?_ _) | (with_reducible refine Kd.C_drewN ?_ _) | (with_reducible refine Kd.C_drew ?_))); (case side4 => exact (Kd.R_reads' HO319.out).2.1); (case side5 => repeat (first | exact (Kd.Q_reads' HO_259002.out).2.2 | (with_reducible refine Kd.C_alloc ?_ _) | (with_reducible refine Kd.C_drewN ?_ _) | (with_reducible refine Kd.C_drew ?_))); (case side6 => exact (Kd.Q_reads' HO_259002.out).2.1); (case side7 => repeat (first | exact (Kd.R_reads' HO_259003.out).2.2 | (with_reducible refine Kd.C_alloc ?_ _) | (with_reducible refine Kd.C_drewN ?_ _) | (with_reducible refine Kd.C_drew ?_))); (case side8 => exact (Kd.R_reads' HO_259003.out).2.1); rintro e w151 ⟨rfl, hb⟩; refine ⟨_, rfl, ?_⟩; have n0_ := Aside0.mk (Kd.Q_below (by (with_reducible repeat (first | apply Kd.Q_alloc | apply Kd.Q_drewN | apply Kd.Q_drew)); exact HO_259002.out) hb); have n1_ := Aside0.mk (Kd.R_below (by (with_reducible repeat (first | apply Kd.R_alloc | apply Kd.R_drewN | apply Kd.R_drew)); exact HO_259003.out) hb); have n2_ := Aside0.mk (Kd.Q_below (by (with_reducible repeat (first | apply Kd.Q_alloc | apply Kd.Q_drewN | apply Kd.Q_drew)); exact HO_270002.out) hb); have n3_ := Aside0.mk (Kd.Q_below (by (with_reducible repeat (first | apply Kd.Q_alloc | apply Kd.Q_drewN | apply Kd.Q_drew)); exact HO_270003.out) hb); have n4_ := Aside0.mk (Kd.Q_below (by (with_reducible repeat (first | apply Kd.Q_alloc | apply Kd.Q_drewN | apply Kd.Q_drew)); exact HO_282002.out) hb); have n5_ := Aside0.mk (Kd.Q_below (by (with_reducible repeat (first | apply Kd.Q_alloc | apply Kd.Q_drewN | apply Kd.Q_drew)); exact HO_282003.out) hb); have n6_ := Aside0.mk (Kd.R_below (by (with_reducible repeat (first | apply Kd.R_alloc | apply Kd.R_drewN | apply Kd.R_drew)); exact HO306.out) hb); have n7_ := Aside0.mk (Kd.R_below (by (with_reducible repeat (first | apply Kd.R_alloc | apply Kd.R_drewN | apply Kd.R_drew)); exact HO309.out) hb); have n8_ := Aside0.mk (Kd.Q_below (by (with_reducible repeat (first | apply Kd.Q_alloc | apply Kd.Q_drewN | apply Kd.Q_drew)); exact HO316.out) hb); have n9_ := Aside0.mk (Kd.R_below (by (with_reducible repeat (first | apply Kd.R_alloc | apply Kd.R_drewN | apply Kd.R_drew)); exact HO319.out) hb); have n10_ := Aside0.mk (blk_below (g := gb235) (o := .cells #[.int .i64 a0_0, .int .i64 a0_1, .slice A0_2 l0_2.length c0_2, .slice A0_3 l0_3.length c0_3, .int .i64 a0_4, .bool a0_5] 38 (0, 0)) (by (with_reducible repeat (first | refine Fix.kN ?_ _ | refine Fix.kD ?_ | refine Fix.kA ?_ _)); exact BK235.out) hb); have n11_ := Aside0.mk (blk_below (g := gb258) (o := .cells #[.int .i64 t247, .int .i64 t248, .slice Ao24 t249.length co24, .slice Ao25 t252.length co25, .int .i64 t255, .bool t256] 28 (0, 0)) (by (with_reducible repeat (first | refine Fix.kN ?_ _ | refine Fix.kD ?_ | refine Fix.kA ?_ _)); exact BK258.out) hb); have n12_ := Aside0.mk (blk_below (g := gb269) (o := .cells #[.int .i64 t259, .int .i64 t260, .slice Ao33 t295.length co33, .slice Ao34 t296.length co34, .int .i64 t267, .bool t268] 28 (0, 0)) (by (with_reducible repeat (first | refine Fix.kN ?_ _ | refine Fix.kD ?_ | refine Fix.kA ?_ _)); exact BK269.out) hb); have n13_ := Aside0.mk (blk_below (g := gb281) (o := .cells #[.int .i64 t270, .int .i64 t271, .slice Ao43 t272.length co43, .slice Ao44 t275.length co44, .int .i64 t278, .bool t279] 28 (0, 0)) (by (with_reducible repeat (first | refine Fix.kN ?_ _ | refine Fix.kD ?_ | refine Fix.kA ?_ _)); exact BK281.out) hb); have n14_ := Aside0.mk (blk_below (g := gb323) (o := .cells #[.int .i64 t312, .int .i64 t313, .slice Ao127 t314.length co127, .slice Ao128 t317.length co128, .int .i64 t320, .bool t321] 28 (0, 0)) (by (with_reducible repeat (first | refine Fix.kN ?_ _ | refine Fix.kD ?_ | refine Fix.kA ?_ _)); exact BK323.out) hb); have n15_ := Aside0.mk (below_step (by repeat (first | (with_reducible first | exact HB.out | apply Fix.bA | apply Fix.bN | apply Fix.b1 | refine below_set ?_ GE235.out | refine below_set ?_ GE258.out | refine below_set ?_ GE269.out | refine below_set ?_ GE281.out | refine below_set ?_ GE323.out) | exact HB.out)) hb); clear HO_259002; clear HO_259003; clear HO_270002; clear HO_270003; clear HO_282002; clear HO_282003; clear HO306; clear HO309; clear HO316; clear HO319; clear BK235; clear BK258; clear BK269; clear BK281; clear BK323; clear HB; have HO_259002 := n0_; have HO_259003 := n1_; have HO_270002 := n2_; have HO_270003 := n3_; have HO_282002 := n4_; have HO_282003 := n5_; have HO306 := n6_; have HO309 := n7_; have HO316 := n8_; have HO319 := n9_; have BK235 := n10_; have BK258 := n11_; have BK269 := n12_; have BK281 := n13_; have BK323 := n14_; have HB := n15_; clear n0_ n1_ n2_ n3_ n4_ n5_ n6_ n7_ n8_ n9_ n10_ n11_ n12_ n13_ n14_ n15_; (try clear hb); (try clear hb2); (try clear hk); (try clear hi)))
                          go_meet
                          case rel => exact ⟨_, (true), (by first | rfl | (simp; done) | (simp [*]; done)), H', ⟨by have := HJ11.out; have := HJ68.out; first | omega | exact Nat.le_refl _⟩, ⟨by (try simp only [hl270002_68]); (try simp only [hl270003_68]); (with_reducible repeat (first | apply Kd.Q_alloc | apply Kd.Q_drewN | apply Kd.Q_drew)); exact Kd.Q_mono HO_259002.out (fun _ hk => ⟨hk.1, ⟨hk.2.1, ⟨hk.2.2.1, ⟨hk.2.2.2.1, ⟨hk.2.2.2.2.1, ⟨hk.2.2.2.2.2.2.2.1, hk.2.2.2.2.2.2.2.2⟩⟩⟩⟩⟩⟩)⟩, ⟨by (try simp only [hl270002_68]); (try simp only [hl270003_68]); (with_reducible repeat (first | apply Kd.R_alloc | apply Kd.R_drewN | apply Kd.R_drew)); exact Kd.R_mono HO_259003.out (fun _ hk => ⟨hk.1, ⟨hk.2.1, ⟨hk.2.2.1, ⟨hk.2.2.2.1, ⟨hk.2.2.2.2.1, ⟨hk.2.2.2.2.2.2.2.1, hk.2.2.2.2.2.2.2.2⟩⟩⟩⟩⟩⟩)⟩, ⟨by (try simp only [hl270002_68]); (try simp only [hl270003_68]); (with_reducible repeat (first | apply Kd.Q_alloc | apply Kd.Q_drewN | apply Kd.Q_drew)); exact Kd.Q_mono HO_270002.out (fun _ hk => ⟨hk.1, ⟨hk.2.1, ⟨hk.2.2.1, ⟨hk.2.2.2.1, ⟨hk.2.2.2.2.1, ⟨hk.2.2.2.2.2.2.2.1, hk.2.2.2.2.2.2.2.2⟩⟩⟩⟩⟩⟩)⟩, ⟨by (try simp only [hl270002_68]); (try simp only [hl270003_68]); (with_reducible repeat (first | apply Kd.Q_alloc | apply Kd.Q_drewN | apply Kd.Q_drew)); exact Kd.Q_mono HO_270003.out (fun _ hk => ⟨hk.1, ⟨hk.2.1, ⟨hk.2.2.1, ⟨hk.2.2.2.1, ⟨hk.2.2.2.2.1, ⟨hk.2.2.2.2.2.2.2.1, hk.2.2.2.2.2.2.2.2⟩⟩⟩⟩⟩⟩)⟩, ⟨by (try simp only [hl270002_68]); (try simp only [hl270003_68]); (with_reducible repeat (first | apply Kd.Q_alloc | apply Kd.Q_drewN | apply Kd.Q_drew)); exact Kd.Q_mono HO_282002.out (fun _ hk => ⟨hk.1, ⟨hk.2.1, ⟨hk.2.2.1, ⟨hk.2.2.2.1, ⟨hk.2.2.2.2.1, ⟨hk.2.2.2.2.2.2.2.1, hk.2.2.2.2.2.2.2.2⟩⟩⟩⟩⟩⟩)⟩, ⟨by (try simp only [hl270002_68]); (try simp only [hl270003_68]); (with_reducible repeat (first | apply Kd.Q_alloc | apply Kd.Q_drewN | apply Kd.Q_drew)); exact Kd.Q_mono HO_282003.out (fun _ hk => ⟨hk.1, ⟨hk.2.1, ⟨hk.2.2.1, ⟨hk.2.2.2.1, ⟨hk.2.2.2.2.1, ⟨hk.2.2.2.2.2.2.2.1, hk.2.2.2.2.2.2.2.2⟩⟩⟩⟩⟩⟩)⟩, ⟨by (try simp only [hl270002_68]); (try simp only [hl270003_68]); (with_reducible repeat (first | apply Kd.Q_alloc | apply Kd.Q_drewN | apply Kd.Q_drew)); exact Kd.Q_mono HO316.out (fun _ hk => ⟨hk.1, ⟨hk.2.1, ⟨hk.2.2.1, ⟨hk.2.2.2.1, ⟨hk.2.2.2.2.1, ⟨hk.2.2.2.2.2.1, hk.2.2.2.2.2.2.2.2⟩⟩⟩⟩⟩⟩)⟩, ⟨by (try simp only [hl270002_68]); (try simp only [hl270003_68]); (with_reducible repeat (first | apply Kd.R_alloc | apply Kd.R_drewN | apply Kd.R_drew)); exact Kd.R_mono HO319.out (fun _ hk => ⟨hk.1, ⟨hk.2.1, ⟨hk.2.2.1, ⟨hk.2.2.2.1, ⟨hk.2.2.2.2.1, ⟨hk.2.2.2.2.2.1, hk.2.2.2.2.2.2.2.2⟩⟩⟩⟩⟩⟩)⟩, ⟨by (try simp only [hl270002_68]); (try simp only [hl270003_68]); (with_reducible repeat (first | refine Fix.kN ?_ _ | refine Fix.kD ?_ | refine Fix.kA ?_ _)); exact BK235.out⟩, ⟨by (try simp only [hl270002_68]); (try simp only [hl270003_68]); (with_reducible repeat (first | refine Fix.kN ?_ _ | refine Fix.kD ?_ | refine Fix.kA ?_ _)); exact BK258.out⟩, ⟨by (try simp only [hl270002_68]); (try simp only [hl270003_68]); (with_reducible repeat (first | refine Fix.kN ?_ _ | refine Fix.kD ?_ | refine Fix.kA ?_ _)); exact BK269.out⟩, ⟨by (try simp only [hl270002_68]); (try simp only [hl270003_68]); (with_reducible repeat (first | refine Fix.kN ?_ _ | refine Fix.kD ?_ | refine Fix.kA ?_ _)); exact BK281.out⟩, ⟨by (try simp only [hl270002_68]); (try simp only [hl270003_68]); (with_reducible repeat (first | refine Fix.kN ?_ _ | refine Fix.kD ?_ | refine Fix.kA ?_ _)); exact BK323.out⟩, ⟨by repeat (first | (with_reducible first | exact HB.out | apply Fix.bA | apply Fix.bN | apply Fix.b1 | refine below_set ?_ GE235.out | refine below_set ?_ GE258.out | refine below_set ?_ GE269.out | refine below_set ?_ GE281.out | refine below_set ?_ GE323.out) | exact HB.out)⟩⟩
                      case rest =>
                        clear HC106
                        try clear c1
                        try clear c2
                        try clear p2
                        try clear c3
                        try clear c4
                        try clear c4b0
                        try clear c5
                        try clear c6
                        try clear c7
                        try clear c8
                        try clear c9
                        try clear c10
                        try clear c11
                        try clear c12
                        try clear c13
                        try clear c14
                        try clear c19
                        try clear c20
                        try clear c21
                        try clear c22
                        try clear c24
                        try clear c26
                        try clear c28
                        try clear c30
                        try clear c31
                        try clear c39
                        try clear c40
                        try clear c41
                        try clear c47
                        try clear c48
                        try clear c49
                        try clear c50
                        try clear c52
                        try clear c53
                        try clear c56
                        try clear c57
                        try clear c58
                        try clear c60
                        try clear c61
                        try clear c64
                        try clear c67
                        try clear c75
                        try clear c76
                        try clear c77
                        try clear c80
                        try clear c80b0
                        try clear c82
                        try clear c83
                        try clear c84
                        try clear c85
                        try clear c87
                        try clear c88
                        try clear c91
                        try clear c92
                        try clear c93
                        try clear c95
                        try clear c96
                        try clear c99
                        try clear c102
                        try clear c102b0
                        try clear c103
                        try clear c103b0
                        try clear c103b1
                        try clear c107
                        try clear c108
                        try clear c109
                        try clear c114
                        try clear c115
                        try clear c122
                        try clear c123
                        try clear c124
                        try clear c125
                        try clear c131
                        try clear c132
                        try clear c133
                        try clear c134
                        try clear c135
                        try clear c137
                        try clear c138
                        try clear c139
                        try clear c142
                        try clear c143
                        try clear c144
                        try clear c145
                        try clear c147
                        try clear c148
                        try clear c149
                        try clear hcz110_0
                        try clear hcz110_1
                        try clear hcz110_2
                        try clear hcz110_3
                        try clear hcz110_4
                        try clear hcz110_5
                        try clear hcz112_0
                        try clear hcz112_1
                        try clear hcz112_2
                        try clear hcz112_3
                        try clear hcz112_4
                        try clear hcz112_5
                        try clear hcz116_0
                        try clear hcz116_1
                        try clear hcz116_2
                        try clear hcz116_3
                        try clear hcz116_4
                        try clear hcz116_5
                        try clear hcz126_0
                        try clear hcz126_1
                        try clear hcz126_2
                        try clear hcz126_3
                        try clear hcz126_4
                        try clear hcz126_5
                        try clear hcz136_0
                        try clear hcz136_1
                        try clear hcz136_2
                        try clear hcz136_3
                        try clear hcz136_4
                        try clear hcz136_5
                        try clear hcz140_0
                        try clear hcz140_1
                        try clear hcz140_2
                        try clear hcz140_3
                        try clear hcz140_4
                        try clear hcz140_5
                        try clear hcz146_0
                        try clear hcz146_1
                        try clear hcz146_2
                        try clear hcz146_3
                        try clear hcz146_4
                        try clear hcz146_5
                        try clear hcz14_0
                        try clear hcz14_1
                        try clear hcz14_2
                        try clear hcz14_3
                        try clear hcz14_4
                        try clear hcz14_5
                        try clear hcz150_0
                        try clear hcz150_1
                        try clear hcz150_2
                        try clear hcz150_3
                        try clear hcz150_4
                        try clear hcz150_5
                        try clear hcz16_0
                        try clear hcz16_1
                        try clear hcz16_2
                        try clear hcz16_3
                        try clear hcz16_4
                        try clear hcz16_5
                        try clear hcz23_0
                        try clear hcz23_1
                        try clear hcz23_2
                        try clear hcz23_3
                        try clear hcz23_4
                        try clear hcz23_5
                        try clear hcz27_0
                        try clear hcz27_1
                        try clear hcz27_2
                        try clear hcz27_3
                        try clear hcz27_4
                        try clear hcz27_5
                        try clear hcz32_0
                        try clear hcz32_1
                        try clear hcz32_2
                        try clear hcz32_3
                        try clear hcz32_4
                        try clear hcz32_5
                        try clear hcz36_0
                        try clear hcz36_1
                        try clear hcz36_2
                        try clear hcz36_3
                        try clear hcz36_4
                        try clear hcz36_5
                        try clear hcz42_0
                        try clear hcz42_1
                        try clear hcz42_2
                        try clear hcz42_3
                        try clear hcz42_4
                        try clear hcz42_5
                        try clear hcz51_0
                        try clear hcz51_1
                        try clear hcz51_2
                        try clear hcz51_3
                        try clear hcz51_4
                        try clear hcz51_5
                        try clear hcz54_0
                        try clear hcz54_1
                        try clear hcz54_2
                        try clear hcz54_3
                        try clear hcz54_4
                        try clear hcz54_5
                        try clear hcz59_0
                        try clear hcz59_1
                        try clear hcz59_2
                        try clear hcz59_3
                        try clear hcz59_4
                        try clear hcz59_5
                        try clear hcz62_0
                        try clear hcz62_1
                        try clear hcz62_2
                        try clear hcz62_3
                        try clear hcz62_4
                        try clear hcz62_5
                        try clear hcz6_0
                        try clear hcz6_1
                        try clear hcz6_2
                        try clear hcz6_3
                        try clear hcz6_4
                        try clear hcz6_5
                        try clear hcz78_0
                        try clear hcz78_1
                        try clear hcz78_2
                        try clear hcz78_3
                        try clear hcz78_4
                        try clear hcz78_5
                        try clear hcz86_0
                        try clear hcz86_1
                        try clear hcz86_2
                        try clear hcz86_3
                        try clear hcz86_4
                        try clear hcz86_5
                        try clear hcz89_0
                        try clear hcz89_1
                        try clear hcz89_2
                        try clear hcz89_3
                        try clear hcz89_4
                        try clear hcz89_5
                        try clear hcz94_0
                        try clear hcz94_1
                        try clear hcz94_2
                        try clear hcz94_3
                        try clear hcz94_4
                        try clear hcz94_5
                        try clear hcz97_0
                        try clear hcz97_1
                        try clear hcz97_2
                        try clear hcz97_3
                        try clear hcz97_4
                        try clear hcz97_5
                        try clear hfz110_0
                        try clear hfz110_1
                        try clear hfz110_2
                        try clear hfz110_3
                        try clear hfz110_4
                        try clear hfz110_5
                        try clear hfz112_0
                        try clear hfz112_1
                        try clear hfz112_2
                        try clear hfz112_3
                        try clear hfz112_4
                        try clear hfz112_5
                        try clear hfz116_0
                        try clear hfz116_1
                        try clear hfz116_2
                        try clear hfz116_3
                        try clear hfz116_4
                        try clear hfz116_5
                        try clear hfz126_0
                        try clear hfz126_1
                        try clear hfz126_2
                        try clear hfz126_3
                        try clear hfz126_4
                        try clear hfz126_5
                        try clear hfz136_0
                        try clear hfz136_1
                        try clear hfz136_2
                        try clear hfz136_3
                        try clear hfz136_4
                        try clear hfz136_5
                        try clear hfz140_0
                        try clear hfz140_1
                        try clear hfz140_2
                        try clear hfz140_3
                        try clear hfz140_4
                        try clear hfz140_5
                        try clear hfz146_0
                        try clear hfz146_1
                        try clear hfz146_2
                        try clear hfz146_3
                        try clear hfz146_4
                        try clear hfz146_5
                        try clear hfz14_0
                        try clear hfz14_1
                        try clear hfz14_2
                        try clear hfz14_3
                        try clear hfz14_4
                        try clear hfz14_5
                        try clear hfz150_0
                        try clear hfz150_1
                        try clear hfz150_2
                        try clear hfz150_3
                        try clear hfz150_4
                        try clear hfz150_5
                        try clear hfz16_0
                        try clear hfz16_1
                        try clear hfz16_2
                        try clear hfz16_3
                        try clear hfz16_4
                        try clear hfz16_5
                        try clear hfz23_0
                        try clear hfz23_1
                        try clear hfz23_2
                        try clear hfz23_3
                        try clear hfz23_4
                        try clear hfz23_5
                        try clear hfz27_0
                        try clear hfz27_1
                        try clear hfz27_2
                        try clear hfz27_3
                        try clear hfz27_4
                        try clear hfz27_5
                        try clear hfz32_0
                        try clear hfz32_1
                        try clear hfz32_2
                        try clear hfz32_3
                        try clear hfz32_4
                        try clear hfz32_5
                        try clear hfz36_0
                        try clear hfz36_1
                        try clear hfz36_2
                        try clear hfz36_3
                        try clear hfz36_4
                        try clear hfz36_5
                        try clear hfz42_0
                        try clear hfz42_1
                        try clear hfz42_2
                        try clear hfz42_3
                        try clear hfz42_4
                        try clear hfz42_5
                        try clear hfz51_0
                        try clear hfz51_1
                        try clear hfz51_2
                        try clear hfz51_3
                        try clear hfz51_4
                        try clear hfz51_5
                        try clear hfz54_0
                        try clear hfz54_1
                        try clear hfz54_2
                        try clear hfz54_3
                        try clear hfz54_4
                        try clear hfz54_5
                        try clear hfz59_0
                        try clear hfz59_1
                        try clear hfz59_2
                        try clear hfz59_3
                        try clear hfz59_4
                        try clear hfz59_5
                        try clear hfz62_0
                        try clear hfz62_1
                        try clear hfz62_2
                        try clear hfz62_3
                        try clear hfz62_4
                        try clear hfz62_5
                        try clear hfz6_0
                        try clear hfz6_1
                        try clear hfz6_2
                        try clear hfz6_3
                        try clear hfz6_4
                        try clear hfz6_5
                        try clear hfz78_0
                        try clear hfz78_1
                        try clear hfz78_2
                        try clear hfz78_3
                        try clear hfz78_4
                        try clear hfz78_5
                        try clear hfz86_0
                        try clear hfz86_1
                        try clear hfz86_2
                        try clear hfz86_3
                        try clear hfz86_4
                        try clear hfz86_5
                        try clear hfz89_0
                        try clear hfz89_1
                        try clear hfz89_2
                        try clear hfz89_3
                        try clear hfz89_4
                        try clear hfz89_5
                        try clear hfz94_0
                        try clear hfz94_1
                        try clear hfz94_2
                        try clear hfz94_3
                        try clear hfz94_4
                        try clear hfz94_5
                        try clear hfz97_0
                        try clear hfz97_1
                        try clear hfz97_2
                        try clear hfz97_3
                        try clear hfz97_4
                        try clear hfz97_5
                        try clear p2
                        obtain ⟨kq, x92_105, rfl, HA, HJ105, HO_259002, HO_259003, HO_270002, HO_270003, HO_282002, HO_282003, HO_324002, HO_324003, BK235, BK258, BK269, BK281, BK323, HB⟩ := hcut
                        have hl282002_105 := (Kd.Q_reads' HO_282002.out).1
                        rw [hl282002_105] at HO_282002
                        (try simp only [hl282002_105])
                        (try simp only [hl282002_105] at BK235)
                        (try simp only [hl282002_105] at BK258)
                        (try simp only [hl282002_105] at BK269)
                        (try simp only [hl282002_105] at BK281)
                        (try simp only [hl282002_105] at BK323)
                        (try simp only [hl282002_105] at HO_259002)
                        (try simp only [hl282002_105] at HO_259003)
                        (try simp only [hl282002_105] at HO_270002)
                        (try simp only [hl282002_105] at HO_270003)
                        (try simp only [hl282002_105] at HO_282003)
                        (try simp only [hl282002_105] at HO_324002)
                        (try simp only [hl282002_105] at HO_324003)
                        have hl282003_105 := (Kd.Q_reads' HO_282003.out).1
                        rw [hl282003_105] at HO_282003
                        (try simp only [hl282003_105])
                        (try simp only [hl282003_105] at BK235)
                        (try simp only [hl282003_105] at BK258)
                        (try simp only [hl282003_105] at BK269)
                        (try simp only [hl282003_105] at BK281)
                        (try simp only [hl282003_105] at BK323)
                        (try simp only [hl282003_105] at HO_259002)
                        (try simp only [hl282003_105] at HO_259003)
                        (try simp only [hl282003_105] at HO_270002)
                        (try simp only [hl282003_105] at HO_270003)
                        (try simp only [hl282003_105] at HO_282002)
                        (try simp only [hl282003_105] at HO_324002)
                        (try simp only [hl282003_105] at HO_324003)
                        cases kq with
                        | zero => exact absurd HA.out (by simp [laws_FnExactLineStep.j2])
                        | succ kj105 =>
                          have H := HA.out
                          clear HA
                          simp only [laws_FnExactLineStep.j2] at H
                          by_cases c152 : x92_105 = true
                          · subst c152
                            have H1 : (some false) = some r := by rw [if_pos rfl] at H; exact H
                            clear H
                            have H := H1
                            clear H1
                            exact absurd (hT.out ▸ H) (by simp)
                          · replace c152 := Bool.eq_false_iff.mpr c152
                            subst c152
                            have H1 : ((laws_heldLine.f kj105 t270 t271 t299 t300 t278 t279 1).bind fun t325 => (if t325 < 0 then (some false) else (if t325 = t298 then (some true) else (some false)))) = some r := by rw [if_neg (show ¬ (false = true) by decide)] at H; exact H
                            clear H
                            have H := H1
                            clear H1
                            replace H := Option.bind_eq_some_iff.mp H
                            obtain ⟨t325, A1530, H⟩ := H
                            replace H : (if t325 < 0 then (some false) else (if t325 = t298 then (some true) else (some false))) = some r := H
                            have A153 := Aside0.mk A1530
                            clear A1530
                            by_cases c154 : t325 < 0
                            · rw [if_pos c154] at H
                              have c154b0 : decide (t325 < 0) = true := decide_eq_true c154
                              clear c154
                              exact absurd (hT.out ▸ H) (by simp)
                            · rw [if_neg c154] at H
                              have c154b0 : decide (t325 < 0) = false := decide_eq_false c154
                              clear c154
                              by_cases c155 : t325 = t298
                              · rw [if_pos c155] at H
                                have c155b0 : (t325 == t298) = true := beq_iff_eq.mpr c155
                                have c155b1 : (t325 != t298) = false := bne_eq_false_iff_eq.mpr c155
                                clear c155
                                obtain rfl := Option.some.inj H
                                have hnb156 := NB281_235.out
                                have hnc156 := NB235_281.out
                                have hnb157 := NB281_258.out
                                have hnc157 := NB258_281.out
                                have hnb158 := NB281_269.out
                                have hnc158 := NB269_281.out
                                have hnb159 := NB281_323.out
                                have hnc159 := NB323_281.out
                                obtain ⟨hcz160_0, hcz160_1, hcz160_2, hcz160_3, hcz160_4, hcz160_5, hfz160_0, hfz160_1, hfz160_2, hfz160_3, hfz160_4, hfz160_5⟩ := Fix.d6 BK281.out
                                go_wp2_with (first | ((with_reducible refine gate_callee (f := 21) rfl ?_); refine goesL_ (some 95) rfl rfl Try.func21 (by kernel_rfl) rfl #[.agg #[.int .i64 t270, .int .i64 t271, .slice Ao43 t299.length co43, .slice Ao44 t300.length co44, .int .i64 t278, .bool t279], .int .i64 1] rfl (by (try simp only [List.map_toArray, List.map_cons, List.map_nil]); first | done | rfl | (simp only [List.length_drop, List.length_take]; rfl)) ?_; (with_reducible refine (laws_heldLine.calls kj105 t270 t271 _ _ t299 _ _ t300 t278 t279 1 t325 _ ?side1 ?side2 ?side3 ?side4 A153.out).mono ?_); (case side1 => repeat (first | exact (Kd.Q_reads' HO_282002.out).2.2 | (with_reducible refine Kd.C_alloc ?_ _) | (with_reducible refine Kd.C_drewN ?_ _) | (with_reducible refine Kd.C_drew ?_))); (case side2 => exact (Kd.Q_reads' HO_282002.out).2.1); (case side3 => repeat (first | exact (Kd.Q_reads' HO_282003.out).2.2 | (with_reducible refine Kd.C_alloc ?_ _) | (with_reducible refine Kd.C_drewN ?_ _) | (with_reducible refine Kd.C_drew ?_))); (case side4 => exact (Kd.Q_reads' HO_282003.out).2.1); rintro e w161 ⟨rfl, hb⟩; refine ⟨_, rfl, ?_⟩; have n0_ := Aside0.mk (Kd.Q_below (by (with_reducible repeat (first | apply Kd.Q_alloc | apply Kd.Q_drewN | apply Kd.Q_drew)); exact HO_259002.out) hb); have n1_ := Aside0.mk (Kd.R_below (by (with_reducible repeat (first | apply Kd.R_alloc | apply Kd.R_drewN | apply Kd.R_drew)); exact HO_259003.out) hb); have n2_ := Aside0.mk (Kd.Q_below (by (with_reducible repeat (first | apply Kd.Q_alloc | apply Kd.Q_drewN | apply Kd.Q_drew)); exact HO_270002.out) hb); have n3_ := Aside0.mk (Kd.Q_below (by (with_reducible repeat (first | apply Kd.Q_alloc | apply Kd.Q_drewN | apply Kd.Q_drew)); exact HO_270003.out) hb); have n4_ := Aside0.mk (Kd.Q_below (by (with_reducible repeat (first | apply Kd.Q_alloc | apply Kd.Q_drewN | apply Kd.Q_drew)); exact HO_282002.out) hb); have n5_ := Aside0.mk (Kd.Q_below (by (with_reducible repeat (first | apply Kd.Q_alloc | apply Kd.Q_drewN | apply Kd.Q_drew)); exact HO_282003.out) hb); have n6_ := Aside0.mk (Kd.Q_below (by (with_reducible repeat (first | apply Kd.Q_alloc | apply Kd.Q_drewN | apply Kd.Q_drew)); exact HO_324002.out) hb); have n7_ := Aside0.mk (Kd.R_below (by (with_reducible repeat (first | apply Kd.R_alloc | apply Kd.R_drewN | apply Kd.R_drew)); exact HO_324003.out) hb); have n8_ := Aside0.mk (blk_below (g := gb235) (o := .cells #[.int .i64 a0_0, .int .i64 a0_1, .slice A0_2 l0_2.length c0_2, .slice A0_3 l0_3.length c0_3, .int .i64 a0_4, .bool a0_5] 38 (0, 0)) (by (with_reducible repeat (first | refine Fix.kN ?_ _ | refine Fix.kD ?_ | refine Fix.kA ?_ _)); exact BK235.out) hb); have n9_ := Aside0.mk (blk_below (g := gb258) (o := .cells #[.int .i64 t247, .int .i64 t248, .slice Ao24 t249.length co24, .slice Ao25 t252.length co25, .int .i64 t255, .bool t256] 28 (0, 0)) (by (with_reducible repeat (first | refine Fix.kN ?_ _ | refine Fix.kD ?_ | refine Fix.kA ?_ _)); exact BK258.out) hb); have n10_ := Aside0.mk (blk_below (g := gb269) (o := .cells #[.int .i64 t259, .int .i64 t260, .slice Ao33 t295.length co33, .slice Ao34 t296.length co34, .int .i64 t267, .bool t268] 28 (0, 0)) (by (with_reducible repeat (first | refine Fix.kN ?_ _ | refine Fix.kD ?_ | refine Fix.kA ?_ _)); exact BK269.out) hb); have n11_ := Aside0.mk (blk_below (g := gb281) (o := .cells #[.int .i64 t270, .int .i64 t271, .slice Ao43 t299.length co43, .slice Ao44 t300.length co44, .int .i64 t278, .bool t279] 28 (0, 0)) (by (with_reducible repeat (first | refine Fix.kN ?_ _ | refine Fix.kD ?_ | refine Fix.kA ?_ _)); exact BK281.out) hb); have n12_ := Aside0.mk (blk_below (g := gb323) (o := .cells #[.int .i64 t312, .int .i64 t313, .slice Ao127 t314.length co127, .slice Ao128 t317.length co128, .int .i64 t320, .bool t321] 28 (0, 0)) (by (with_reducible repeat (first | refine Fix.kN ?_ _ | refine Fix.kD ?_ | refine Fix.kA ?_ _)); exact BK323.out) hb); have n13_ := Aside0.mk (below_step (by repeat (first | (with_reducible first | exact HB.out | apply Fix.bA | apply Fix.bN | apply Fix.b1 | refine below_set ?_ GE235.out | refine below_set ?_ GE258.out | refine below_set ?_ GE269.out | refine below_set ?_ GE281.out | refine below_set ?_ GE323.out) | exact HB.out)) hb); clear HO_259002; clear HO_259003; clear HO_270002; clear HO_270003; clear HO_282002; clear HO_282003; clear HO_324002; clear HO_324003; clear BK235; clear BK258; clear BK269; clear BK281; clear BK323; clear HB; have HO_259002 := n0_; have HO_259003 := n1_; have HO_270002 := n2_; have HO_270003 := n3_; have HO_282002 := n4_; have HO_282003 := n5_; have HO_324002 := n6_; have HO_324003 := n7_; have BK235 := n8_; have BK258 := n9_; have BK269 := n10_; have BK281 := n11_; have BK323 := n12_; have HB := n13_; clear n0_ n1_ n2_ n3_ n4_ n5_ n6_ n7_ n8_ n9_ n10_ n11_ n12_ n13_; (try clear hb); (try clear hb2); (try clear hk); (try clear hi)))
                                go_ret
                                exact ⟨by first | rfl | (simp [errW_none, errW_some] <;> rfl) | (simp [*, errW_none, errW_some] <;> rfl), by repeat (first | (with_reducible first | exact HB.out | apply Fix.bA | apply Fix.bN | apply Fix.b1 | refine below_set ?_ GE235.out | refine below_set ?_ GE258.out | refine below_set ?_ GE269.out | refine below_set ?_ GE281.out | refine below_set ?_ GE323.out) | exact HB.out)⟩
                              · rw [if_neg c155] at H
                                have c155b0 : (t325 == t298) = false := beq_eq_false_iff_ne.mpr c155
                                have c155b1 : (t325 != t298) = true := bne_iff_ne.mpr c155
                                exact absurd (hT.out ▸ H) (by simp)
                    · rw [if_neg c103] at H
                      have c103b0 : (t301 == t298) = false := beq_eq_false_iff_ne.mpr c103
                      have c103b1 : (t301 != t298) = true := bne_iff_ne.mpr c103
                      exact absurd (hT.out ▸ H) (by simp)
          · replace c67 := Bool.eq_false_iff.mpr c67
            subst c67
            have H1 : (some false) = some r := by rw [if_neg (show ¬ (false = true) by decide)] at H; exact H
            clear H
            have H := H1
            clear H1
            exact absurd (hT.out ▸ H) (by simp)

end Go.Proofs.Ytomhhbnnmjgcgaa.PFnExactLineStep
