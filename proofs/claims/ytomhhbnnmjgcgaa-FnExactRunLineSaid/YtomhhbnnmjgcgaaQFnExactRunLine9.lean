/- FnExactRunLine: the functions that the law reaches, each as a plain Lean function, and that a call does what it says. Made by a program of this work (wip/mp.py) out of the kit's print. No condition. -/
import Derived.Test.YtomhhbnnmjgcgaaQFnExactRunLine0
import Derived.Test.YtomhhbnnmjgcgaaQFnExactRunLine3
import Derived.Test.YtomhhbnnmjgcgaaQFnExactRunLine4
import Derived.Test.YtomhhbnnmjgcgaaQFnExactRunLine5
import Derived.Test.YtomhhbnnmjgcgaaQFnExactRunLine8
namespace Go.Proofs.Ytomhhbnnmjgcgaa.PFnExactRunLine
open Go.RowKit Go.Proofs.YtomhhbnnmjgcgaaW.PrintWords Go.Proofs.YtomhhbnnmjgcgaaW.PrintLast Go.Proofs.YtomhhbnnmjgcgaaW.PrintMore
attribute [local go_sem] max2_int min2_int max_two min_two max_three min_three max_four min_four
attribute [local go_sem] Fix.isSome_setCell
set_option linter.unusedVariables false
set_option linter.unusedSimpArgs false

/-! ### laws_FnExactRunLine: function 9 -/
mutual
def laws_FnExactRunLine.j0 : Nat → List Int → Int → List Int → Int → Bool → Int → Int → List Int → List Int → Int → Bool → Int → Int → List Int → List Int → Int → Bool → Int → Int → List Int → List Int → Int → Bool → Int → Int → List Int → List Int → Int → Bool → Option (Bool)
  | 0, _, _, _, _, _, _, _, _, _, _, _, _, _, _, _, _, _, _, _, _, _, _, _, _, _, _, _, _, _ => none
  | k + 1, x1, x7, x9, x11, x51, x289000, x289001, x289002, x289003, x289004, x289005, x315000, x315001, x315002, x315003, x315004, x315005, x326000, x326001, x326002, x326003, x326004, x326005, x341000, x341001, x341002, x341003, x341004, x341005 => if x51 = true then (some false) else ((laws_toLine.f k x289000 x289001 x289002 x289003 x289004 x289005).bind fun bt342 => ((laws_eqLine.f k x326000 x326001 x326002 x326003 x326004 x326005 bt342.1 bt342.2.1 bt342.2.2.1 bt342.2.2.2.1 bt342.2.2.2.2.1 bt342.2.2.2.2.2).bind fun t352 => (if t352 = true then ((laws_toIntS.f k x1).bind fun t353 => ((laws_eqIntS.f k x9 t353).bind fun t356 => (if t356 = true then ((laws_markLine.f k x326000 x326001 x326002 x326003 x326004 x326005 1).bind fun bt357 => ((laws_markIntS.f k x9 bt357.1).bind fun bt360 => (if bt360.1 < 0 then (laws_FnExactRunLine.j1 k x1 x7 true x289000 x289001 x289002 x289003 x289004 x289005 x315000 x315001 x315002 x315003 x315004 x315005 x341000 x341001 x341002 x341003 x341004 x341005) else ((laws_eqLine.f k x341000 x341001 x341002 x341003 x341004 x341005 x315000 x315001 x315002 x315003 x315004 x315005).bind fun t362 => (if t362 = true then (laws_FnExactRunLine.j1 k x1 x7 (x11 != x7) x289000 x289001 x289002 x289003 x289004 x289005 x315000 x315001 x315002 x315003 x315004 x315005 x341000 x341001 x341002 x341003 x341004 x341005) else (laws_FnExactRunLine.j1 k x1 x7 true x289000 x289001 x289002 x289003 x289004 x289005 x315000 x315001 x315002 x315003 x315004 x315005 x341000 x341001 x341002 x341003 x341004 x341005)))))) else (some false)))) else (some false))))
def laws_FnExactRunLine.j1 : Nat → List Int → Int → Bool → Int → Int → List Int → List Int → Int → Bool → Int → Int → List Int → List Int → Int → Bool → Int → Int → List Int → List Int → Int → Bool → Option (Bool)
  | 0, _, _, _, _, _, _, _, _, _, _, _, _, _, _, _, _, _, _, _, _, _ => none
  | k + 1, x1, x7, x80, x289000, x289001, x289002, x289003, x289004, x289005, x315000, x315001, x315002, x315003, x315004, x315005, x341000, x341001, x341002, x341003, x341004, x341005 => if x80 = true then (some false) else ((laws_markLine.f k x341000 x341001 x341002 x341003 x341004 x341005 1).bind fun bt363 => ((laws_heldLine.f k x341000 x341001 bt363.2.1 bt363.2.2 x341004 x341005 1).bind fun t366 => (if t366 < 0 then (some false) else (if t366 = bt363.1 then ((laws_toLine.f k x289000 x289001 x289002 x289003 x289004 x289005).bind fun bt367 => ((laws_toIntS.f k x1).bind fun t377 => ((impl_RunLine.f k bt367.1 bt367.2.1 bt367.2.2.1 bt367.2.2.2.1 bt367.2.2.2.2.1 bt367.2.2.2.2.2 t377).bind fun bt380 => ((laws_eqLine.f k bt380.1 bt380.2.1 bt380.2.2.1 bt380.2.2.2.1 bt380.2.2.2.2.1 bt380.2.2.2.2.2.1 x315000 x315001 x315002 x315003 x315004 x315005).bind fun t392 => (if t392 = true then (laws_FnExactRunLine.j2 k bt363.1 (bt380.2.2.2.2.2.2 != x7) x341000 x341001 bt363.2.1 bt363.2.2 x341004 x341005) else (laws_FnExactRunLine.j2 k bt363.1 true x341000 x341001 bt363.2.1 bt363.2.2 x341004 x341005)))))) else (some false)))))
def laws_FnExactRunLine.j2 : Nat → Int → Bool → Int → Int → List Int → List Int → Int → Bool → Option (Bool)
  | 0, _, _, _, _, _, _, _, _ => none
  | k + 1, x13, x108, x341000, x341001, x341002, x341003, x341004, x341005 => if x108 = true then (some false) else ((laws_heldLine.f k x341000 x341001 x341002 x341003 x341004 x341005 1).bind fun t393 => (if t393 < 0 then (some false) else (if t393 = x13 then (some true) else (some false))))
end
def laws_FnExactRunLine.f (k : Nat) (a0_0 : Int) (a0_1 : Int) (l0_2 : List Int) (l0_3 : List Int) (a0_4 : Int) (a0_5 : Bool) (l1 : List Int) : Option (Bool) := if (l1.length : Int) > 1048576 then (some true) else ((laws_szLine.f a0_0 a0_1 l0_2 l0_3 a0_4 a0_5 1048576).bind fun t289 => (if t289 < 0 then (some true) else ((laws_toLine.f k a0_0 a0_1 l0_2 l0_3 a0_4 a0_5).bind fun bt290 => ((laws_toIntS.f k l1).bind fun t300 => ((spec_RunLine.f k bt290.1 bt290.2.1 bt290.2.2.1 bt290.2.2.2.1 bt290.2.2.2.2.1 bt290.2.2.2.2.2 t300).bind fun bt303 => ((laws_toLine.f k a0_0 a0_1 l0_2 l0_3 a0_4 a0_5).bind fun bt315 => ((laws_toIntS.f k l1).bind fun t326 => ((impl_RunLine.f k bt315.1 bt315.2.1 bt315.2.2.1 bt315.2.2.2.1 bt315.2.2.2.2.1 bt315.2.2.2.2.2 t326).bind fun bt329 => ((laws_eqLine.f k bt329.1 bt329.2.1 bt329.2.2.1 bt329.2.2.2.1 bt329.2.2.2.2.1 bt329.2.2.2.2.2.1 bt303.1 bt303.2.1 bt303.2.2.1 bt303.2.2.2.1 bt303.2.2.2.2.1 bt303.2.2.2.2.2.1).bind fun t341 => (if t341 = true then (laws_FnExactRunLine.j0 k l1 bt303.2.2.2.2.2.2 t326 bt329.2.2.2.2.2.2 (bt329.2.2.2.2.2.2 != bt303.2.2.2.2.2.2) a0_0 a0_1 l0_2 l0_3 a0_4 a0_5 bt303.1 bt303.2.1 bt303.2.2.1 bt303.2.2.2.1 bt303.2.2.2.2.1 bt303.2.2.2.2.2.1 bt315.1 bt315.2.1 bt315.2.2.1 bt315.2.2.2.1 bt315.2.2.2.2.1 bt315.2.2.2.2.2 bt329.1 bt329.2.1 bt329.2.2.1 bt329.2.2.2.1 bt329.2.2.2.2.1 bt329.2.2.2.2.2.1) else (laws_FnExactRunLine.j0 k l1 bt303.2.2.2.2.2.2 t326 bt329.2.2.2.2.2.2 true a0_0 a0_1 l0_2 l0_3 a0_4 a0_5 bt303.1 bt303.2.1 bt303.2.2.1 bt303.2.2.2.1 bt303.2.2.2.2.1 bt303.2.2.2.2.2.1 bt315.1 bt315.2.1 bt315.2.2.1 bt315.2.2.2.1 bt315.2.2.2.2.1 bt315.2.2.2.2.2 bt329.1 bt329.2.1 bt329.2.2.1 bt329.2.2.2.1 bt329.2.2.2.2.1 bt329.2.2.2.2.2.1)))))))))))
theorem laws_FnExactRunLine.mono_l : ∀ k, (∀ y0 y1 y2 y3 y4 y5 y6 y7 y8 y9 y10 y11 y12 y13 y14 y15 y16 y17 y18 y19 y20 y21 y22 y23 y24 y25 y26 y27 y28, LeO (laws_FnExactRunLine.j0 k y0 y1 y2 y3 y4 y5 y6 y7 y8 y9 y10 y11 y12 y13 y14 y15 y16 y17 y18 y19 y20 y21 y22 y23 y24 y25 y26 y27 y28) (laws_FnExactRunLine.j0 (k + 1) y0 y1 y2 y3 y4 y5 y6 y7 y8 y9 y10 y11 y12 y13 y14 y15 y16 y17 y18 y19 y20 y21 y22 y23 y24 y25 y26 y27 y28)) ∧ (∀ y0 y1 y2 y3 y4 y5 y6 y7 y8 y9 y10 y11 y12 y13 y14 y15 y16 y17 y18 y19 y20, LeO (laws_FnExactRunLine.j1 k y0 y1 y2 y3 y4 y5 y6 y7 y8 y9 y10 y11 y12 y13 y14 y15 y16 y17 y18 y19 y20) (laws_FnExactRunLine.j1 (k + 1) y0 y1 y2 y3 y4 y5 y6 y7 y8 y9 y10 y11 y12 y13 y14 y15 y16 y17 y18 y19 y20)) ∧ (∀ y0 y1 y2 y3 y4 y5 y6 y7, LeO (laws_FnExactRunLine.j2 k y0 y1 y2 y3 y4 y5 y6 y7) (laws_FnExactRunLine.j2 (k + 1) y0 y1 y2 y3 y4 y5 y6 y7))
  | 0 => ⟨fun _ _ _ _ _ _ _ _ _ _ _ _ _ _ _ _ _ _ _ _ _ _ _ _ _ _ _ _ _ r h => by simp [laws_FnExactRunLine.j0] at h, fun _ _ _ _ _ _ _ _ _ _ _ _ _ _ _ _ _ _ _ _ _ r h => by simp [laws_FnExactRunLine.j1] at h, fun _ _ _ _ _ _ _ _ r h => by simp [laws_FnExactRunLine.j2] at h⟩
  | k + 1 => by
    obtain ⟨ih0, ih1, ih2⟩ := laws_FnExactRunLine.mono_l k
    refine ⟨?_, ?_, ?_⟩
    · intro y0 y1 y2 y3 y4 y5 y6 y7 y8 y9 y10 y11 y12 y13 y14 y15 y16 y17 y18 y19 y20 y21 y22 y23 y24 y25 y26 y27 y28
      unfold laws_FnExactRunLine.j0
      repeat' first
      | (with_reducible exact ih0 _ _ _ _ _ _ _ _ _ _ _ _ _ _ _ _ _ _ _ _ _ _ _ _ _ _ _ _ _)
      | (with_reducible exact ih1 _ _ _ _ _ _ _ _ _ _ _ _ _ _ _ _ _ _ _ _ _)
      | (with_reducible exact ih2 _ _ _ _ _ _ _ _)
      | (with_reducible exact impl_RunLine.mono _ _ _ _ _ _ _ _)
      | (with_reducible exact laws_eqIntS.mono _ _ _)
      | (with_reducible exact laws_eqLine.mono _ _ _ _ _ _ _ _ _ _ _ _ _)
      | (with_reducible exact laws_heldLine.mono _ _ _ _ _ _ _ _)
      | (with_reducible exact laws_markIntS.mono _ _ _)
      | (with_reducible exact laws_markLine.mono _ _ _ _ _ _ _ _)
      | (with_reducible exact laws_toIntS.mono _ _)
      | (with_reducible exact laws_toLine.mono _ _ _ _ _ _ _)
      | (with_reducible exact spec_RunLine.mono _ _ _ _ _ _ _ _)
      | (with_reducible exact LeO.refl _)
      | (with_reducible exact LeO.none _)
      | (with_reducible refine LeO.ite ?_ ?_)
      | (with_reducible refine LeO.bind ?_ (fun _ => ?_))
      | exact ih0 _ _ _ _ _ _ _ _ _ _ _ _ _ _ _ _ _ _ _ _ _ _ _ _ _ _ _ _ _
      | exact ih1 _ _ _ _ _ _ _ _ _ _ _ _ _ _ _ _ _ _ _ _ _
      | exact ih2 _ _ _ _ _ _ _ _
      | exact impl_RunLine.mono _ _ _ _ _ _ _ _
      | exact laws_eqIntS.mono _ _ _
      | exact laws_eqLine.mono _ _ _ _ _ _ _ _ _ _ _ _ _
      | exact laws_heldLine.mono _ _ _ _ _ _ _ _
      | exact laws_markIntS.mono _ _ _
      | exact laws_markLine.mono _ _ _ _ _ _ _ _
      | exact laws_toIntS.mono _ _
      | exact laws_toLine.mono _ _ _ _ _ _ _
      | exact spec_RunLine.mono _ _ _ _ _ _ _ _
      | exact LeO.none _
      | refine LeO.ite ?_ ?_
      | refine LeO.bind ?_ (fun _ => ?_)
    · intro y0 y1 y2 y3 y4 y5 y6 y7 y8 y9 y10 y11 y12 y13 y14 y15 y16 y17 y18 y19 y20
      unfold laws_FnExactRunLine.j1
      repeat' first
      | (with_reducible exact ih0 _ _ _ _ _ _ _ _ _ _ _ _ _ _ _ _ _ _ _ _ _ _ _ _ _ _ _ _ _)
      | (with_reducible exact ih1 _ _ _ _ _ _ _ _ _ _ _ _ _ _ _ _ _ _ _ _ _)
      | (with_reducible exact ih2 _ _ _ _ _ _ _ _)
      | (with_reducible exact impl_RunLine.mono _ _ _ _ _ _ _ _)
      | (with_reducible exact laws_eqIntS.mono _ _ _)
      | (with_reducible exact laws_eqLine.mono _ _ _ _ _ _ _ _ _ _ _ _ _)
      | (with_reducible exact laws_heldLine.mono _ _ _ _ _ _ _ _)
      | (with_reducible exact laws_markIntS.mono _ _ _)
      | (with_reducible exact laws_markLine.mono _ _ _ _ _ _ _ _)
      | (with_reducible exact laws_toIntS.mono _ _)
      | (with_reducible exact laws_toLine.mono _ _ _ _ _ _ _)
      | (with_reducible exact spec_RunLine.mono _ _ _ _ _ _ _ _)
      | (with_reducible exact LeO.refl _)
      | (with_reducible exact LeO.none _)
      | (with_reducible refine LeO.ite ?_ ?_)
      | (with_reducible refine LeO.bind ?_ (fun _ => ?_))
      | exact ih0 _ _ _ _ _ _ _ _ _ _ _ _ _ _ _ _ _ _ _ _ _ _ _ _ _ _ _ _ _
      | exact ih1 _ _ _ _ _ _ _ _ _ _ _ _ _ _ _ _ _ _ _ _ _
      | exact ih2 _ _ _ _ _ _ _ _
      | exact impl_RunLine.mono _ _ _ _ _ _ _ _
      | exact laws_eqIntS.mono _ _ _
      | exact laws_eqLine.mono _ _ _ _ _ _ _ _ _ _ _ _ _
      | exact laws_heldLine.mono _ _ _ _ _ _ _ _
      | exact laws_markIntS.mono _ _ _
      | exact laws_markLine.mono _ _ _ _ _ _ _ _
      | exact laws_toIntS.mono _ _
      | exact laws_toLine.mono _ _ _ _ _ _ _
      | exact spec_RunLine.mono _ _ _ _ _ _ _ _
      | exact LeO.none _
      | refine LeO.ite ?_ ?_
      | refine LeO.bind ?_ (fun _ => ?_)
    · intro y0 y1 y2 y3 y4 y5 y6 y7
      unfold laws_FnExactRunLine.j2
      repeat' first
      | (with_reducible exact ih0 _ _ _ _ _ _ _ _ _ _ _ _ _ _ _ _ _ _ _ _ _ _ _ _ _ _ _ _ _)
      | (with_reducible exact ih1 _ _ _ _ _ _ _ _ _ _ _ _ _ _ _ _ _ _ _ _ _)
      | (with_reducible exact ih2 _ _ _ _ _ _ _ _)
      | (with_reducible exact impl_RunLine.mono _ _ _ _ _ _ _ _)
      | (with_reducible exact laws_eqIntS.mono _ _ _)
      | (with_reducible exact laws_eqLine.mono _ _ _ _ _ _ _ _ _ _ _ _ _)
      | (with_reducible exact laws_heldLine.mono _ _ _ _ _ _ _ _)
      | (with_reducible exact laws_markIntS.mono _ _ _)
      | (with_reducible exact laws_markLine.mono _ _ _ _ _ _ _ _)
      | (with_reducible exact laws_toIntS.mono _ _)
      | (with_reducible exact laws_toLine.mono _ _ _ _ _ _ _)
      | (with_reducible exact spec_RunLine.mono _ _ _ _ _ _ _ _)
      | (with_reducible exact LeO.refl _)
      | (with_reducible exact LeO.none _)
      | (with_reducible refine LeO.ite ?_ ?_)
      | (with_reducible refine LeO.bind ?_ (fun _ => ?_))
      | exact ih0 _ _ _ _ _ _ _ _ _ _ _ _ _ _ _ _ _ _ _ _ _ _ _ _ _ _ _ _ _
      | exact ih1 _ _ _ _ _ _ _ _ _ _ _ _ _ _ _ _ _ _ _ _ _
      | exact ih2 _ _ _ _ _ _ _ _
      | exact impl_RunLine.mono _ _ _ _ _ _ _ _
      | exact laws_eqIntS.mono _ _ _
      | exact laws_eqLine.mono _ _ _ _ _ _ _ _ _ _ _ _ _
      | exact laws_heldLine.mono _ _ _ _ _ _ _ _
      | exact laws_markIntS.mono _ _ _
      | exact laws_markLine.mono _ _ _ _ _ _ _ _
      | exact laws_toIntS.mono _ _
      | exact laws_toLine.mono _ _ _ _ _ _ _
      | exact spec_RunLine.mono _ _ _ _ _ _ _ _
      | exact LeO.none _
      | refine LeO.ite ?_ ?_
      | refine LeO.bind ?_ (fun _ => ?_)
theorem laws_FnExactRunLine.mono : ∀ a0 a1 a2 a3 a4 a5 a6 k, LeO (laws_FnExactRunLine.f k a0 a1 a2 a3 a4 a5 a6) (laws_FnExactRunLine.f (k + 1) a0 a1 a2 a3 a4 a5 a6) := by
  intro a0 a1 a2 a3 a4 a5 a6 k
  obtain ⟨ih0, ih1, ih2⟩ := laws_FnExactRunLine.mono_l k
  unfold laws_FnExactRunLine.f
  repeat' first
      | (with_reducible exact ih0 _ _ _ _ _ _ _ _ _ _ _ _ _ _ _ _ _ _ _ _ _ _ _ _ _ _ _ _ _)
      | (with_reducible exact ih1 _ _ _ _ _ _ _ _ _ _ _ _ _ _ _ _ _ _ _ _ _)
      | (with_reducible exact ih2 _ _ _ _ _ _ _ _)
      | (with_reducible exact impl_RunLine.mono _ _ _ _ _ _ _ _)
      | (with_reducible exact laws_eqIntS.mono _ _ _)
      | (with_reducible exact laws_eqLine.mono _ _ _ _ _ _ _ _ _ _ _ _ _)
      | (with_reducible exact laws_heldLine.mono _ _ _ _ _ _ _ _)
      | (with_reducible exact laws_markIntS.mono _ _ _)
      | (with_reducible exact laws_markLine.mono _ _ _ _ _ _ _ _)
      | (with_reducible exact laws_toIntS.mono _ _)
      | (with_reducible exact laws_toLine.mono _ _ _ _ _ _ _)
      | (with_reducible exact spec_RunLine.mono _ _ _ _ _ _ _ _)
      | (with_reducible exact LeO.refl _)
      | (with_reducible exact LeO.none _)
      | (with_reducible refine LeO.ite ?_ ?_)
      | (with_reducible refine LeO.bind ?_ (fun _ => ?_))
      | exact ih0 _ _ _ _ _ _ _ _ _ _ _ _ _ _ _ _ _ _ _ _ _ _ _ _ _ _ _ _ _
      | exact ih1 _ _ _ _ _ _ _ _ _ _ _ _ _ _ _ _ _ _ _ _ _
      | exact ih2 _ _ _ _ _ _ _ _
      | exact impl_RunLine.mono _ _ _ _ _ _ _ _
      | exact laws_eqIntS.mono _ _ _
      | exact laws_eqLine.mono _ _ _ _ _ _ _ _ _ _ _ _ _
      | exact laws_heldLine.mono _ _ _ _ _ _ _ _
      | exact laws_markIntS.mono _ _ _
      | exact laws_markLine.mono _ _ _ _ _ _ _ _
      | exact laws_toIntS.mono _ _
      | exact laws_toLine.mono _ _ _ _ _ _ _
      | exact spec_RunLine.mono _ _ _ _ _ _ _ _
      | exact LeO.none _
      | refine LeO.ite ?_ ?_
      | refine LeO.bind ?_ (fun _ => ?_)
set_option maxHeartbeats 8000000 in
set_option maxRecDepth 100000 in
theorem laws_FnExactRunLine.calls (k : Nat) (a0_0 : Int) (a0_1 : Int) (A0_2 : Option Addr) (c0_2 : Nat) (l0_2 : List Int) (A0_3 : Option Addr) (c0_3 : Nat) (l0_3 : List Int) (a0_4 : Int) (a0_5 : Bool) (A1 : Option Addr) (c1 : Nat) (l1 : List Int) (r : Bool) (w : World) (hr0_2 : Kd.C (Kd.int .i64) w A0_2 l0_2.length l0_2) (hc0_2 : l0_2.length ≤ c0_2) (hr0_3 : Kd.C (Kd.int .i64) w A0_3 l0_3.length l0_3) (hc0_3 : l0_3.length ≤ c0_3) (hr1 : Kd.C (Kd.int .i64) w A1 l1.length l1) (hc1 : l1.length ≤ c1) (hT : r = true) (h : laws_FnExactRunLine.f k a0_0 a0_1 l0_2 l0_3 a0_4 a0_5 l1 = some r) :
    Calls Try.prog 9 #[.agg #[.int .i64 a0_0, .int .i64 a0_1, .slice A0_2 l0_2.length c0_2, .slice A0_3 l0_3.length c0_3, .int .i64 a0_4, .bool a0_5], .slice A1 l1.length c1] w fun e w' => e = .returned (.bool r) ∧ Below w.heap.size w w' := by
  have hu38 := Try.underlying38
  have hu28 := Try.underlying28
  have HR0_2 := Aside0.mk hr0_2
  have HC0_2 := Aside0.mk hc0_2
  (try clear hr0_2); (try clear hc0_2)
  have HR0_3 := Aside0.mk hr0_3
  have HC0_3 := Aside0.mk hc0_3
  (try clear hr0_3); (try clear hc0_3)
  have HR1 := Aside0.mk hr1
  have HC1 := Aside0.mk hc1
  (try clear hr1); (try clear hc1)
  replace hT := Aside0.mk hT
  have HB := Aside0.mk (Below.refl w.heap.size w)
  have H : (if (l1.length : Int) > 1048576 then (some true) else ((laws_szLine.f a0_0 a0_1 l0_2 l0_3 a0_4 a0_5 1048576).bind fun t289 => (if t289 < 0 then (some true) else ((laws_toLine.f k a0_0 a0_1 l0_2 l0_3 a0_4 a0_5).bind fun bt290 => ((laws_toIntS.f k l1).bind fun t300 => ((spec_RunLine.f k bt290.1 bt290.2.1 bt290.2.2.1 bt290.2.2.2.1 bt290.2.2.2.2.1 bt290.2.2.2.2.2 t300).bind fun bt303 => ((laws_toLine.f k a0_0 a0_1 l0_2 l0_3 a0_4 a0_5).bind fun bt315 => ((laws_toIntS.f k l1).bind fun t326 => ((impl_RunLine.f k bt315.1 bt315.2.1 bt315.2.2.1 bt315.2.2.2.1 bt315.2.2.2.2.1 bt315.2.2.2.2.2 t326).bind fun bt329 => ((laws_eqLine.f k bt329.1 bt329.2.1 bt329.2.2.1 bt329.2.2.2.1 bt329.2.2.2.2.1 bt329.2.2.2.2.2.1 bt303.1 bt303.2.1 bt303.2.2.1 bt303.2.2.2.1 bt303.2.2.2.2.1 bt303.2.2.2.2.2.1).bind fun t341 => (if t341 = true then (laws_FnExactRunLine.j0 k l1 bt303.2.2.2.2.2.2 t326 bt329.2.2.2.2.2.2 (bt329.2.2.2.2.2.2 != bt303.2.2.2.2.2.2) a0_0 a0_1 l0_2 l0_3 a0_4 a0_5 bt303.1 bt303.2.1 bt303.2.2.1 bt303.2.2.2.1 bt303.2.2.2.2.1 bt303.2.2.2.2.2.1 bt315.1 bt315.2.1 bt315.2.2.1 bt315.2.2.2.1 bt315.2.2.2.2.1 bt315.2.2.2.2.2 bt329.1 bt329.2.1 bt329.2.2.1 bt329.2.2.2.1 bt329.2.2.2.2.1 bt329.2.2.2.2.2.1) else (laws_FnExactRunLine.j0 k l1 bt303.2.2.2.2.2.2 t326 bt329.2.2.2.2.2.2 true a0_0 a0_1 l0_2 l0_3 a0_4 a0_5 bt303.1 bt303.2.1 bt303.2.2.1 bt303.2.2.2.1 bt303.2.2.2.2.1 bt303.2.2.2.2.2.1 bt315.1 bt315.2.1 bt315.2.2.1 bt315.2.2.2.1 bt315.2.2.2.2.1 bt315.2.2.2.2.2 bt329.1 bt329.2.1 bt329.2.2.1 bt329.2.2.2.1 bt329.2.2.2.2.1 bt329.2.2.2.2.2.1)))))))))))) = some r := h
  clear h
  by_cases c3 : (l1.length : Int) > 1048576
  · rw [if_pos c3] at H
    have c3b0 : decide (1048576 < (l1.length : Int)) = true := decide_eq_true c3
    have c3b1 : decide (1048576 < l1.length) = true := decide_eq_true (by omega)
    clear c3
    obtain rfl := Option.some.inj H
    go_enter Try.func9, Try.ntmps9
    go_wp2_with (first | ((with_reducible refine gate_dst (N := 2) rfl ?_); refine box_event ?hg (N := 2) ?hd (cs := #[.int .i64 a0_0, .int .i64 a0_1, .slice A0_2 l0_2.length c0_2, .slice A0_3 l0_3.length c0_3, .int .i64 a0_4, .bool a0_5]) (t := 38) ?hr ?_; (case hd => rfl); (case hg => rfl); (case hr => first | (go_simp; done) | (go_simp; rfl)); intro gb288 hg w4 hbox hb; have n0_ := Aside0.mk (below_step Fix.uB hb); have n1_ := Aside0.mk (hbox); have n2_ := Aside0.mk ((by rw [hg]; exact (below_size Fix.uB) : w.heap.size ≤ gb288)); have n3_ := Aside0.mk ((by rw [hg]; exact (below_size Fix.uB) : w.heap.size ≤ gb288)); clear HB; have HB := n0_; have BK288 := n1_; have GW288 := n2_; have GE288 := n3_; clear n0_ n1_ n2_ n3_; clear hb hbox hg))
    go_ret
    exact ⟨by first | rfl | (simp [errW_none, errW_some] <;> rfl) | (simp [*, errW_none, errW_some] <;> rfl), Fix.uB⟩
  · rw [if_neg c3] at H
    have c3b0 : decide (1048576 < (l1.length : Int)) = false := decide_eq_false c3
    have c3b1 : decide (1048576 < l1.length) = false := decide_eq_false (by omega)
    clear c3
    replace H := Option.bind_eq_some_iff.mp H
    obtain ⟨t289, A50, H⟩ := H
    replace H : (if t289 < 0 then (some true) else ((laws_toLine.f k a0_0 a0_1 l0_2 l0_3 a0_4 a0_5).bind fun bt290 => ((laws_toIntS.f k l1).bind fun t300 => ((spec_RunLine.f k bt290.1 bt290.2.1 bt290.2.2.1 bt290.2.2.2.1 bt290.2.2.2.2.1 bt290.2.2.2.2.2 t300).bind fun bt303 => ((laws_toLine.f k a0_0 a0_1 l0_2 l0_3 a0_4 a0_5).bind fun bt315 => ((laws_toIntS.f k l1).bind fun t326 => ((impl_RunLine.f k bt315.1 bt315.2.1 bt315.2.2.1 bt315.2.2.2.1 bt315.2.2.2.2.1 bt315.2.2.2.2.2 t326).bind fun bt329 => ((laws_eqLine.f k bt329.1 bt329.2.1 bt329.2.2.1 bt329.2.2.2.1 bt329.2.2.2.2.1 bt329.2.2.2.2.2.1 bt303.1 bt303.2.1 bt303.2.2.1 bt303.2.2.2.1 bt303.2.2.2.2.1 bt303.2.2.2.2.2.1).bind fun t341 => (if t341 = true then (laws_FnExactRunLine.j0 k l1 bt303.2.2.2.2.2.2 t326 bt329.2.2.2.2.2.2 (bt329.2.2.2.2.2.2 != bt303.2.2.2.2.2.2) a0_0 a0_1 l0_2 l0_3 a0_4 a0_5 bt303.1 bt303.2.1 bt303.2.2.1 bt303.2.2.2.1 bt303.2.2.2.2.1 bt303.2.2.2.2.2.1 bt315.1 bt315.2.1 bt315.2.2.1 bt315.2.2.2.1 bt315.2.2.2.2.1 bt315.2.2.2.2.2 bt329.1 bt329.2.1 bt329.2.2.1 bt329.2.2.2.1 bt329.2.2.2.2.1 bt329.2.2.2.2.2.1) else (laws_FnExactRunLine.j0 k l1 bt303.2.2.2.2.2.2 t326 bt329.2.2.2.2.2.2 true a0_0 a0_1 l0_2 l0_3 a0_4 a0_5 bt303.1 bt303.2.1 bt303.2.2.1 bt303.2.2.2.1 bt303.2.2.2.2.1 bt303.2.2.2.2.2.1 bt315.1 bt315.2.1 bt315.2.2.1 bt315.2.2.2.1 bt315.2.2.2.2.1 bt315.2.2.2.2.2 bt329.1 bt329.2.1 bt329.2.2.1 bt329.2.2.2.1 bt329.2.2.2.2.1 bt329.2.2.2.2.2.1)))))))))) = some r := H
    have A5 := Aside0.mk A50
    clear A50
    by_cases c6 : t289 < 0
    · rw [if_pos c6] at H
      have c6b0 : decide (t289 < 0) = true := decide_eq_true c6
      clear c6
      obtain rfl := Option.some.inj H
      go_enter Try.func9, Try.ntmps9
      go_wp2_with (first | ((with_reducible refine gate_dst (N := 2) rfl ?_); refine box_event ?hg (N := 2) ?hd (cs := #[.int .i64 a0_0, .int .i64 a0_1, .slice A0_2 l0_2.length c0_2, .slice A0_3 l0_3.length c0_3, .int .i64 a0_4, .bool a0_5]) (t := 38) ?hr ?_; (case hd => rfl); (case hg => rfl); (case hr => first | (go_simp; done) | (go_simp; rfl)); intro gb288 hg w7 hbox hb; have n0_ := Aside0.mk (below_step Fix.uB hb); have n1_ := Aside0.mk (hbox); have n2_ := Aside0.mk ((by rw [hg]; exact (below_size Fix.uB) : w.heap.size ≤ gb288)); have n3_ := Aside0.mk ((by rw [hg]; exact (below_size Fix.uB) : w.heap.size ≤ gb288)); clear HB; have HB := n0_; have BK288 := n1_; have GW288 := n2_; have GE288 := n3_; clear n0_ n1_ n2_ n3_; clear hb hbox hg; obtain ⟨hcz8_0, hcz8_1, hcz8_2, hcz8_3, hcz8_4, hcz8_5, hfz8_0, hfz8_1, hfz8_2, hfz8_3, hfz8_4, hfz8_5⟩ := Fix.d6 BK288.out) | ((with_reducible refine gate_callee (f := 22) rfl ?_); refine goesL_ (some 22) rfl rfl Try.func22 (by kernel_rfl) rfl #[.agg #[.int .i64 a0_0, .int .i64 a0_1, .slice A0_2 l0_2.length c0_2, .slice A0_3 l0_3.length c0_3, .int .i64 a0_4, .bool a0_5], .int .i64 1048576] rfl Fix.uA ?_; (with_reducible refine (laws_szLine.calls a0_0 a0_1 _ _ l0_2 _ _ l0_3 a0_4 a0_5 1048576 t289 _ ?side1 ?side2 ?side3 ?side4 A5.out).mono ?_); (case side1 => exact Fix.uC (Kd.C_below HR0_2.out HB.out)); (case side2 => exact HC0_2.out); (case side3 => exact Fix.uC (Kd.C_below HR0_3.out HB.out)); (case side4 => exact HC0_3.out); rintro e w9 ⟨rfl, hb⟩; refine ⟨_, rfl, ?_⟩; have n0_ := Aside0.mk (blk_below (g := gb288) (o := .cells #[.int .i64 a0_0, .int .i64 a0_1, .slice A0_2 l0_2.length c0_2, .slice A0_3 l0_3.length c0_3, .int .i64 a0_4, .bool a0_5] 38 (0, 0)) (Fix.uK BK288.out) hb); have n1_ := Aside0.mk (below_step Fix.uB hb); clear BK288; clear HB; have BK288 := n0_; have HB := n1_; clear n0_ n1_; (try clear hb); (try clear hb2); (try clear hk); (try clear hi)))
      go_ret
      exact ⟨by first | rfl | (simp [errW_none, errW_some] <;> rfl) | (simp [*, errW_none, errW_some] <;> rfl), Fix.uB⟩
    · rw [if_neg c6] at H
      have c6b0 : decide (t289 < 0) = false := decide_eq_false c6
      clear c6
      replace H := Option.bind_eq_some_iff.mp H
      obtain ⟨⟨t290, t291, t292, t295, t298, t299⟩, A100, H⟩ := H
      replace H : ((laws_toIntS.f k l1).bind fun t300 => ((spec_RunLine.f k t290 t291 t292 t295 t298 t299 t300).bind fun bt303 => ((laws_toLine.f k a0_0 a0_1 l0_2 l0_3 a0_4 a0_5).bind fun bt315 => ((laws_toIntS.f k l1).bind fun t326 => ((impl_RunLine.f k bt315.1 bt315.2.1 bt315.2.2.1 bt315.2.2.2.1 bt315.2.2.2.2.1 bt315.2.2.2.2.2 t326).bind fun bt329 => ((laws_eqLine.f k bt329.1 bt329.2.1 bt329.2.2.1 bt329.2.2.2.1 bt329.2.2.2.2.1 bt329.2.2.2.2.2.1 bt303.1 bt303.2.1 bt303.2.2.1 bt303.2.2.2.1 bt303.2.2.2.2.1 bt303.2.2.2.2.2.1).bind fun t341 => (if t341 = true then (laws_FnExactRunLine.j0 k l1 bt303.2.2.2.2.2.2 t326 bt329.2.2.2.2.2.2 (bt329.2.2.2.2.2.2 != bt303.2.2.2.2.2.2) a0_0 a0_1 l0_2 l0_3 a0_4 a0_5 bt303.1 bt303.2.1 bt303.2.2.1 bt303.2.2.2.1 bt303.2.2.2.2.1 bt303.2.2.2.2.2.1 bt315.1 bt315.2.1 bt315.2.2.1 bt315.2.2.2.1 bt315.2.2.2.2.1 bt315.2.2.2.2.2 bt329.1 bt329.2.1 bt329.2.2.1 bt329.2.2.2.1 bt329.2.2.2.2.1 bt329.2.2.2.2.2.1) else (laws_FnExactRunLine.j0 k l1 bt303.2.2.2.2.2.2 t326 bt329.2.2.2.2.2.2 true a0_0 a0_1 l0_2 l0_3 a0_4 a0_5 bt303.1 bt303.2.1 bt303.2.2.1 bt303.2.2.2.1 bt303.2.2.2.2.1 bt303.2.2.2.2.2.1 bt315.1 bt315.2.1 bt315.2.2.1 bt315.2.2.2.1 bt315.2.2.2.2.1 bt315.2.2.2.2.2 bt329.1 bt329.2.1 bt329.2.2.1 bt329.2.2.2.1 bt329.2.2.2.2.1 bt329.2.2.2.2.2.1)))))))) = some r := H
      have A10 := Aside0.mk A100
      clear A100
      replace H := Option.bind_eq_some_iff.mp H
      obtain ⟨t300, A110, H⟩ := H
      replace H : ((spec_RunLine.f k t290 t291 t292 t295 t298 t299 t300).bind fun bt303 => ((laws_toLine.f k a0_0 a0_1 l0_2 l0_3 a0_4 a0_5).bind fun bt315 => ((laws_toIntS.f k l1).bind fun t326 => ((impl_RunLine.f k bt315.1 bt315.2.1 bt315.2.2.1 bt315.2.2.2.1 bt315.2.2.2.2.1 bt315.2.2.2.2.2 t326).bind fun bt329 => ((laws_eqLine.f k bt329.1 bt329.2.1 bt329.2.2.1 bt329.2.2.2.1 bt329.2.2.2.2.1 bt329.2.2.2.2.2.1 bt303.1 bt303.2.1 bt303.2.2.1 bt303.2.2.2.1 bt303.2.2.2.2.1 bt303.2.2.2.2.2.1).bind fun t341 => (if t341 = true then (laws_FnExactRunLine.j0 k l1 bt303.2.2.2.2.2.2 t326 bt329.2.2.2.2.2.2 (bt329.2.2.2.2.2.2 != bt303.2.2.2.2.2.2) a0_0 a0_1 l0_2 l0_3 a0_4 a0_5 bt303.1 bt303.2.1 bt303.2.2.1 bt303.2.2.2.1 bt303.2.2.2.2.1 bt303.2.2.2.2.2.1 bt315.1 bt315.2.1 bt315.2.2.1 bt315.2.2.2.1 bt315.2.2.2.2.1 bt315.2.2.2.2.2 bt329.1 bt329.2.1 bt329.2.2.1 bt329.2.2.2.1 bt329.2.2.2.2.1 bt329.2.2.2.2.2.1) else (laws_FnExactRunLine.j0 k l1 bt303.2.2.2.2.2.2 t326 bt329.2.2.2.2.2.2 true a0_0 a0_1 l0_2 l0_3 a0_4 a0_5 bt303.1 bt303.2.1 bt303.2.2.1 bt303.2.2.2.1 bt303.2.2.2.2.1 bt303.2.2.2.2.2.1 bt315.1 bt315.2.1 bt315.2.2.1 bt315.2.2.2.1 bt315.2.2.2.2.1 bt315.2.2.2.2.2 bt329.1 bt329.2.1 bt329.2.2.1 bt329.2.2.2.1 bt329.2.2.2.2.1 bt329.2.2.2.2.2.1))))))) = some r := H
      have A11 := Aside0.mk A110
      clear A110
      replace H := Option.bind_eq_some_iff.mp H
      obtain ⟨⟨t303, t304, t305, t308, t311, t312, t313⟩, A120, H⟩ := H
      replace H : ((laws_toLine.f k a0_0 a0_1 l0_2 l0_3 a0_4 a0_5).bind fun bt315 => ((laws_toIntS.f k l1).bind fun t326 => ((impl_RunLine.f k bt315.1 bt315.2.1 bt315.2.2.1 bt315.2.2.2.1 bt315.2.2.2.2.1 bt315.2.2.2.2.2 t326).bind fun bt329 => ((laws_eqLine.f k bt329.1 bt329.2.1 bt329.2.2.1 bt329.2.2.2.1 bt329.2.2.2.2.1 bt329.2.2.2.2.2.1 t303 t304 t305 t308 t311 t312).bind fun t341 => (if t341 = true then (laws_FnExactRunLine.j0 k l1 t313 t326 bt329.2.2.2.2.2.2 (bt329.2.2.2.2.2.2 != t313) a0_0 a0_1 l0_2 l0_3 a0_4 a0_5 t303 t304 t305 t308 t311 t312 bt315.1 bt315.2.1 bt315.2.2.1 bt315.2.2.2.1 bt315.2.2.2.2.1 bt315.2.2.2.2.2 bt329.1 bt329.2.1 bt329.2.2.1 bt329.2.2.2.1 bt329.2.2.2.2.1 bt329.2.2.2.2.2.1) else (laws_FnExactRunLine.j0 k l1 t313 t326 bt329.2.2.2.2.2.2 true a0_0 a0_1 l0_2 l0_3 a0_4 a0_5 t303 t304 t305 t308 t311 t312 bt315.1 bt315.2.1 bt315.2.2.1 bt315.2.2.2.1 bt315.2.2.2.2.1 bt315.2.2.2.2.2 bt329.1 bt329.2.1 bt329.2.2.1 bt329.2.2.2.1 bt329.2.2.2.2.1 bt329.2.2.2.2.2.1)))))) = some r := H
      have A12 := Aside0.mk A120
      clear A120
      replace H := Option.bind_eq_some_iff.mp H
      obtain ⟨⟨t315, t316, t317, t320, t323, t324⟩, A130, H⟩ := H
      replace H : ((laws_toIntS.f k l1).bind fun t326 => ((impl_RunLine.f k t315 t316 t317 t320 t323 t324 t326).bind fun bt329 => ((laws_eqLine.f k bt329.1 bt329.2.1 bt329.2.2.1 bt329.2.2.2.1 bt329.2.2.2.2.1 bt329.2.2.2.2.2.1 t303 t304 t305 t308 t311 t312).bind fun t341 => (if t341 = true then (laws_FnExactRunLine.j0 k l1 t313 t326 bt329.2.2.2.2.2.2 (bt329.2.2.2.2.2.2 != t313) a0_0 a0_1 l0_2 l0_3 a0_4 a0_5 t303 t304 t305 t308 t311 t312 t315 t316 t317 t320 t323 t324 bt329.1 bt329.2.1 bt329.2.2.1 bt329.2.2.2.1 bt329.2.2.2.2.1 bt329.2.2.2.2.2.1) else (laws_FnExactRunLine.j0 k l1 t313 t326 bt329.2.2.2.2.2.2 true a0_0 a0_1 l0_2 l0_3 a0_4 a0_5 t303 t304 t305 t308 t311 t312 t315 t316 t317 t320 t323 t324 bt329.1 bt329.2.1 bt329.2.2.1 bt329.2.2.2.1 bt329.2.2.2.2.1 bt329.2.2.2.2.2.1))))) = some r := H
      have A13 := Aside0.mk A130
      clear A130
      replace H := Option.bind_eq_some_iff.mp H
      obtain ⟨t326, A140, H⟩ := H
      replace H : ((impl_RunLine.f k t315 t316 t317 t320 t323 t324 t326).bind fun bt329 => ((laws_eqLine.f k bt329.1 bt329.2.1 bt329.2.2.1 bt329.2.2.2.1 bt329.2.2.2.2.1 bt329.2.2.2.2.2.1 t303 t304 t305 t308 t311 t312).bind fun t341 => (if t341 = true then (laws_FnExactRunLine.j0 k l1 t313 t326 bt329.2.2.2.2.2.2 (bt329.2.2.2.2.2.2 != t313) a0_0 a0_1 l0_2 l0_3 a0_4 a0_5 t303 t304 t305 t308 t311 t312 t315 t316 t317 t320 t323 t324 bt329.1 bt329.2.1 bt329.2.2.1 bt329.2.2.2.1 bt329.2.2.2.2.1 bt329.2.2.2.2.2.1) else (laws_FnExactRunLine.j0 k l1 t313 t326 bt329.2.2.2.2.2.2 true a0_0 a0_1 l0_2 l0_3 a0_4 a0_5 t303 t304 t305 t308 t311 t312 t315 t316 t317 t320 t323 t324 bt329.1 bt329.2.1 bt329.2.2.1 bt329.2.2.2.1 bt329.2.2.2.2.1 bt329.2.2.2.2.2.1)))) = some r := H
      have A14 := Aside0.mk A140
      clear A140
      replace H := Option.bind_eq_some_iff.mp H
      obtain ⟨⟨t329, t330, t331, t334, t337, t338, t339⟩, A150, H⟩ := H
      replace H : ((laws_eqLine.f k t329 t330 t331 t334 t337 t338 t303 t304 t305 t308 t311 t312).bind fun t341 => (if t341 = true then (laws_FnExactRunLine.j0 k l1 t313 t326 t339 (t339 != t313) a0_0 a0_1 l0_2 l0_3 a0_4 a0_5 t303 t304 t305 t308 t311 t312 t315 t316 t317 t320 t323 t324 t329 t330 t331 t334 t337 t338) else (laws_FnExactRunLine.j0 k l1 t313 t326 t339 true a0_0 a0_1 l0_2 l0_3 a0_4 a0_5 t303 t304 t305 t308 t311 t312 t315 t316 t317 t320 t323 t324 t329 t330 t331 t334 t337 t338))) = some r := H
      have A15 := Aside0.mk A150
      clear A150
      have HC16 := Aside0.mk H
      clear H
      go_enter Try.func9, Try.ntmps9
      go_upto_region 11 with (first | ((with_reducible refine gate_dst (N := 2) rfl ?_); refine box_event ?hg (N := 2) ?hd (cs := #[.int .i64 a0_0, .int .i64 a0_1, .slice A0_2 l0_2.length c0_2, .slice A0_3 l0_3.length c0_3, .int .i64 a0_4, .bool a0_5]) (t := 38) ?hr ?_; (case hd => rfl); (case hg => rfl); (case hr => first | (go_simp; done) | (go_simp; rfl)); intro gb288 hg w17 hbox hb; have n0_ := Aside0.mk (below_step Fix.uB hb); have n1_ := Aside0.mk (hbox); have n2_ := Aside0.mk ((by rw [hg]; exact (below_size Fix.uB) : w.heap.size ≤ gb288)); have n3_ := Aside0.mk ((by rw [hg]; exact (below_size Fix.uB) : w.heap.size ≤ gb288)); clear HB; have HB := n0_; have BK288 := n1_; have GW288 := n2_; have GE288 := n3_; clear n0_ n1_ n2_ n3_; clear hb hbox hg; obtain ⟨hcz18_0, hcz18_1, hcz18_2, hcz18_3, hcz18_4, hcz18_5, hfz18_0, hfz18_1, hfz18_2, hfz18_3, hfz18_4, hfz18_5⟩ := Fix.d6 BK288.out) | ((with_reducible refine gate_callee (f := 22) rfl ?_); refine goesL_ (some 22) rfl rfl Try.func22 (by kernel_rfl) rfl #[.agg #[.int .i64 a0_0, .int .i64 a0_1, .slice A0_2 l0_2.length c0_2, .slice A0_3 l0_3.length c0_3, .int .i64 a0_4, .bool a0_5], .int .i64 1048576] rfl Fix.uA ?_; (with_reducible refine (laws_szLine.calls a0_0 a0_1 _ _ l0_2 _ _ l0_3 a0_4 a0_5 1048576 t289 _ ?side1 ?side2 ?side3 ?side4 A5.out).mono ?_); (case side1 => exact Fix.uC (Kd.C_below HR0_2.out HB.out)); (case side2 => exact HC0_2.out); (case side3 => exact Fix.uC (Kd.C_below HR0_3.out HB.out)); (case side4 => exact HC0_3.out); rintro e w19 ⟨rfl, hb⟩; refine ⟨_, rfl, ?_⟩; have n0_ := Aside0.mk (blk_below (g := gb288) (o := .cells #[.int .i64 a0_0, .int .i64 a0_1, .slice A0_2 l0_2.length c0_2, .slice A0_3 l0_3.length c0_3, .int .i64 a0_4, .bool a0_5] 38 (0, 0)) (Fix.uK BK288.out) hb); have n1_ := Aside0.mk (below_step Fix.uB hb); clear BK288; clear HB; have BK288 := n0_; have HB := n1_; clear n0_ n1_; (try clear hb); (try clear hb2); (try clear hk); (try clear hi); obtain ⟨hcz20_0, hcz20_1, hcz20_2, hcz20_3, hcz20_4, hcz20_5, hfz20_0, hfz20_1, hfz20_2, hfz20_3, hfz20_4, hfz20_5⟩ := Fix.d6 BK288.out) | ((with_reducible refine gate_callee (f := 24) rfl ?_); refine goesL_ (some 27) rfl rfl Try.func24 (by kernel_rfl) rfl #[.agg #[.int .i64 a0_0, .int .i64 a0_1, .slice A0_2 l0_2.length c0_2, .slice A0_3 l0_3.length c0_3, .int .i64 a0_4, .bool a0_5]] rfl Fix.uA ?_; (with_reducible refine (laws_toLine.calls k a0_0 a0_1 _ _ l0_2 _ _ l0_3 a0_4 a0_5 t290 t291 t292 t295 t298 t299 _ ?side1 ?side2 ?side3 ?side4 A10.out).mono ?_); (case side1 => exact Fix.uC (Kd.C_below HR0_2.out HB.out)); (case side2 => exact HC0_2.out); (case side3 => exact Fix.uC (Kd.C_below HR0_3.out HB.out)); (case side4 => exact HC0_3.out); rintro e w21 ⟨v293, v296, rfl, ho0, ho1, hb⟩; refine ⟨_, rfl, ?_⟩; have n0_ := Aside0.mk (Kd.R_lower ho0 (below_size Fix.uB)); have n1_ := Aside0.mk (Kd.R_lower ho1 (below_size Fix.uB)); have n2_ := Aside0.mk (blk_below (g := gb288) (o := .cells #[.int .i64 a0_0, .int .i64 a0_1, .slice A0_2 l0_2.length c0_2, .slice A0_3 l0_3.length c0_3, .int .i64 a0_4, .bool a0_5] 38 (0, 0)) (Fix.uK BK288.out) hb); have n3_ := Aside0.mk (below_step Fix.uB hb); clear BK288; clear HB; have HO294 := n0_; have HO297 := n1_; have BK288 := n2_; have HB := n3_; clear n0_ n1_ n2_ n3_; (try clear hb); (try clear hb2); (try clear hk); (try clear hi); (try clear ho0); (try clear ho1)) | ((with_reducible refine gate_callee (f := 30) rfl ?_); refine goesL_ (some 29) rfl rfl Try.func30 (by kernel_rfl) rfl #[.slice A1 l1.length c1] rfl Fix.uA ?_; (with_reducible refine (laws_toIntS.calls k _ _ l1 t300 _ ?side1 ?side2 A11.out).mono ?_); (case side1 => exact Fix.uC (Kd.C_below HR1.out HB.out)); (case side2 => exact HC1.out); rintro e w22 ⟨v301, rfl, ho0, hb⟩; refine ⟨_, rfl, ?_⟩; have n0_ := Aside0.mk (Kd.R_elder' (Fix.uR HO294.out) (Kd.R_base ho0) hb); have n1_ := Aside0.mk (Kd.R_elder' (Fix.uR HO297.out) (Kd.R_base ho0) hb); have n2_ := Aside0.mk (Kd.R_lower (Kd.R_new' (Kd.R_new' ho0 (Kd.R_lt (Fix.uR HO294.out))) (Kd.R_lt (Fix.uR HO297.out))) (below_size Fix.uB)); have n3_ := Aside0.mk (blk_below (g := gb288) (o := .cells #[.int .i64 a0_0, .int .i64 a0_1, .slice A0_2 l0_2.length c0_2, .slice A0_3 l0_3.length c0_3, .int .i64 a0_4, .bool a0_5] 38 (0, 0)) (Fix.uK BK288.out) hb); have n4_ := Aside0.mk (below_step Fix.uB hb); clear HO294; clear HO297; clear BK288; clear HB; have HO294 := n0_; have HO297 := n1_; have HO302 := n2_; have BK288 := n3_; have HB := n4_; clear n0_ n1_ n2_ n3_ n4_; (try clear hb); (try clear hb2); (try clear hk); (try clear hi); (try clear ho0); obtain ⟨Ao23, co23, eo23⟩ := Kd.R_slice HO294.out; subst eo23; obtain ⟨Ao24, co24, eo24⟩ := Kd.R_slice HO297.out; subst eo24; obtain ⟨Ao25, co25, eo25⟩ := Kd.R_slice HO302.out; subst eo25) | ((with_reducible refine gate_callee (f := 29) rfl ?_); refine goesL_ (some 30) rfl rfl Try.func29 (by kernel_rfl) rfl #[.agg #[.int .i64 t290, .int .i64 t291, .slice Ao23 t292.length co23, .slice Ao24 t295.length co24, .int .i64 t298, .bool t299], .slice Ao25 t300.length co25] rfl Fix.uA ?_; (with_reducible refine (spec_RunLine.calls k t290 t291 _ _ t292 _ _ t295 t298 t299 _ _ t300 t303 t304 t305 t308 t311 t312 t313 _ ?side1 ?side2 ?side3 ?side4 ?side5 ?side6 A12.out).mono ?_); (case side1 => exact Fix.uC (Kd.R_reads' HO294.out).2.2); (case side2 => exact (Kd.R_reads' HO294.out).2.1); (case side3 => exact Fix.uC (Kd.R_reads' HO297.out).2.2); (case side4 => exact (Kd.R_reads' HO297.out).2.1); (case side5 => exact Fix.uC (Kd.R_reads' HO302.out).2.2); (case side6 => exact (Kd.R_reads' HO302.out).2.1); rintro e w26 ⟨v306, v309, rfl, ho0, ho1, hb⟩; refine ⟨_, rfl, ?_⟩; have n0_ := Aside0.mk (Kd.R_mono (Kd.R_told (Kd.R_told (Kd.R_old (Fix.uR HO294.out) hb) (Kd.Q_base ho0)) (Kd.R_base ho1)) (fun _ h_ => h_.1)); have n1_ := Aside0.mk (Kd.R_mono (Kd.R_told (Kd.R_told (Kd.R_old (Fix.uR HO297.out) hb) (Kd.Q_base ho0)) (Kd.R_base ho1)) (fun _ h_ => h_.1)); have n2_ := Aside0.mk (Kd.R_mono (Kd.R_told (Kd.R_told (Kd.R_old (Fix.uR HO302.out) hb) (Kd.Q_base ho0)) (Kd.R_base ho1)) (fun _ h_ => h_.1)); have n3_ := Aside0.mk (Kd.Q_lower (Kd.Q_new' (Kd.Q_new' (Kd.Q_new' ho0 (Kd.R_lt (Fix.uR HO294.out))) (Kd.R_lt (Fix.uR HO297.out))) (Kd.R_lt (Fix.uR HO302.out))) (below_size Fix.uB)); have n4_ := Aside0.mk (Kd.R_lower (Kd.R_new' (Kd.R_new' (Kd.R_new' ho1 (Kd.R_lt (Fix.uR HO294.out))) (Kd.R_lt (Fix.uR HO297.out))) (Kd.R_lt (Fix.uR HO302.out))) (below_size Fix.uB)); have n5_ := Aside0.mk (blk_below (g := gb288) (o := .cells #[.int .i64 a0_0, .int .i64 a0_1, .slice A0_2 l0_2.length c0_2, .slice A0_3 l0_3.length c0_3, .int .i64 a0_4, .bool a0_5] 38 (0, 0)) (Fix.uK BK288.out) hb); have n6_ := Aside0.mk (below_step Fix.uB hb); clear HO294; clear HO297; clear HO302; clear BK288; clear HB; have HO294 := n0_; have HO297 := n1_; have HO302 := n2_; have HO307 := n3_; have HO310 := n4_; have BK288 := n5_; have HB := n6_; clear n0_ n1_ n2_ n3_ n4_ n5_ n6_; (try clear hb); (try clear hb2); (try clear hk); (try clear hi); (try clear ho0); (try clear ho1)) | ((with_reducible refine gate_dst (N := 6) rfl ?_); refine box_event ?hg (N := 6) ?hd (cs := #[.int .i64 0, .int .i64 0, .slice none 0 0, .slice none 0 0, .int .i64 0, .bool false]) (t := 28) ?hr ?_; (case hd => rfl); (case hg => rfl); (case hr => first | (go_simp; done) | (go_simp; rfl)); intro gb314 hg w27 hbox hb; have n0_ := Aside0.mk (Kd.R_below (Fix.uR HO294.out) hb); have n1_ := Aside0.mk (Kd.R_below (Fix.uR HO297.out) hb); have n2_ := Aside0.mk (Kd.R_below (Fix.uR HO302.out) hb); have n3_ := Aside0.mk (Kd.Q_below (Fix.uQ HO307.out) hb); have n4_ := Aside0.mk (Kd.R_below (Fix.uR HO310.out) hb); have n5_ := Aside0.mk (blk_below (g := gb288) (o := .cells #[.int .i64 a0_0, .int .i64 a0_1, .slice A0_2 l0_2.length c0_2, .slice A0_3 l0_3.length c0_3, .int .i64 a0_4, .bool a0_5] 38 (0, 0)) (Fix.uK BK288.out) hb); have n6_ := Aside0.mk (below_step Fix.uB hb); have n7_ := Aside0.mk (hbox); have n8_ := Aside0.mk ((by rw [hg]; exact (below_size Fix.uB) : w.heap.size ≤ gb314)); have n9_ := Aside0.mk ((by rw [hg]; exact (below_size Fix.uB) : w.heap.size ≤ gb314)); have n10_ := Aside0.mk ((by rw [hg]; exact Nat.ne_of_lt (blk_lt (g := gb288) (o := .cells #[.int .i64 a0_0, .int .i64 a0_1, .slice A0_2 l0_2.length c0_2, .slice A0_3 l0_3.length c0_3, .int .i64 a0_4, .bool a0_5] 38 (0, 0)) (Fix.uK BK288.out)) : gb288 ≠ gb314)); have n11_ := Aside0.mk ((by rw [hg]; exact Nat.ne_of_gt (blk_lt (g := gb288) (o := .cells #[.int .i64 a0_0, .int .i64 a0_1, .slice A0_2 l0_2.length c0_2, .slice A0_3 l0_3.length c0_3, .int .i64 a0_4, .bool a0_5] 38 (0, 0)) (Fix.uK BK288.out)) : gb314 ≠ gb288)); clear HO294; clear HO297; clear HO302; clear HO307; clear HO310; clear BK288; clear HB; have HO294 := n0_; have HO297 := n1_; have HO302 := n2_; have HO307 := n3_; have HO310 := n4_; have BK288 := n5_; have HB := n6_; have BK314 := n7_; have GW314 := n8_; have GE314 := n9_; have NB288_314 := n10_; have NB314_288 := n11_; clear n0_ n1_ n2_ n3_ n4_ n5_ n6_ n7_ n8_ n9_ n10_ n11_; clear hb hbox hg; have hnb28 := NB314_288.out; have hnc28 := NB288_314.out; obtain ⟨hcz29_0, hcz29_1, hcz29_2, hcz29_3, hcz29_4, hcz29_5, hfz29_0, hfz29_1, hfz29_2, hfz29_3, hfz29_4, hfz29_5⟩ := Fix.d6 BK314.out; obtain ⟨Ao30, co30, eo30, _⟩ := Kd.Q_slice HO307.out; subst eo30; obtain ⟨Ao31, co31, eo31⟩ := Kd.R_slice HO310.out; subst eo31) | ((with_reducible refine gate_store (t := 28) (p := 6) rfl ?_); refine store_event (t := 28) (p := 6) (v := ?vo_w32) (w1 := ((((((w27.setCell ⟨gb314, 0, none⟩ (.int .i64 t303)).setCell ⟨gb314, 1, none⟩ (.int .i64 t304)).setCell ⟨gb314, 2, none⟩ (.slice Ao30 t305.length co30)).setCell ⟨gb314, 3, none⟩ (.slice Ao31 t308.length co31)).setCell ⟨gb314, 4, none⟩ (.int .i64 t311)).setCell ⟨gb314, 5, none⟩ (.bool t312))) ?hg ?ho ?hn ?hr ?_; (case ho => rfl); (case hg => rfl); (case hn => rfl); (case hr => first | (go_simp; done) | (go_simp; rfl)); intro w32 hw; have n0_ : Aside0 (Kd.R (Kd.int .i64) 3 w32 w.heap.size (fun k_ => some k_ ≠ (.slice Ao24 t295.length co24 : Value).ownBlock ∧ some k_ ≠ (.slice Ao25 t300.length co25 : Value).ownBlock ∧ some k_ ≠ (.slice Ao30 t305.length co30 : Value).ownBlock ∧ some k_ ≠ (.slice Ao31 t308.length co31 : Value).ownBlock) (.slice Ao23 t292.length co23) t292) := ⟨(by rw [hw]; exact (by (with_reducible repeat (first | apply Kd.R_alloc | apply Kd.R_drewN | apply Kd.R_drew)); exact Kd.R_mono (Fix.R_far6 (g := gb314) (Kd.R_types HO294.out BK314.out (by decide)) (fun _ hk => hk.2) _ _ _ _ _ _) (fun _ hk => ⟨hk.1.1.1.1, ⟨hk.1.1.1.2, ⟨hk.1.1.2, hk.1.2⟩⟩⟩)))⟩; have n1_ : Aside0 (Kd.R (Kd.int .i64) 3 w32 w.heap.size (fun k_ => some k_ ≠ (.slice Ao23 t292.length co23 : Value).ownBlock ∧ some k_ ≠ (.slice Ao25 t300.length co25 : Value).ownBlock ∧ some k_ ≠ (.slice Ao30 t305.length co30 : Value).ownBlock ∧ some k_ ≠ (.slice Ao31 t308.length co31 : Value).ownBlock) (.slice Ao24 t295.length co24) t295) := ⟨(by rw [hw]; exact (by (with_reducible repeat (first | apply Kd.R_alloc | apply Kd.R_drewN | apply Kd.R_drew)); exact Kd.R_mono (Fix.R_far6 (g := gb314) (Kd.R_types HO297.out BK314.out (by decide)) (fun _ hk => hk.2) _ _ _ _ _ _) (fun _ hk => ⟨hk.1.1.1.1, ⟨hk.1.1.1.2, ⟨hk.1.1.2, hk.1.2⟩⟩⟩)))⟩; have n2_ : Aside0 (Kd.R (Kd.int .i64) 3 w32 w.heap.size (fun k_ => some k_ ≠ (.slice Ao23 t292.length co23 : Value).ownBlock ∧ some k_ ≠ (.slice Ao24 t295.length co24 : Value).ownBlock ∧ some k_ ≠ (.slice Ao30 t305.length co30 : Value).ownBlock ∧ some k_ ≠ (.slice Ao31 t308.length co31 : Value).ownBlock) (.slice Ao25 t300.length co25) t300) := ⟨(by rw [hw]; exact (by (with_reducible repeat (first | apply Kd.R_alloc | apply Kd.R_drewN | apply Kd.R_drew)); exact Kd.R_mono (Fix.R_far6 (g := gb314) (Kd.R_types HO302.out BK314.out (by decide)) (fun _ hk => hk.2) _ _ _ _ _ _) (fun _ hk => ⟨hk.1.1.1.1.2, ⟨hk.1.1.1.2, ⟨hk.1.1.2, hk.1.2⟩⟩⟩)))⟩; have n3_ : Aside0 (Kd.Q (Kd.int .i64) 3 w32 w.heap.size (fun k_ => some k_ ≠ (.slice Ao23 t292.length co23 : Value).ownBlock ∧ some k_ ≠ (.slice Ao24 t295.length co24 : Value).ownBlock ∧ some k_ ≠ (.slice Ao25 t300.length co25 : Value).ownBlock ∧ some k_ ≠ (.slice Ao31 t308.length co31 : Value).ownBlock) (.slice Ao30 t305.length co30) t305) := ⟨(by rw [hw]; exact (by (with_reducible repeat (first | apply Kd.Q_alloc | apply Kd.Q_drewN | apply Kd.Q_drew)); exact Kd.Q_mono (Fix.Q_far6 (g := gb314) (Kd.Q_types HO307.out BK314.out (by decide)) (fun _ hk => hk.2) _ _ _ _ _ _) (fun _ hk => ⟨hk.1.1.1.2, ⟨hk.1.1.2, ⟨hk.1.2, hk.1.1.1.1⟩⟩⟩)))⟩; have n4_ : Aside0 (Kd.R (Kd.int .i64) 3 w32 w.heap.size (fun k_ => some k_ ≠ (.slice Ao23 t292.length co23 : Value).ownBlock ∧ some k_ ≠ (.slice Ao24 t295.length co24 : Value).ownBlock ∧ some k_ ≠ (.slice Ao25 t300.length co25 : Value).ownBlock ∧ some k_ ≠ (.slice Ao30 t305.length co30 : Value).ownBlock) (.slice Ao31 t308.length co31) t308) := ⟨(by rw [hw]; exact (by (with_reducible repeat (first | apply Kd.R_alloc | apply Kd.R_drewN | apply Kd.R_drew)); exact Kd.R_mono (Fix.R_far6 (g := gb314) (Kd.R_types HO310.out BK314.out (by decide)) (fun _ hk => hk.2) _ _ _ _ _ _) (fun _ hk => ⟨hk.1.1.1.2, ⟨hk.1.1.2, ⟨hk.1.2, hk.1.1.1.1⟩⟩⟩)))⟩; have n5_ : Aside0 (w32.heap[gb288]? = some (.cells #[.int .i64 a0_0, .int .i64 a0_1, .slice A0_2 l0_2.length c0_2, .slice A0_3 l0_3.length c0_3, .int .i64 a0_4, .bool a0_5] 38 (0, 0))) := ⟨(by rw [hw]; exact (by (with_reducible repeat (first | refine Fix.kN ?_ _ | refine Fix.kD ?_ | refine Fix.kA ?_ _)); refine Fix.far6 ?_ NB288_314.out _ _ _ _ _ _; (with_reducible repeat (first | refine Fix.kN ?_ _ | refine Fix.kD ?_ | refine Fix.kA ?_ _)); exact BK288.out))⟩; have n6_ : Aside0 (w32.heap[gb314]? = some (.cells #[.int .i64 t303, .int .i64 t304, .slice Ao30 t305.length co30, .slice Ao31 t308.length co31, .int .i64 t311, .bool t312] 28 (0, 0))) := ⟨(by rw [hw]; exact (by (with_reducible repeat (first | refine Fix.kN ?_ _ | refine Fix.kD ?_ | refine Fix.kA ?_ _)); apply Fix.put6; (with_reducible repeat (first | refine Fix.kN ?_ _ | refine Fix.kD ?_ | refine Fix.kA ?_ _)); exact BK314.out))⟩; have n7_ : Aside0 (Below w.heap.size w w32) := ⟨(by rw [hw]; exact Fix.uB)⟩; clear hw; clear HO294; clear HO297; clear HO302; clear HO307; clear HO310; clear BK288; clear BK314; clear HB; have HO294 := n0_; have HO297 := n1_; have HO302 := n2_; have HO307 := n3_; have HO310 := n4_; have BK288 := n5_; have BK314 := n6_; have HB := n7_; clear n0_ n1_ n2_ n3_ n4_ n5_ n6_ n7_; obtain ⟨hcz33_0, hcz33_1, hcz33_2, hcz33_3, hcz33_4, hcz33_5, hfz33_0, hfz33_1, hfz33_2, hfz33_3, hfz33_4, hfz33_5⟩ := Fix.d6 BK288.out) | ((with_reducible refine gate_callee (f := 24) rfl ?_); refine goesL_ (some 34) rfl rfl Try.func24 (by kernel_rfl) rfl #[.agg #[.int .i64 a0_0, .int .i64 a0_1, .slice A0_2 l0_2.length c0_2, .slice A0_3 l0_3.length c0_3, .int .i64 a0_4, .bool a0_5]] rfl Fix.uA ?_; (with_reducible refine (laws_toLine.calls k a0_0 a0_1 _ _ l0_2 _ _ l0_3 a0_4 a0_5 t315 t316 t317 t320 t323 t324 _ ?side1 ?side2 ?side3 ?side4 A13.out).mono ?_); (case side1 => exact Fix.uC (Kd.C_below HR0_2.out HB.out)); (case side2 => exact HC0_2.out); (case side3 => exact Fix.uC (Kd.C_below HR0_3.out HB.out)); (case side4 => exact HC0_3.out); rintro e w34 ⟨v318, v321, rfl, ho0, ho1, hb⟩; refine ⟨_, rfl, ?_⟩; have n0_ := Aside0.mk (Kd.R_mono (Kd.R_told (Kd.R_told (Kd.R_old (Fix.uR HO294.out) hb) (Kd.R_base ho0)) (Kd.R_base ho1)) (fun _ h_ => h_.1)); have n1_ := Aside0.mk (Kd.R_mono (Kd.R_told (Kd.R_told (Kd.R_old (Fix.uR HO297.out) hb) (Kd.R_base ho0)) (Kd.R_base ho1)) (fun _ h_ => h_.1)); have n2_ := Aside0.mk (Kd.R_mono (Kd.R_told (Kd.R_told (Kd.R_old (Fix.uR HO302.out) hb) (Kd.R_base ho0)) (Kd.R_base ho1)) (fun _ h_ => h_.1)); have n3_ := Aside0.mk (Kd.Q_mono (Kd.Q_told (Kd.Q_told (Kd.Q_old (Fix.uQ HO307.out) hb) (Kd.R_base ho0)) (Kd.R_base ho1)) (fun _ h_ => h_.1)); have n4_ := Aside0.mk (Kd.R_mono (Kd.R_told (Kd.R_told (Kd.R_old (Fix.uR HO310.out) hb) (Kd.R_base ho0)) (Kd.R_base ho1)) (fun _ h_ => h_.1)); have n5_ := Aside0.mk (Kd.R_lower (Kd.R_new' (Kd.R_new' (Kd.R_new' (Kd.R_new' (Kd.R_new' ho0 (Kd.R_lt (Fix.uR HO294.out))) (Kd.R_lt (Fix.uR HO297.out))) (Kd.R_lt (Fix.uR HO302.out))) (Kd.Q_lt (Fix.uQ HO307.out))) (Kd.R_lt (Fix.uR HO310.out))) (below_size Fix.uB)); have n6_ := Aside0.mk (Kd.R_lower (Kd.R_new' (Kd.R_new' (Kd.R_new' (Kd.R_new' (Kd.R_new' ho1 (Kd.R_lt (Fix.uR HO294.out))) (Kd.R_lt (Fix.uR HO297.out))) (Kd.R_lt (Fix.uR HO302.out))) (Kd.Q_lt (Fix.uQ HO307.out))) (Kd.R_lt (Fix.uR HO310.out))) (below_size Fix.uB)); have n7_ := Aside0.mk (blk_below (g := gb288) (o := .cells #[.int .i64 a0_0, .int .i64 a0_1, .slice A0_2 l0_2.length c0_2, .slice A0_3 l0_3.length c0_3, .int .i64 a0_4, .bool a0_5] 38 (0, 0)) (Fix.uK BK288.out) hb); have n8_ := Aside0.mk (blk_below (g := gb314) (o := .cells #[.int .i64 t303, .int .i64 t304, .slice Ao30 t305.length co30, .slice Ao31 t308.length co31, .int .i64 t311, .bool t312] 28 (0, 0)) (Fix.uK BK314.out) hb); have n9_ := Aside0.mk (below_step Fix.uB hb); clear HO294; clear HO297; clear HO302; clear HO307; clear HO310; clear BK288; clear BK314; clear HB; have HO294 := n0_; have HO297 := n1_; have HO302 := n2_; have HO307 := n3_; have HO310 := n4_; have HO319 := n5_; have HO322 := n6_; have BK288 := n7_; have BK314 := n8_; have HB := n9_; clear n0_ n1_ n2_ n3_ n4_ n5_ n6_ n7_ n8_ n9_; (try clear hb); (try clear hb2); (try clear hk); (try clear hi); (try clear ho0); (try clear ho1)) | ((with_reducible refine gate_dst (N := 8) rfl ?_); refine box_event ?hg (N := 8) ?hd (cs := #[.int .i64 0, .int .i64 0, .slice none 0 0, .slice none 0 0, .int .i64 0, .bool false]) (t := 28) ?hr ?_; (case hd => rfl); (case hg => rfl); (case hr => first | (go_simp; done) | (go_simp; rfl)); intro gb325 hg w35 hbox hb; have n0_ := Aside0.mk (Kd.R_below (Fix.uR HO294.out) hb); have n1_ := Aside0.mk (Kd.R_below (Fix.uR HO297.out) hb); have n2_ := Aside0.mk (Kd.R_below (Fix.uR HO302.out) hb); have n3_ := Aside0.mk (Kd.Q_below (Fix.uQ HO307.out) hb); have n4_ := Aside0.mk (Kd.R_below (Fix.uR HO310.out) hb); have n5_ := Aside0.mk (Kd.R_below (Fix.uR HO319.out) hb); have n6_ := Aside0.mk (Kd.R_below (Fix.uR HO322.out) hb); have n7_ := Aside0.mk (blk_below (g := gb288) (o := .cells #[.int .i64 a0_0, .int .i64 a0_1, .slice A0_2 l0_2.length c0_2, .slice A0_3 l0_3.length c0_3, .int .i64 a0_4, .bool a0_5] 38 (0, 0)) (Fix.uK BK288.out) hb); have n8_ := Aside0.mk (blk_below (g := gb314) (o := .cells #[.int .i64 t303, .int .i64 t304, .slice Ao30 t305.length co30, .slice Ao31 t308.length co31, .int .i64 t311, .bool t312] 28 (0, 0)) (Fix.uK BK314.out) hb); have n9_ := Aside0.mk (below_step Fix.uB hb); have n10_ := Aside0.mk (hbox); have n11_ := Aside0.mk ((by rw [hg]; exact (below_size Fix.uB) : w.heap.size ≤ gb325)); have n12_ := Aside0.mk ((by rw [hg]; exact (below_size Fix.uB) : w.heap.size ≤ gb325)); have n13_ := Aside0.mk ((by rw [hg]; exact Nat.ne_of_lt (blk_lt (g := gb288) (o := .cells #[.int .i64 a0_0, .int .i64 a0_1, .slice A0_2 l0_2.length c0_2, .slice A0_3 l0_3.length c0_3, .int .i64 a0_4, .bool a0_5] 38 (0, 0)) (Fix.uK BK288.out)) : gb288 ≠ gb325)); have n14_ := Aside0.mk ((by rw [hg]; exact Nat.ne_of_gt (blk_lt (g := gb288) (o := .cells #[.int .i64 a0_0, .int .i64 a0_1, .slice A0_2 l0_2.length c0_2, .slice A0_3 l0_3.length c0_3, .int .i64 a0_4, .bool a0_5] 38 (0, 0)) (Fix.uK BK288.out)) : gb325 ≠ gb288)); have n15_ := Aside0.mk ((by rw [hg]; exact Nat.ne_of_lt (blk_lt (g := gb314) (o := .cells #[.int .i64 t303, .int .i64 t304, .slice Ao30 t305.length co30, .slice Ao31 t308.length co31, .int .i64 t311, .bool t312] 28 (0, 0)) (Fix.uK BK314.out)) : gb314 ≠ gb325)); have n16_ := Aside0.mk ((by rw [hg]; exact Nat.ne_of_gt (blk_lt (g := gb314) (o := .cells #[.int .i64 t303, .int .i64 t304, .slice Ao30 t305.length co30, .slice Ao31 t308.length co31, .int .i64 t311, .bool t312] 28 (0, 0)) (Fix.uK BK314.out)) : gb325 ≠ gb314)); clear HO294; clear HO297; clear HO302; clear HO307; clear HO310; clear HO319; clear HO322; clear BK288; clear BK314; clear HB; have HO294 := n0_; have HO297 := n1_; have HO302 := n2_; have HO307 := n3_; have HO310 := n4_; have HO319 := n5_; have HO322 := n6_; have BK288 := n7_; have BK314 := n8_; have HB := n9_; have BK325 := n10_; have GW325 := n11_; have GE325 := n12_; have NB288_325 := n13_; have NB325_288 := n14_; have NB314_325 := n15_; have NB325_314 := n16_; clear n0_ n1_ n2_ n3_ n4_ n5_ n6_ n7_ n8_ n9_ n10_ n11_ n12_ n13_ n14_ n15_ n16_; clear hb hbox hg; have hnb36 := NB325_288.out; have hnc36 := NB288_325.out; have hnb37 := NB325_314.out; have hnc37 := NB314_325.out; obtain ⟨hcz38_0, hcz38_1, hcz38_2, hcz38_3, hcz38_4, hcz38_5, hfz38_0, hfz38_1, hfz38_2, hfz38_3, hfz38_4, hfz38_5⟩ := Fix.d6 BK325.out; obtain ⟨Ao39, co39, eo39⟩ := Kd.R_slice HO319.out; subst eo39; obtain ⟨Ao40, co40, eo40⟩ := Kd.R_slice HO322.out; subst eo40) | ((with_reducible refine gate_callee (f := 30) rfl ?_); refine goesL_ (some 36) rfl rfl Try.func30 (by kernel_rfl) rfl #[.slice A1 l1.length c1] rfl Fix.uA ?_; (with_reducible refine (laws_toIntS.calls k _ _ l1 t326 _ ?side1 ?side2 A14.out).mono ?_); (case side1 => exact Kd.C_below HR1.out Fix.uB); (case side2 => exact HC1.out); rintro e w41 ⟨v327, rfl, ho0, hb⟩; refine ⟨_, rfl, ?_⟩; have n0_ := Aside0.mk (Kd.R_elder' (by (with_reducible repeat (first | apply Kd.R_alloc | apply Kd.R_drewN | apply Kd.R_drew)); exact (Kd.R_mono (Fix.R_far6 (g := gb325) (Kd.R_types HO294.out BK325.out (by decide)) (fun _ hk => hk.2) _ _ _ _ _ _) (fun _ h_ => h_.1))) (Kd.R_base ho0) hb); have n1_ := Aside0.mk (Kd.R_elder' (by (with_reducible repeat (first | apply Kd.R_alloc | apply Kd.R_drewN | apply Kd.R_drew)); exact (Kd.R_mono (Fix.R_far6 (g := gb325) (Kd.R_types HO297.out BK325.out (by decide)) (fun _ hk => hk.2) _ _ _ _ _ _) (fun _ h_ => h_.1))) (Kd.R_base ho0) hb); have n2_ := Aside0.mk (Kd.R_elder' (by (with_reducible repeat (first | apply Kd.R_alloc | apply Kd.R_drewN | apply Kd.R_drew)); exact (Kd.R_mono (Fix.R_far6 (g := gb325) (Kd.R_types HO302.out BK325.out (by decide)) (fun _ hk => hk.2) _ _ _ _ _ _) (fun _ h_ => h_.1))) (Kd.R_base ho0) hb); have n3_ := Aside0.mk (Kd.Q_elder' (by (with_reducible repeat (first | apply Kd.Q_alloc | apply Kd.Q_drewN | apply Kd.Q_drew)); exact (Kd.Q_mono (Fix.Q_far6 (g := gb325) (Kd.Q_types HO307.out BK325.out (by decide)) (fun _ hk => hk.2) _ _ _ _ _ _) (fun _ h_ => h_.1))) (Kd.R_base ho0) hb); have n4_ := Aside0.mk (Kd.R_elder' (by (with_reducible repeat (first | apply Kd.R_alloc | apply Kd.R_drewN | apply Kd.R_drew)); exact (Kd.R_mono (Fix.R_far6 (g := gb325) (Kd.R_types HO310.out BK325.out (by decide)) (fun _ hk => hk.2) _ _ _ _ _ _) (fun _ h_ => h_.1))) (Kd.R_base ho0) hb); have n5_ := Aside0.mk (Kd.R_elder' (by (with_reducible repeat (first | apply Kd.R_alloc | apply Kd.R_drewN | apply Kd.R_drew)); exact (Kd.R_mono (Fix.R_far6 (g := gb325) (Kd.R_types HO319.out BK325.out (by decide)) (fun _ hk => hk.2) _ _ _ _ _ _) (fun _ h_ => h_.1))) (Kd.R_base ho0) hb); have n6_ := Aside0.mk (Kd.R_elder' (by (with_reducible repeat (first | apply Kd.R_alloc | apply Kd.R_drewN | apply Kd.R_drew)); exact (Kd.R_mono (Fix.R_far6 (g := gb325) (Kd.R_types HO322.out BK325.out (by decide)) (fun _ hk => hk.2) _ _ _ _ _ _) (fun _ h_ => h_.1))) (Kd.R_base ho0) hb); have n7_ := Aside0.mk (Kd.R_lower (Kd.R_new' (Kd.R_new' (Kd.R_new' (Kd.R_new' (Kd.R_new' (Kd.R_new' (Kd.R_new' ho0 (Kd.R_lt (by (with_reducible repeat (first | apply Kd.R_alloc | apply Kd.R_drewN | apply Kd.R_drew)); exact (Kd.R_mono (Fix.R_far6 (g := gb325) (Kd.R_types HO294.out BK325.out (by decide)) (fun _ hk => hk.2) _ _ _ _ _ _) (fun _ h_ => h_.1))))) (Kd.R_lt (by (with_reducible repeat (first | apply Kd.R_alloc | apply Kd.R_drewN | apply Kd.R_drew)); exact (Kd.R_mono (Fix.R_far6 (g := gb325) (Kd.R_types HO297.out BK325.out (by decide)) (fun _ hk => hk.2) _ _ _ _ _ _) (fun _ h_ => h_.1))))) (Kd.R_lt (by (with_reducible repeat (first | apply Kd.R_alloc | apply Kd.R_drewN | apply Kd.R_drew)); exact (Kd.R_mono (Fix.R_far6 (g := gb325) (Kd.R_types HO302.out BK325.out (by decide)) (fun _ hk => hk.2) _ _ _ _ _ _) (fun _ h_ => h_.1))))) (Kd.Q_lt (by (with_reducible repeat (first | apply Kd.Q_alloc | apply Kd.Q_drewN | apply Kd.Q_drew)); exact (Kd.Q_mono (Fix.Q_far6 (g := gb325) (Kd.Q_types HO307.out BK325.out (by decide)) (fun _ hk => hk.2) _ _ _ _ _ _) (fun _ h_ => h_.1))))) (Kd.R_lt (by (with_reducible repeat (first | apply Kd.R_alloc | apply Kd.R_drewN | apply Kd.R_drew)); exact (Kd.R_mono (Fix.R_far6 (g := gb325) (Kd.R_types HO310.out BK325.out (by decide)) (fun _ hk => hk.2) _ _ _ _ _ _) (fun _ h_ => h_.1))))) (Kd.R_lt (by (with_reducible repeat (first | apply Kd.R_alloc | apply Kd.R_drewN | apply Kd.R_drew)); exact (Kd.R_mono (Fix.R_far6 (g := gb325) (Kd.R_types HO319.out BK325.out (by decide)) (fun _ hk => hk.2) _ _ _ _ _ _) (fun _ h_ => h_.1))))) (Kd.R_lt (by (with_reducible repeat (first | apply Kd.R_alloc | apply Kd.R_drewN | apply Kd.R_drew)); exact (Kd.R_mono (Fix.R_far6 (g := gb325) (Kd.R_types HO322.out BK325.out (by decide)) (fun _ hk => hk.2) _ _ _ _ _ _) (fun _ h_ => h_.1))))) (below_size Fix.uB)); have n8_ := Aside0.mk (blk_below (g := gb288) (o := .cells #[.int .i64 a0_0, .int .i64 a0_1, .slice A0_2 l0_2.length c0_2, .slice A0_3 l0_3.length c0_3, .int .i64 a0_4, .bool a0_5] 38 (0, 0)) (by (with_reducible repeat (first | refine Fix.kN ?_ _ | refine Fix.kD ?_ | refine Fix.kA ?_ _)); refine Fix.far6 ?_ NB288_325.out _ _ _ _ _ _; (with_reducible repeat (first | refine Fix.kN ?_ _ | refine Fix.kD ?_ | refine Fix.kA ?_ _)); exact BK288.out) hb); have n9_ := Aside0.mk (blk_below (g := gb314) (o := .cells #[.int .i64 t303, .int .i64 t304, .slice Ao30 t305.length co30, .slice Ao31 t308.length co31, .int .i64 t311, .bool t312] 28 (0, 0)) (by (with_reducible repeat (first | refine Fix.kN ?_ _ | refine Fix.kD ?_ | refine Fix.kA ?_ _)); refine Fix.far6 ?_ NB314_325.out _ _ _ _ _ _; (with_reducible repeat (first | refine Fix.kN ?_ _ | refine Fix.kD ?_ | refine Fix.kA ?_ _)); exact BK314.out) hb); have n10_ := Aside0.mk (blk_below (g := gb325) (o := .cells #[.int .i64 t315, .int .i64 t316, .slice Ao39 t317.length co39, .slice Ao40 t320.length co40, .int .i64 t323, .bool t324] 28 (0, 0)) (by (with_reducible repeat (first | refine Fix.kN ?_ _ | refine Fix.kD ?_ | refine Fix.kA ?_ _)); apply Fix.put6; (with_reducible repeat (first | refine Fix.kN ?_ _ | refine Fix.kD ?_ | refine Fix.kA ?_ _)); exact BK325.out) hb); have n11_ := Aside0.mk (below_step Fix.uB hb); clear HO294; clear HO297; clear HO302; clear HO307; clear HO310; clear HO319; clear HO322; clear BK288; clear BK314; clear BK325; clear HB; have HO294 := n0_; have HO297 := n1_; have HO302 := n2_; have HO307 := n3_; have HO310 := n4_; have HO319 := n5_; have HO322 := n6_; have HO328 := n7_; have BK288 := n8_; have BK314 := n9_; have BK325 := n10_; have HB := n11_; clear n0_ n1_ n2_ n3_ n4_ n5_ n6_ n7_ n8_ n9_ n10_ n11_; (try clear hb); (try clear hb2); (try clear hk); (try clear hi); (try clear ho0); obtain ⟨hcz42_0, hcz42_1, hcz42_2, hcz42_3, hcz42_4, hcz42_5, hfz42_0, hfz42_1, hfz42_2, hfz42_3, hfz42_4, hfz42_5⟩ := Fix.d6 BK325.out; obtain ⟨Ao43, co43, eo43⟩ := Kd.R_slice HO328.out; subst eo43) | ((with_reducible refine gate_callee (f := 14) rfl ?_); refine goesL_ (some 40) rfl rfl Try.func14 (by kernel_rfl) rfl #[.agg #[.int .i64 t315, .int .i64 t316, .slice Ao39 t317.length co39, .slice Ao40 t320.length co40, .int .i64 t323, .bool t324], .slice Ao43 t326.length co43] rfl Fix.uA ?_; (with_reducible refine (impl_RunLine.calls k t315 t316 _ _ t317 _ _ t320 t323 t324 _ _ t326 t329 t330 t331 t334 t337 t338 t339 _ ?side1 ?side2 ?side3 ?side4 ?side5 ?side6 A15.out).mono ?_); (case side1 => exact Fix.uC (Kd.R_reads' HO319.out).2.2); (case side2 => exact (Kd.R_reads' HO319.out).2.1); (case side3 => exact Fix.uC (Kd.R_reads' HO322.out).2.2); (case side4 => exact (Kd.R_reads' HO322.out).2.1); (case side5 => exact Fix.uC (Kd.R_reads' HO328.out).2.2); (case side6 => exact (Kd.R_reads' HO328.out).2.1); rintro e w44 ⟨v332, v335, rfl, ho0, ho1, hb⟩; refine ⟨_, rfl, ?_⟩; have n0_ := Aside0.mk (Kd.R_mono (Kd.R_told (Kd.R_told (Kd.R_old (Fix.uR HO294.out) hb) (Kd.Q_base ho0)) (Kd.R_base ho1)) (fun _ h_ => h_.1)); have n1_ := Aside0.mk (Kd.R_mono (Kd.R_told (Kd.R_told (Kd.R_old (Fix.uR HO297.out) hb) (Kd.Q_base ho0)) (Kd.R_base ho1)) (fun _ h_ => h_.1)); have n2_ := Aside0.mk (Kd.R_mono (Kd.R_told (Kd.R_told (Kd.R_old (Fix.uR HO302.out) hb) (Kd.Q_base ho0)) (Kd.R_base ho1)) (fun _ h_ => h_.1)); have n3_ := Aside0.mk (Kd.Q_mono (Kd.Q_told (Kd.Q_told (Kd.Q_old (Fix.uQ HO307.out) hb) (Kd.Q_base ho0)) (Kd.R_base ho1)) (fun _ h_ => h_.1)); have n4_ := Aside0.mk (Kd.R_mono (Kd.R_told (Kd.R_told (Kd.R_old (Fix.uR HO310.out) hb) (Kd.Q_base ho0)) (Kd.R_base ho1)) (fun _ h_ => h_.1)); have n5_ := Aside0.mk (Kd.R_mono (Kd.R_told (Kd.R_told (Kd.R_old (Fix.uR HO319.out) hb) (Kd.Q_base ho0)) (Kd.R_base ho1)) (fun _ h_ => h_.1)); have n6_ := Aside0.mk (Kd.R_mono (Kd.R_told (Kd.R_told (Kd.R_old (Fix.uR HO322.out) hb) (Kd.Q_base ho0)) (Kd.R_base ho1)) (fun _ h_ => h_.1)); have n7_ := Aside0.mk (Kd.R_mono (Kd.R_told (Kd.R_told (Kd.R_old (Fix.uR HO328.out) hb) (Kd.Q_base ho0)) (Kd.R_base ho1)) (fun _ h_ => h_.1)); have n8_ := Aside0.mk (Kd.Q_lower (Kd.Q_new' (Kd.Q_new' (Kd.Q_new' (Kd.Q_new' (Kd.Q_new' (Kd.Q_new' (Kd.Q_new' (Kd.Q_new' ho0 (Kd.R_lt (Fix.uR HO294.out))) (Kd.R_lt (Fix.uR HO297.out))) (Kd.R_lt (Fix.uR HO302.out))) (Kd.Q_lt (Fix.uQ HO307.out))) (Kd.R_lt (Fix.uR HO310.out))) (Kd.R_lt (Fix.uR HO319.out))) (Kd.R_lt (Fix.uR HO322.out))) (Kd.R_lt (Fix.uR HO328.out))) (below_size Fix.uB)); have n9_ := Aside0.mk (Kd.R_lower (Kd.R_new' (Kd.R_new' (Kd.R_new' (Kd.R_new' (Kd.R_new' (Kd.R_new' (Kd.R_new' (Kd.R_new' ho1 (Kd.R_lt (Fix.uR HO294.out))) (Kd.R_lt (Fix.uR HO297.out))) (Kd.R_lt (Fix.uR HO302.out))) (Kd.Q_lt (Fix.uQ HO307.out))) (Kd.R_lt (Fix.uR HO310.out))) (Kd.R_lt (Fix.uR HO319.out))) (Kd.R_lt (Fix.uR HO322.out))) (Kd.R_lt (Fix.uR HO328.out))) (below_size Fix.uB)); have n10_ := Aside0.mk (blk_below (g := gb288) (o := .cells #[.int .i64 a0_0, .int .i64 a0_1, .slice A0_2 l0_2.length c0_2, .slice A0_3 l0_3.length c0_3, .int .i64 a0_4, .bool a0_5] 38 (0, 0)) (Fix.uK BK288.out) hb); have n11_ := Aside0.mk (blk_below (g := gb314) (o := .cells #[.int .i64 t303, .int .i64 t304, .slice Ao30 t305.length co30, .slice Ao31 t308.length co31, .int .i64 t311, .bool t312] 28 (0, 0)) (Fix.uK BK314.out) hb); have n12_ := Aside0.mk (blk_below (g := gb325) (o := .cells #[.int .i64 t315, .int .i64 t316, .slice Ao39 t317.length co39, .slice Ao40 t320.length co40, .int .i64 t323, .bool t324] 28 (0, 0)) (Fix.uK BK325.out) hb); have n13_ := Aside0.mk (below_step Fix.uB hb); clear HO294; clear HO297; clear HO302; clear HO307; clear HO310; clear HO319; clear HO322; clear HO328; clear BK288; clear BK314; clear BK325; clear HB; have HO294 := n0_; have HO297 := n1_; have HO302 := n2_; have HO307 := n3_; have HO310 := n4_; have HO319 := n5_; have HO322 := n6_; have HO328 := n7_; have HO333 := n8_; have HO336 := n9_; have BK288 := n10_; have BK314 := n11_; have BK325 := n12_; have HB := n13_; clear n0_ n1_ n2_ n3_ n4_ n5_ n6_ n7_ n8_ n9_ n10_ n11_ n12_ n13_; (try clear hb); (try clear hb2); (try clear hk); (try clear hi); (try clear ho0); (try clear ho1)) | ((with_reducible refine gate_dst (N := 10) rfl ?_); refine box_event ?hg (N := 10) ?hd (cs := #[.int .i64 0, .int .i64 0, .slice none 0 0, .slice none 0 0, .int .i64 0, .bool false]) (t := 28) ?hr ?_; (case hd => rfl); (case hg => rfl); (case hr => first | (go_simp; done) | (go_simp; rfl)); intro gb340 hg w45 hbox hb; have n0_ := Aside0.mk (Kd.R_below (Fix.uR HO294.out) hb); have n1_ := Aside0.mk (Kd.R_below (Fix.uR HO297.out) hb); have n2_ := Aside0.mk (Kd.R_below (Fix.uR HO302.out) hb); have n3_ := Aside0.mk (Kd.Q_below (Fix.uQ HO307.out) hb); have n4_ := Aside0.mk (Kd.R_below (Fix.uR HO310.out) hb); have n5_ := Aside0.mk (Kd.R_below (Fix.uR HO319.out) hb); have n6_ := Aside0.mk (Kd.R_below (Fix.uR HO322.out) hb); have n7_ := Aside0.mk (Kd.R_below (Fix.uR HO328.out) hb); have n8_ := Aside0.mk (Kd.Q_below (Fix.uQ HO333.out) hb); have n9_ := Aside0.mk (Kd.R_below (Fix.uR HO336.out) hb); have n10_ := Aside0.mk (blk_below (g := gb288) (o := .cells #[.int .i64 a0_0, .int .i64 a0_1, .slice A0_2 l0_2.length c0_2, .slice A0_3 l0_3.length c0_3, .int .i64 a0_4, .bool a0_5] 38 (0, 0)) (Fix.uK BK288.out) hb); have n11_ := Aside0.mk (blk_below (g := gb314) (o := .cells #[.int .i64 t303, .int .i64 t304, .slice Ao30 t305.length co30, .slice Ao31 t308.length co31, .int .i64 t311, .bool t312] 28 (0, 0)) (Fix.uK BK314.out) hb); have n12_ := Aside0.mk (blk_below (g := gb325) (o := .cells #[.int .i64 t315, .int .i64 t316, .slice Ao39 t317.length co39, .slice Ao40 t320.length co40, .int .i64 t323, .bool t324] 28 (0, 0)) (Fix.uK BK325.out) hb); have n13_ := Aside0.mk (below_step Fix.uB hb); have n14_ := Aside0.mk (hbox); have n15_ := Aside0.mk ((by rw [hg]; exact (below_size Fix.uB) : w.heap.size ≤ gb340)); have n16_ := Aside0.mk ((by rw [hg]; exact (below_size Fix.uB) : w.heap.size ≤ gb340)); have n17_ := Aside0.mk ((by rw [hg]; exact Nat.ne_of_lt (blk_lt (g := gb288) (o := .cells #[.int .i64 a0_0, .int .i64 a0_1, .slice A0_2 l0_2.length c0_2, .slice A0_3 l0_3.length c0_3, .int .i64 a0_4, .bool a0_5] 38 (0, 0)) (Fix.uK BK288.out)) : gb288 ≠ gb340)); have n18_ := Aside0.mk ((by rw [hg]; exact Nat.ne_of_gt (blk_lt (g := gb288) (o := .cells #[.int .i64 a0_0, .int .i64 a0_1, .slice A0_2 l0_2.length c0_2, .slice A0_3 l0_3.length c0_3, .int .i64 a0_4, .bool a0_5] 38 (0, 0)) (Fix.uK BK288.out)) : gb340 ≠ gb288)); have n19_ := Aside0.mk ((by rw [hg]; exact Nat.ne_of_lt (blk_lt (g := gb314) (o := .cells #[.int .i64 t303, .int .i64 t304, .slice Ao30 t305.length co30, .slice Ao31 t308.length co31, .int .i64 t311, .bool t312] 28 (0, 0)) (Fix.uK BK314.out)) : gb314 ≠ gb340)); have n20_ := Aside0.mk ((by rw [hg]; exact Nat.ne_of_gt (blk_lt (g := gb314) (o := .cells #[.int .i64 t303, .int .i64 t304, .slice Ao30 t305.length co30, .slice Ao31 t308.length co31, .int .i64 t311, .bool t312] 28 (0, 0)) (Fix.uK BK314.out)) : gb340 ≠ gb314)); have n21_ := Aside0.mk ((by rw [hg]; exact Nat.ne_of_lt (blk_lt (g := gb325) (o := .cells #[.int .i64 t315, .int .i64 t316, .slice Ao39 t317.length co39, .slice Ao40 t320.length co40, .int .i64 t323, .bool t324] 28 (0, 0)) (Fix.uK BK325.out)) : gb325 ≠ gb340)); have n22_ := Aside0.mk ((by rw [hg]; exact Nat.ne_of_gt (blk_lt (g := gb325) (o := .cells #[.int .i64 t315, .int .i64 t316, .slice Ao39 t317.length co39, .slice Ao40 t320.length co40, .int .i64 t323, .bool t324] 28 (0, 0)) (Fix.uK BK325.out)) : gb340 ≠ gb325)); clear HO294; clear HO297; clear HO302; clear HO307; clear HO310; clear HO319; clear HO322; clear HO328; clear HO333; clear HO336; clear BK288; clear BK314; clear BK325; clear HB; have HO294 := n0_; have HO297 := n1_; have HO302 := n2_; have HO307 := n3_; have HO310 := n4_; have HO319 := n5_; have HO322 := n6_; have HO328 := n7_; have HO333 := n8_; have HO336 := n9_; have BK288 := n10_; have BK314 := n11_; have BK325 := n12_; have HB := n13_; have BK340 := n14_; have GW340 := n15_; have GE340 := n16_; have NB288_340 := n17_; have NB340_288 := n18_; have NB314_340 := n19_; have NB340_314 := n20_; have NB325_340 := n21_; have NB340_325 := n22_; clear n0_ n1_ n2_ n3_ n4_ n5_ n6_ n7_ n8_ n9_ n10_ n11_ n12_ n13_ n14_ n15_ n16_ n17_ n18_ n19_ n20_ n21_ n22_; clear hb hbox hg; have hnb46 := NB340_288.out; have hnc46 := NB288_340.out; have hnb47 := NB340_314.out; have hnc47 := NB314_340.out; have hnb48 := NB340_325.out; have hnc48 := NB325_340.out; obtain ⟨hcz49_0, hcz49_1, hcz49_2, hcz49_3, hcz49_4, hcz49_5, hfz49_0, hfz49_1, hfz49_2, hfz49_3, hfz49_4, hfz49_5⟩ := Fix.d6 BK340.out; obtain ⟨Ao50, co50, eo50, _⟩ := Kd.Q_slice HO333.out; subst eo50; obtain ⟨Ao51, co51, eo51⟩ := Kd.R_slice HO336.out; subst eo51) | ((with_reducible refine gate_store (t := 28) (p := 10) rfl ?_); refine store_event (t := 28) (p := 10) (v := ?vo_w52) (w1 := ((((((w45.setCell ⟨gb340, 0, none⟩ (.int .i64 t329)).setCell ⟨gb340, 1, none⟩ (.int .i64 t330)).setCell ⟨gb340, 2, none⟩ (.slice Ao50 t331.length co50)).setCell ⟨gb340, 3, none⟩ (.slice Ao51 t334.length co51)).setCell ⟨gb340, 4, none⟩ (.int .i64 t337)).setCell ⟨gb340, 5, none⟩ (.bool t338))) ?hg ?ho ?hn ?hr ?_; (case ho => rfl); (case hg => rfl); (case hn => rfl); (case hr => first | (go_simp; done) | (go_simp; rfl)); intro w52 hw; have n0_ : Aside0 (Kd.R (Kd.int .i64) 3 w52 w.heap.size (fun k_ => some k_ ≠ (.slice Ao24 t295.length co24 : Value).ownBlock ∧ some k_ ≠ (.slice Ao25 t300.length co25 : Value).ownBlock ∧ some k_ ≠ (.slice Ao30 t305.length co30 : Value).ownBlock ∧ some k_ ≠ (.slice Ao31 t308.length co31 : Value).ownBlock ∧ some k_ ≠ (.slice Ao39 t317.length co39 : Value).ownBlock ∧ some k_ ≠ (.slice Ao40 t320.length co40 : Value).ownBlock ∧ some k_ ≠ (.slice Ao43 t326.length co43 : Value).ownBlock ∧ some k_ ≠ (.slice Ao50 t331.length co50 : Value).ownBlock ∧ some k_ ≠ (.slice Ao51 t334.length co51 : Value).ownBlock) (.slice Ao23 t292.length co23) t292) := ⟨(by rw [hw]; exact (by (with_reducible repeat (first | apply Kd.R_alloc | apply Kd.R_drewN | apply Kd.R_drew)); exact Kd.R_mono (Fix.R_far6 (g := gb340) (Kd.R_types HO294.out BK340.out (by decide)) (fun _ hk => hk.2) _ _ _ _ _ _) (fun _ hk => ⟨hk.1.1.1.1.1.1.1, ⟨hk.1.1.1.1.1.1.2.1, ⟨hk.1.1.1.1.1.1.2.2.1, ⟨hk.1.1.1.1.1.1.2.2.2, ⟨hk.1.1.1.1.1.2, ⟨hk.1.1.1.1.2, ⟨hk.1.1.1.2, ⟨hk.1.1.2, hk.1.2⟩⟩⟩⟩⟩⟩⟩⟩)))⟩; have n1_ : Aside0 (Kd.R (Kd.int .i64) 3 w52 w.heap.size (fun k_ => some k_ ≠ (.slice Ao23 t292.length co23 : Value).ownBlock ∧ some k_ ≠ (.slice Ao25 t300.length co25 : Value).ownBlock ∧ some k_ ≠ (.slice Ao30 t305.length co30 : Value).ownBlock ∧ some k_ ≠ (.slice Ao31 t308.length co31 : Value).ownBlock ∧ some k_ ≠ (.slice Ao39 t317.length co39 : Value).ownBlock ∧ some k_ ≠ (.slice Ao40 t320.length co40 : Value).ownBlock ∧ some k_ ≠ (.slice Ao43 t326.length co43 : Value).ownBlock ∧ some k_ ≠ (.slice Ao50 t331.length co50 : Value).ownBlock ∧ some k_ ≠ (.slice Ao51 t334.length co51 : Value).ownBlock) (.slice Ao24 t295.length co24) t295) := ⟨(by rw [hw]; exact (by (with_reducible repeat (first | apply Kd.R_alloc | apply Kd.R_drewN | apply Kd.R_drew)); exact Kd.R_mono (Fix.R_far6 (g := gb340) (Kd.R_types HO297.out BK340.out (by decide)) (fun _ hk => hk.2) _ _ _ _ _ _) (fun _ hk => ⟨hk.1.1.1.1.1.1.1, ⟨hk.1.1.1.1.1.1.2.1, ⟨hk.1.1.1.1.1.1.2.2.1, ⟨hk.1.1.1.1.1.1.2.2.2, ⟨hk.1.1.1.1.1.2, ⟨hk.1.1.1.1.2, ⟨hk.1.1.1.2, ⟨hk.1.1.2, hk.1.2⟩⟩⟩⟩⟩⟩⟩⟩)))⟩; have n2_ : Aside0 (Kd.R (Kd.int .i64) 3 w52 w.heap.size (fun k_ => some k_ ≠ (.slice Ao23 t292.length co23 : Value).ownBlock ∧ some k_ ≠ (.slice Ao24 t295.length co24 : Value).ownBlock ∧ some k_ ≠ (.slice Ao30 t305.length co30 : Value).ownBlock ∧ some k_ ≠ (.slice Ao31 t308.length co31 : Value).ownBlock ∧ some k_ ≠ (.slice Ao39 t317.length co39 : Value).ownBlock ∧ some k_ ≠ (.slice Ao40 t320.length co40 : Value).ownBlock ∧ some k_ ≠ (.slice Ao43 t326.length co43 : Value).ownBlock ∧ some k_ ≠ (.slice Ao50 t331.length co50 : Value).ownBlock ∧ some k_ ≠ (.slice Ao51 t334.length co51 : Value).ownBlock) (.slice Ao25 t300.length co25) t300) := ⟨(by rw [hw]; exact (by (with_reducible repeat (first | apply Kd.R_alloc | apply Kd.R_drewN | apply Kd.R_drew)); exact Kd.R_mono (Fix.R_far6 (g := gb340) (Kd.R_types HO302.out BK340.out (by decide)) (fun _ hk => hk.2) _ _ _ _ _ _) (fun _ hk => ⟨hk.1.1.1.1.1.1.1, ⟨hk.1.1.1.1.1.1.2.1, ⟨hk.1.1.1.1.1.1.2.2.1, ⟨hk.1.1.1.1.1.1.2.2.2, ⟨hk.1.1.1.1.1.2, ⟨hk.1.1.1.1.2, ⟨hk.1.1.1.2, ⟨hk.1.1.2, hk.1.2⟩⟩⟩⟩⟩⟩⟩⟩)))⟩; have n3_ : Aside0 (Kd.Q (Kd.int .i64) 3 w52 w.heap.size (fun k_ => some k_ ≠ (.slice Ao23 t292.length co23 : Value).ownBlock ∧ some k_ ≠ (.slice Ao24 t295.length co24 : Value).ownBlock ∧ some k_ ≠ (.slice Ao25 t300.length co25 : Value).ownBlock ∧ some k_ ≠ (.slice Ao31 t308.length co31 : Value).ownBlock ∧ some k_ ≠ (.slice Ao39 t317.length co39 : Value).ownBlock ∧ some k_ ≠ (.slice Ao40 t320.length co40 : Value).ownBlock ∧ some k_ ≠ (.slice Ao43 t326.length co43 : Value).ownBlock ∧ some k_ ≠ (.slice Ao50 t331.length co50 : Value).ownBlock ∧ some k_ ≠ (.slice Ao51 t334.length co51 : Value).ownBlock) (.slice Ao30 t305.length co30) t305) := ⟨(by rw [hw]; exact (by (with_reducible repeat (first | apply Kd.Q_alloc | apply Kd.Q_drewN | apply Kd.Q_drew)); exact Kd.Q_mono (Fix.Q_far6 (g := gb340) (Kd.Q_types HO307.out BK340.out (by decide)) (fun _ hk => hk.2) _ _ _ _ _ _) (fun _ hk => ⟨hk.1.1.1.1.1.1.1, ⟨hk.1.1.1.1.1.1.2.1, ⟨hk.1.1.1.1.1.1.2.2.1, ⟨hk.1.1.1.1.1.1.2.2.2, ⟨hk.1.1.1.1.1.2, ⟨hk.1.1.1.1.2, ⟨hk.1.1.1.2, ⟨hk.1.1.2, hk.1.2⟩⟩⟩⟩⟩⟩⟩⟩)))⟩; have n4_ : Aside0 (Kd.R (Kd.int .i64) 3 w52 w.heap.size (fun k_ => some k_ ≠ (.slice Ao23 t292.length co23 : Value).ownBlock ∧ some k_ ≠ (.slice Ao24 t295.length co24 : Value).ownBlock ∧ some k_ ≠ (.slice Ao25 t300.length co25 : Value).ownBlock ∧ some k_ ≠ (.slice Ao30 t305.length co30 : Value).ownBlock ∧ some k_ ≠ (.slice Ao39 t317.length co39 : Value).ownBlock ∧ some k_ ≠ (.slice Ao40 t320.length co40 : Value).ownBlock ∧ some k_ ≠ (.slice Ao43 t326.length co43 : Value).ownBlock ∧ some k_ ≠ (.slice Ao50 t331.length co50 : Value).ownBlock ∧ some k_ ≠ (.slice Ao51 t334.length co51 : Value).ownBlock) (.slice Ao31 t308.length co31) t308) := ⟨(by rw [hw]; exact (by (with_reducible repeat (first | apply Kd.R_alloc | apply Kd.R_drewN | apply Kd.R_drew)); exact Kd.R_mono (Fix.R_far6 (g := gb340) (Kd.R_types HO310.out BK340.out (by decide)) (fun _ hk => hk.2) _ _ _ _ _ _) (fun _ hk => ⟨hk.1.1.1.1.1.1.1, ⟨hk.1.1.1.1.1.1.2.1, ⟨hk.1.1.1.1.1.1.2.2.1, ⟨hk.1.1.1.1.1.1.2.2.2, ⟨hk.1.1.1.1.1.2, ⟨hk.1.1.1.1.2, ⟨hk.1.1.1.2, ⟨hk.1.1.2, hk.1.2⟩⟩⟩⟩⟩⟩⟩⟩)))⟩; have n5_ : Aside0 (Kd.R (Kd.int .i64) 3 w52 w.heap.size (fun k_ => some k_ ≠ (.slice Ao23 t292.length co23 : Value).ownBlock ∧ some k_ ≠ (.slice Ao24 t295.length co24 : Value).ownBlock ∧ some k_ ≠ (.slice Ao25 t300.length co25 : Value).ownBlock ∧ some k_ ≠ (.slice Ao30 t305.length co30 : Value).ownBlock ∧ some k_ ≠ (.slice Ao31 t308.length co31 : Value).ownBlock ∧ some k_ ≠ (.slice Ao40 t320.length co40 : Value).ownBlock ∧ some k_ ≠ (.slice Ao43 t326.length co43 : Value).ownBlock ∧ some k_ ≠ (.slice Ao50 t331.length co50 : Value).ownBlock ∧ some k_ ≠ (.slice Ao51 t334.length co51 : Value).ownBlock) (.slice Ao39 t317.length co39) t317) := ⟨(by rw [hw]; exact (by (with_reducible repeat (first | apply Kd.R_alloc | apply Kd.R_drewN | apply Kd.R_drew)); exact Kd.R_mono (Fix.R_far6 (g := gb340) (Kd.R_types HO319.out BK340.out (by decide)) (fun _ hk => hk.2) _ _ _ _ _ _) (fun _ hk => ⟨hk.1.1.1.1.1.1.1.1.2, ⟨hk.1.1.1.1.1.1.1.2, ⟨hk.1.1.1.1.1.1.2, ⟨hk.1.1.1.1.1.2, ⟨hk.1.1.1.1.2, ⟨hk.1.1.1.1.1.1.1.1.1, ⟨hk.1.1.1.2, ⟨hk.1.1.2, hk.1.2⟩⟩⟩⟩⟩⟩⟩⟩)))⟩; have n6_ : Aside0 (Kd.R (Kd.int .i64) 3 w52 w.heap.size (fun k_ => some k_ ≠ (.slice Ao23 t292.length co23 : Value).ownBlock ∧ some k_ ≠ (.slice Ao24 t295.length co24 : Value).ownBlock ∧ some k_ ≠ (.slice Ao25 t300.length co25 : Value).ownBlock ∧ some k_ ≠ (.slice Ao30 t305.length co30 : Value).ownBlock ∧ some k_ ≠ (.slice Ao31 t308.length co31 : Value).ownBlock ∧ some k_ ≠ (.slice Ao39 t317.length co39 : Value).ownBlock ∧ some k_ ≠ (.slice Ao43 t326.length co43 : Value).ownBlock ∧ some k_ ≠ (.slice Ao50 t331.length co50 : Value).ownBlock ∧ some k_ ≠ (.slice Ao51 t334.length co51 : Value).ownBlock) (.slice Ao40 t320.length co40) t320) := ⟨(by rw [hw]; exact (by (with_reducible repeat (first | apply Kd.R_alloc | apply Kd.R_drewN | apply Kd.R_drew)); exact Kd.R_mono (Fix.R_far6 (g := gb340) (Kd.R_types HO322.out BK340.out (by decide)) (fun _ hk => hk.2) _ _ _ _ _ _) (fun _ hk => ⟨hk.1.1.1.1.1.1.1.1.2, ⟨hk.1.1.1.1.1.1.1.2, ⟨hk.1.1.1.1.1.1.2, ⟨hk.1.1.1.1.1.2, ⟨hk.1.1.1.1.2, ⟨hk.1.1.1.1.1.1.1.1.1, ⟨hk.1.1.1.2, ⟨hk.1.1.2, hk.1.2⟩⟩⟩⟩⟩⟩⟩⟩)))⟩; have n7_ : Aside0 (Kd.R (Kd.int .i64) 3 w52 w.heap.size (fun k_ => some k_ ≠ (.slice Ao23 t292.length co23 : Value).ownBlock ∧ some k_ ≠ (.slice Ao24 t295.length co24 : Value).ownBlock ∧ some k_ ≠ (.slice Ao25 t300.length co25 : Value).ownBlock ∧ some k_ ≠ (.slice Ao30 t305.length co30 : Value).ownBlock ∧ some k_ ≠ (.slice Ao31 t308.length co31 : Value).ownBlock ∧ some k_ ≠ (.slice Ao39 t317.length co39 : Value).ownBlock ∧ some k_ ≠ (.slice Ao40 t320.length co40 : Value).ownBlock ∧ some k_ ≠ (.slice Ao50 t331.length co50 : Value).ownBlock ∧ some k_ ≠ (.slice Ao51 t334.length co51 : Value).ownBlock) (.slice Ao43 t326.length co43) t326) := ⟨(by rw [hw]; exact (by (with_reducible repeat (first | apply Kd.R_alloc | apply Kd.R_drewN | apply Kd.R_drew)); exact Kd.R_mono (Fix.R_far6 (g := gb340) (Kd.R_types HO328.out BK340.out (by decide)) (fun _ hk => hk.2) _ _ _ _ _ _) (fun _ hk => ⟨hk.1.1.1.1.1.1.1.1.1.2, ⟨hk.1.1.1.1.1.1.1.1.2, ⟨hk.1.1.1.1.1.1.1.2, ⟨hk.1.1.1.1.1.1.2, ⟨hk.1.1.1.1.1.2, ⟨hk.1.1.1.1.2, ⟨hk.1.1.1.2, ⟨hk.1.1.2, hk.1.2⟩⟩⟩⟩⟩⟩⟩⟩)))⟩; have n8_ : Aside0 (Kd.Q (Kd.int .i64) 3 w52 w.heap.size (fun k_ => some k_ ≠ (.slice Ao23 t292.length co23 : Value).ownBlock ∧ some k_ ≠ (.slice Ao24 t295.length co24 : Value).ownBlock ∧ some k_ ≠ (.slice Ao25 t300.length co25 : Value).ownBlock ∧ some k_ ≠ (.slice Ao30 t305.length co30 : Value).ownBlock ∧ some k_ ≠ (.slice Ao31 t308.length co31 : Value).ownBlock ∧ some k_ ≠ (.slice Ao39 t317.length co39 : Value).ownBlock ∧ some k_ ≠ (.slice Ao40 t320.length co40 : Value).ownBlock ∧ some k_ ≠ (.slice Ao43 t326.length co43 : Value).ownBlock ∧ some k_ ≠ (.slice Ao51 t334.length co51 : Value).ownBlock) (.slice Ao50 t331.length co50) t331) := ⟨(by rw [hw]; exact (by (with_reducible repeat (first | apply Kd.Q_alloc | apply Kd.Q_drewN | apply Kd.Q_drew)); exact Kd.Q_mono (Fix.Q_far6 (g := gb340) (Kd.Q_types HO333.out BK340.out (by decide)) (fun _ hk => hk.2) _ _ _ _ _ _) (fun _ hk => ⟨hk.1.1.1.1.1.1.1.1.2, ⟨hk.1.1.1.1.1.1.1.2, ⟨hk.1.1.1.1.1.1.2, ⟨hk.1.1.1.1.1.2, ⟨hk.1.1.1.1.2, ⟨hk.1.1.1.2, ⟨hk.1.1.2, ⟨hk.1.2, hk.1.1.1.1.1.1.1.1.1⟩⟩⟩⟩⟩⟩⟩⟩)))⟩; have n9_ : Aside0 (Kd.R (Kd.int .i64) 3 w52 w.heap.size (fun k_ => some k_ ≠ (.slice Ao23 t292.length co23 : Value).ownBlock ∧ some k_ ≠ (.slice Ao24 t295.length co24 : Value).ownBlock ∧ some k_ ≠ (.slice Ao25 t300.length co25 : Value).ownBlock ∧ some k_ ≠ (.slice Ao30 t305.length co30 : Value).ownBlock ∧ some k_ ≠ (.slice Ao31 t308.length co31 : Value).ownBlock ∧ some k_ ≠ (.slice Ao39 t317.length co39 : Value).ownBlock ∧ some k_ ≠ (.slice Ao40 t320.length co40 : Value).ownBlock ∧ some k_ ≠ (.slice Ao43 t326.length co43 : Value).ownBlock ∧ some k_ ≠ (.slice Ao50 t331.length co50 : Value).ownBlock) (.slice Ao51 t334.length co51) t334) := ⟨(by rw [hw]; exact (by (with_reducible repeat (first | apply Kd.R_alloc | apply Kd.R_drewN | apply Kd.R_drew)); exact Kd.R_mono (Fix.R_far6 (g := gb340) (Kd.R_types HO336.out BK340.out (by decide)) (fun _ hk => hk.2) _ _ _ _ _ _) (fun _ hk => ⟨hk.1.1.1.1.1.1.1.1.2, ⟨hk.1.1.1.1.1.1.1.2, ⟨hk.1.1.1.1.1.1.2, ⟨hk.1.1.1.1.1.2, ⟨hk.1.1.1.1.2, ⟨hk.1.1.1.2, ⟨hk.1.1.2, ⟨hk.1.2, hk.1.1.1.1.1.1.1.1.1⟩⟩⟩⟩⟩⟩⟩⟩)))⟩; have n10_ : Aside0 (w52.heap[gb288]? = some (.cells #[.int .i64 a0_0, .int .i64 a0_1, .slice A0_2 l0_2.length c0_2, .slice A0_3 l0_3.length c0_3, .int .i64 a0_4, .bool a0_5] 38 (0, 0))) := ⟨(by rw [hw]; exact (by (with_reducible repeat (first | refine Fix.kN ?_ _ | refine Fix.kD ?_ | refine Fix.kA ?_ _)); refine Fix.far6 ?_ NB288_340.out _ _ _ _ _ _; (with_reducible repeat (first | refine Fix.kN ?_ _ | refine Fix.kD ?_ | refine Fix.kA ?_ _)); exact BK288.out))⟩; have n11_ : Aside0 (w52.heap[gb314]? = some (.cells #[.int .i64 t303, .int .i64 t304, .slice Ao30 t305.length co30, .slice Ao31 t308.length co31, .int .i64 t311, .bool t312] 28 (0, 0))) := ⟨(by rw [hw]; exact (by (with_reducible repeat (first | refine Fix.kN ?_ _ | refine Fix.kD ?_ | refine Fix.kA ?_ _)); refine Fix.far6 ?_ NB314_340.out _ _ _ _ _ _; (with_reducible repeat (first | refine Fix.kN ?_ _ | refine Fix.kD ?_ | refine Fix.kA ?_ _)); exact BK314.out))⟩; have n12_ : Aside0 (w52.heap[gb325]? = some (.cells #[.int .i64 t315, .int .i64 t316, .slice Ao39 t317.length co39, .slice Ao40 t320.length co40, .int .i64 t323, .bool t324] 28 (0, 0))) := ⟨(by rw [hw]; exact (by (with_reducible repeat (first | refine Fix.kN ?_ _ | refine Fix.kD ?_ | refine Fix.kA ?_ _)); refine Fix.far6 ?_ NB325_340.out _ _ _ _ _ _; (with_reducible repeat (first | refine Fix.kN ?_ _ | refine Fix.kD ?_ | refine Fix.kA ?_ _)); exact BK325.out))⟩; have n13_ : Aside0 (w52.heap[gb340]? = some (.cells #[.int .i64 t329, .int .i64 t330, .slice Ao50 t331.length co50, .slice Ao51 t334.length co51, .int .i64 t337, .bool t338] 28 (0, 0))) := ⟨(by rw [hw]; exact (by (with_reducible repeat (first | refine Fix.kN ?_ _ | refine Fix.kD ?_ | refine Fix.kA ?_ _)); apply Fix.put6; (with_reducible repeat (first | refine Fix.kN ?_ _ | refine Fix.kD ?_ | refine Fix.kA ?_ _)); exact BK340.out))⟩; have n14_ : Aside0 (Below w.heap.size w w52) := ⟨(by rw [hw]; exact Fix.uB)⟩; clear hw; clear HO294; clear HO297; clear HO302; clear HO307; clear HO310; clear HO319; clear HO322; clear HO328; clear HO333; clear HO336; clear BK288; clear BK314; clear BK325; clear BK340; clear HB; have HO294 := n0_; have HO297 := n1_; have HO302 := n2_; have HO307 := n3_; have HO310 := n4_; have HO319 := n5_; have HO322 := n6_; have HO328 := n7_; have HO333 := n8_; have HO336 := n9_; have BK288 := n10_; have BK314 := n11_; have BK325 := n12_; have BK340 := n13_; have HB := n14_; clear n0_ n1_ n2_ n3_ n4_ n5_ n6_ n7_ n8_ n9_ n10_ n11_ n12_ n13_ n14_))
      (try simp only [Act.put, List.setIfInBounds_toArray, List.set_cons_zero, List.set_cons_succ])
      go_cut [51] (fun v51 wc => ∃ (kq : Nat) (x51_15 : Bool), v51 = .bool x51_15 ∧ Aside0 (laws_FnExactRunLine.j0 kq l1 t313 t326 t339 x51_15 a0_0 a0_1 l0_2 l0_3 a0_4 a0_5 t303 t304 t305 t308 t311 t312 t315 t316 t317 t320 t323 t324 t329 t330 t331 t334 t337 t338 = some r) ∧ Aside0 (kq ≤ k) ∧ Aside0 (Kd.R (Kd.int .i64) 3 wc w.heap.size (fun k_ => some k_ ≠ Fix.o Ao30 t305.length co30 ∧ some k_ ≠ Fix.o Ao31 t308.length co31 ∧ some k_ ≠ Fix.o Ao39 t317.length co39 ∧ some k_ ≠ Fix.o Ao40 t320.length co40 ∧ some k_ ≠ Fix.o Ao50 t331.length co50 ∧ some k_ ≠ Fix.o Ao51 t334.length co51) (.slice Ao43 t326.length co43) t326) ∧ Aside0 (Kd.Q (Kd.int .i64) 3 wc w.heap.size (fun k_ => some k_ ≠ Fix.o Ao43 t326.length co43 ∧ some k_ ≠ Fix.o Ao31 t308.length co31 ∧ some k_ ≠ Fix.o Ao39 t317.length co39 ∧ some k_ ≠ Fix.o Ao40 t320.length co40 ∧ some k_ ≠ Fix.o Ao50 t331.length co50 ∧ some k_ ≠ Fix.o Ao51 t334.length co51) (.slice Ao30 t305.length co30) t305) ∧ Aside0 (Kd.R (Kd.int .i64) 3 wc w.heap.size (fun k_ => some k_ ≠ Fix.o Ao43 t326.length co43 ∧ some k_ ≠ Fix.o Ao30 t305.length co30 ∧ some k_ ≠ Fix.o Ao39 t317.length co39 ∧ some k_ ≠ Fix.o Ao40 t320.length co40 ∧ some k_ ≠ Fix.o Ao50 t331.length co50 ∧ some k_ ≠ Fix.o Ao51 t334.length co51) (.slice Ao31 t308.length co31) t308) ∧ Aside0 (Kd.Q (Kd.int .i64) 3 wc w.heap.size (fun k_ => some k_ ≠ Fix.o Ao43 t326.length co43 ∧ some k_ ≠ Fix.o Ao30 t305.length co30 ∧ some k_ ≠ Fix.o Ao31 t308.length co31 ∧ some k_ ≠ Fix.o Ao40 t320.length co40 ∧ some k_ ≠ Fix.o Ao50 t331.length co50 ∧ some k_ ≠ Fix.o Ao51 t334.length co51) (.slice Ao39 t317.length co39) t317) ∧ Aside0 (Kd.Q (Kd.int .i64) 3 wc w.heap.size (fun k_ => some k_ ≠ Fix.o Ao43 t326.length co43 ∧ some k_ ≠ Fix.o Ao30 t305.length co30 ∧ some k_ ≠ Fix.o Ao31 t308.length co31 ∧ some k_ ≠ Fix.o Ao39 t317.length co39 ∧ some k_ ≠ Fix.o Ao50 t331.length co50 ∧ some k_ ≠ Fix.o Ao51 t334.length co51) (.slice Ao40 t320.length co40) t320) ∧ Aside0 (Kd.Q (Kd.int .i64) 3 wc w.heap.size (fun k_ => some k_ ≠ Fix.o Ao43 t326.length co43 ∧ some k_ ≠ Fix.o Ao30 t305.length co30 ∧ some k_ ≠ Fix.o Ao31 t308.length co31 ∧ some k_ ≠ Fix.o Ao39 t317.length co39 ∧ some k_ ≠ Fix.o Ao40 t320.length co40 ∧ some k_ ≠ Fix.o Ao51 t334.length co51) (.slice Ao50 t331.length co50) t331) ∧ Aside0 (Kd.Q (Kd.int .i64) 3 wc w.heap.size (fun k_ => some k_ ≠ Fix.o Ao43 t326.length co43 ∧ some k_ ≠ Fix.o Ao30 t305.length co30 ∧ some k_ ≠ Fix.o Ao31 t308.length co31 ∧ some k_ ≠ Fix.o Ao39 t317.length co39 ∧ some k_ ≠ Fix.o Ao40 t320.length co40 ∧ some k_ ≠ Fix.o Ao50 t331.length co50) (.slice Ao51 t334.length co51) t334) ∧ Aside0 (wc.heap[gb288]? = some (.cells #[.int .i64 a0_0, .int .i64 a0_1, (.slice A0_2 l0_2.length c0_2), (.slice A0_3 l0_3.length c0_3), .int .i64 a0_4, .bool a0_5] 38 (0, 0))) ∧ Aside0 (wc.heap[gb314]? = some (.cells #[.int .i64 t303, .int .i64 t304, (.slice Ao30 t305.length co30), (.slice Ao31 t308.length co31), .int .i64 t311, .bool t312] 28 (0, 0))) ∧ Aside0 (wc.heap[gb325]? = some (.cells #[.int .i64 t315, .int .i64 t316, (.slice Ao39 t317.length co39), (.slice Ao40 t320.length co40), .int .i64 t323, .bool t324] 28 (0, 0))) ∧ Aside0 (wc.heap[gb340]? = some (.cells #[.int .i64 t329, .int .i64 t330, (.slice Ao50 t331.length co50), (.slice Ao51 t334.length co51), .int .i64 t337, .bool t338] 28 (0, 0))) ∧ Aside0 (Below w.heap.size w wc))
      case first =>
        have H := HC16.out
        clear HC16
        replace H := Option.bind_eq_some_iff.mp H
        obtain ⟨t341, A530, H⟩ := H
        replace H : (if t341 = true then (laws_FnExactRunLine.j0 k l1 t313 t326 t339 (t339 != t313) a0_0 a0_1 l0_2 l0_3 a0_4 a0_5 t303 t304 t305 t308 t311 t312 t315 t316 t317 t320 t323 t324 t329 t330 t331 t334 t337 t338) else (laws_FnExactRunLine.j0 k l1 t313 t326 t339 true a0_0 a0_1 l0_2 l0_3 a0_4 a0_5 t303 t304 t305 t308 t311 t312 t315 t316 t317 t320 t323 t324 t329 t330 t331 t334 t337 t338)) = some r := H
        have A53 := Aside0.mk A530
        clear A530
        by_cases c54 : t341 = true
        · subst c54
          have H1 : (laws_FnExactRunLine.j0 k l1 t313 t326 t339 (t339 != t313) a0_0 a0_1 l0_2 l0_3 a0_4 a0_5 t303 t304 t305 t308 t311 t312 t315 t316 t317 t320 t323 t324 t329 t330 t331 t334 t337 t338) = some r := by rw [if_pos rfl] at H; exact H
          clear H
          have H := H1
          clear H1
          have H' := Aside0.mk H
          clear H
          have hnb55 := NB340_288.out
          have hnc55 := NB288_340.out
          have hnb56 := NB340_314.out
          have hnc56 := NB314_340.out
          have hnb57 := NB340_325.out
          have hnc57 := NB325_340.out
          obtain ⟨hcz58_0, hcz58_1, hcz58_2, hcz58_3, hcz58_4, hcz58_5, hfz58_0, hfz58_1, hfz58_2, hfz58_3, hfz58_4, hfz58_5⟩ := Fix.d6 BK340.out
          have hnb59 := NB314_288.out
          have hnc59 := NB288_314.out
          have hnb60 := NB314_325.out
          have hnc60 := NB325_314.out
          obtain ⟨hcz61_0, hcz61_1, hcz61_2, hcz61_3, hcz61_4, hcz61_5, hfz61_0, hfz61_1, hfz61_2, hfz61_3, hfz61_4, hfz61_5⟩ := Fix.d6 BK314.out
          go_wp2_with (first | ((with_reducible refine gate_callee (f := 19) rfl ?_); refine goesL_ (some 45) rfl rfl Try.func19 (by kernel_rfl) rfl #[.agg #[.int .i64 t329, .int .i64 t330, .slice Ao50 t331.length co50, .slice Ao51 t334.length co51, .int .i64 t337, .bool t338], .agg #[.int .i64 t303, .int .i64 t304, .slice Ao30 t305.length co30, .slice Ao31 t308.length co31, .int .i64 t311, .bool t312]] rfl Fix.uA ?_; (with_reducible refine (laws_eqLine.calls k t329 t330 _ _ t331 _ _ t334 t337 t338 t303 t304 _ _ t305 _ _ t308 t311 t312 true _ ?side1 ?side2 ?side3 ?side4 ?side5 ?side6 ?side7 ?side8 A53.out).mono ?_); (case side1 => exact Fix.uC (Kd.Q_reads' HO333.out).2.2); (case side2 => exact (Kd.Q_reads' HO333.out).2.1); (case side3 => exact Fix.uC (Kd.R_reads' HO336.out).2.2); (case side4 => exact (Kd.R_reads' HO336.out).2.1); (case side5 => exact Fix.uC (Kd.Q_reads' HO307.out).2.2); (case side6 => exact (Kd.Q_reads' HO307.out).2.1); (case side7 => exact Fix.uC (Kd.R_reads' HO310.out).2.2); (case side8 => exact (Kd.R_reads' HO310.out).2.1); rintro e w62 ⟨rfl, hb⟩; refine ⟨_, rfl, ?_⟩; have n0_ := Aside0.mk (Kd.R_below (Fix.uR HO294.out) hb); have n1_ := Aside0.mk (Kd.R_below (Fix.uR HO297.out) hb); have n2_ := Aside0.mk (Kd.R_below (Fix.uR HO302.out) hb); have n3_ := Aside0.mk (Kd.Q_below (Fix.uQ HO307.out) hb); have n4_ := Aside0.mk (Kd.R_below (Fix.uR HO310.out) hb); have n5_ := Aside0.mk (Kd.R_below (Fix.uR HO319.out) hb); have n6_ := Aside0.mk (Kd.R_below (Fix.uR HO322.out) hb); have n7_ := Aside0.mk (Kd.R_below (Fix.uR HO328.out) hb); have n8_ := Aside0.mk (Kd.Q_below (Fix.uQ HO333.out) hb); have n9_ := Aside0.mk (Kd.R_below (Fix.uR HO336.out) hb); have n10_ := Aside0.mk (blk_below (g := gb288) (o := .cells #[.int .i64 a0_0, .int .i64 a0_1, .slice A0_2 l0_2.length c0_2, .slice A0_3 l0_3.length c0_3, .int .i64 a0_4, .bool a0_5] 38 (0, 0)) (Fix.uK BK288.out) hb); have n11_ := Aside0.mk (blk_below (g := gb314) (o := .cells #[.int .i64 t303, .int .i64 t304, .slice Ao30 t305.length co30, .slice Ao31 t308.length co31, .int .i64 t311, .bool t312] 28 (0, 0)) (Fix.uK BK314.out) hb); have n12_ := Aside0.mk (blk_below (g := gb325) (o := .cells #[.int .i64 t315, .int .i64 t316, .slice Ao39 t317.length co39, .slice Ao40 t320.length co40, .int .i64 t323, .bool t324] 28 (0, 0)) (Fix.uK BK325.out) hb); have n13_ := Aside0.mk (blk_below (g := gb340) (o := .cells #[.int .i64 t329, .int .i64 t330, .slice Ao50 t331.length co50, .slice Ao51 t334.length co51, .int .i64 t337, .bool t338] 28 (0, 0)) (Fix.uK BK340.out) hb); have n14_ := Aside0.mk (below_step Fix.uB hb); clear HO294; clear HO297; clear HO302; clear HO307; clear HO310; clear HO319; clear HO322; clear HO328; clear HO333; clear HO336; clear BK288; clear BK314; clear BK325; clear BK340; clear HB; have HO294 := n0_; have HO297 := n1_; have HO302 := n2_; have HO307 := n3_; have HO310 := n4_; have HO319 := n5_; have HO322 := n6_; have HO328 := n7_; have HO333 := n8_; have HO336 := n9_; have BK288 := n10_; have BK314 := n11_; have BK325 := n12_; have BK340 := n13_; have HB := n14_; clear n0_ n1_ n2_ n3_ n4_ n5_ n6_ n7_ n8_ n9_ n10_ n11_ n12_ n13_ n14_; (try clear hb); (try clear hb2); (try clear hk); (try clear hi)))
          go_meet
          case rel => exact ⟨_, ((t339 != t313)), (by first | rfl | (simp; done) | (simp [*]; done)), H', ⟨by first | omega | exact Nat.le_refl _⟩, ⟨by (with_reducible repeat (first | apply Kd.R_alloc | apply Kd.R_drewN | apply Kd.R_drew)); exact Kd.R_mono HO328.out (fun _ hk => ⟨hk.2.2.2.1, ⟨hk.2.2.2.2.1, ⟨hk.2.2.2.2.2.1, ⟨hk.2.2.2.2.2.2.1, ⟨hk.2.2.2.2.2.2.2.1, hk.2.2.2.2.2.2.2.2⟩⟩⟩⟩⟩)⟩, ⟨by (with_reducible repeat (first | apply Kd.Q_alloc | apply Kd.Q_drewN | apply Kd.Q_drew)); exact Kd.Q_mono HO307.out (fun _ hk => ⟨hk.2.2.2.2.2.2.1, ⟨hk.2.2.2.1, ⟨hk.2.2.2.2.1, ⟨hk.2.2.2.2.2.1, ⟨hk.2.2.2.2.2.2.2.1, hk.2.2.2.2.2.2.2.2⟩⟩⟩⟩⟩)⟩, ⟨by (with_reducible repeat (first | apply Kd.R_alloc | apply Kd.R_drewN | apply Kd.R_drew)); exact Kd.R_mono HO310.out (fun _ hk => ⟨hk.2.2.2.2.2.2.1, ⟨hk.2.2.2.1, ⟨hk.2.2.2.2.1, ⟨hk.2.2.2.2.2.1, ⟨hk.2.2.2.2.2.2.2.1, hk.2.2.2.2.2.2.2.2⟩⟩⟩⟩⟩)⟩, ⟨Kd.Q_of_R (by (with_reducible repeat (first | apply Kd.R_alloc | apply Kd.R_drewN | apply Kd.R_drew)); exact Kd.R_mono HO319.out (fun _ hk => ⟨hk.2.2.2.2.2.2.1, ⟨hk.2.2.2.1, ⟨hk.2.2.2.2.1, ⟨hk.2.2.2.2.2.1, ⟨hk.2.2.2.2.2.2.2.1, hk.2.2.2.2.2.2.2.2⟩⟩⟩⟩⟩))⟩, ⟨Kd.Q_of_R (by (with_reducible repeat (first | apply Kd.R_alloc | apply Kd.R_drewN | apply Kd.R_drew)); exact Kd.R_mono HO322.out (fun _ hk => ⟨hk.2.2.2.2.2.2.1, ⟨hk.2.2.2.1, ⟨hk.2.2.2.2.1, ⟨hk.2.2.2.2.2.1, ⟨hk.2.2.2.2.2.2.2.1, hk.2.2.2.2.2.2.2.2⟩⟩⟩⟩⟩))⟩, ⟨by (with_reducible repeat (first | apply Kd.Q_alloc | apply Kd.Q_drewN | apply Kd.Q_drew)); exact Kd.Q_mono HO333.out (fun _ hk => ⟨hk.2.2.2.2.2.2.2.1, ⟨hk.2.2.2.1, ⟨hk.2.2.2.2.1, ⟨hk.2.2.2.2.2.1, ⟨hk.2.2.2.2.2.2.1, hk.2.2.2.2.2.2.2.2⟩⟩⟩⟩⟩)⟩, ⟨Kd.Q_of_R (by (with_reducible repeat (first | apply Kd.R_alloc | apply Kd.R_drewN | apply Kd.R_drew)); exact Kd.R_mono HO336.out (fun _ hk => ⟨hk.2.2.2.2.2.2.2.1, ⟨hk.2.2.2.1, ⟨hk.2.2.2.2.1, ⟨hk.2.2.2.2.2.1, ⟨hk.2.2.2.2.2.2.1, hk.2.2.2.2.2.2.2.2⟩⟩⟩⟩⟩))⟩, ⟨by (with_reducible repeat (first | refine Fix.kN ?_ _ | refine Fix.kD ?_ | refine Fix.kA ?_ _)); exact BK288.out⟩, ⟨by (with_reducible repeat (first | refine Fix.kN ?_ _ | refine Fix.kD ?_ | refine Fix.kA ?_ _)); exact BK314.out⟩, ⟨by (with_reducible repeat (first | refine Fix.kN ?_ _ | refine Fix.kD ?_ | refine Fix.kA ?_ _)); exact BK325.out⟩, ⟨by (with_reducible repeat (first | refine Fix.kN ?_ _ | refine Fix.kD ?_ | refine Fix.kA ?_ _)); exact BK340.out⟩, ⟨Fix.uB⟩⟩
        · replace c54 := Bool.eq_false_iff.mpr c54
          subst c54
          have H1 : (laws_FnExactRunLine.j0 k l1 t313 t326 t339 true a0_0 a0_1 l0_2 l0_3 a0_4 a0_5 t303 t304 t305 t308 t311 t312 t315 t316 t317 t320 t323 t324 t329 t330 t331 t334 t337 t338) = some r := by rw [if_neg (show ¬ (false = true) by decide)] at H; exact H
          clear H
          have H := H1
          clear H1
          have H' := Aside0.mk H
          clear H
          have hnb63 := NB340_288.out
          have hnc63 := NB288_340.out
          have hnb64 := NB340_314.out
          have hnc64 := NB314_340.out
          have hnb65 := NB340_325.out
          have hnc65 := NB325_340.out
          obtain ⟨hcz66_0, hcz66_1, hcz66_2, hcz66_3, hcz66_4, hcz66_5, hfz66_0, hfz66_1, hfz66_2, hfz66_3, hfz66_4, hfz66_5⟩ := Fix.d6 BK340.out
          have hnb67 := NB314_288.out
          have hnc67 := NB288_314.out
          have hnb68 := NB314_325.out
          have hnc68 := NB325_314.out
          obtain ⟨hcz69_0, hcz69_1, hcz69_2, hcz69_3, hcz69_4, hcz69_5, hfz69_0, hfz69_1, hfz69_2, hfz69_3, hfz69_4, hfz69_5⟩ := Fix.d6 BK314.out
          go_wp2_with (first | ((with_reducible refine gate_callee (f := 19) rfl ?_); refine goesL_ (some 45) rfl rfl Try.func19 (by kernel_rfl) rfl #[.agg #[.int .i64 t329, .int .i64 t330, .slice Ao50 t331.length co50, .slice Ao51 t334.length co51, .int .i64 t337, .bool t338], .agg #[.int .i64 t303, .int .i64 t304, .slice Ao30 t305.length co30, .slice Ao31 t308.length co31, .int .i64 t311, .bool t312]] rfl Fix.uA ?_; (with_reducible refine (laws_eqLine.calls k t329 t330 _ _ t331 _ _ t334 t337 t338 t303 t304 _ _ t305 _ _ t308 t311 t312 false _ ?side1 ?side2 ?side3 ?side4 ?side5 ?side6 ?side7 ?side8 A53.out).mono ?_); (case side1 => exact Fix.uC (Kd.Q_reads' HO333.out).2.2); (case side2 => exact (Kd.Q_reads' HO333.out).2.1); (case side3 => exact Fix.uC (Kd.R_reads' HO336.out).2.2); (case side4 => exact (Kd.R_reads' HO336.out).2.1); (case side5 => exact Fix.uC (Kd.Q_reads' HO307.out).2.2); (case side6 => exact (Kd.Q_reads' HO307.out).2.1); (case side7 => exact Fix.uC (Kd.R_reads' HO310.out).2.2); (case side8 => exact (Kd.R_reads' HO310.out).2.1); rintro e w70 ⟨rfl, hb⟩; refine ⟨_, rfl, ?_⟩; have n0_ := Aside0.mk (Kd.R_below (Fix.uR HO294.out) hb); have n1_ := Aside0.mk (Kd.R_below (Fix.uR HO297.out) hb); have n2_ := Aside0.mk (Kd.R_below (Fix.uR HO302.out) hb); have n3_ := Aside0.mk (Kd.Q_below (Fix.uQ HO307.out) hb); have n4_ := Aside0.mk (Kd.R_below (Fix.uR HO310.out) hb); have n5_ := Aside0.mk (Kd.R_below (Fix.uR HO319.out) hb); have n6_ := Aside0.mk (Kd.R_below (Fix.uR HO322.out) hb); have n7_ := Aside0.mk (Kd.R_below (Fix.uR HO328.out) hb); have n8_ := Aside0.mk (Kd.Q_below (Fix.uQ HO333.out) hb); have n9_ := Aside0.mk (Kd.R_below (Fix.uR HO336.out) hb); have n10_ := Aside0.mk (blk_below (g := gb288) (o := .cells #[.int .i64 a0_0, .int .i64 a0_1, .slice A0_2 l0_2.length c0_2, .slice A0_3 l0_3.length c0_3, .int .i64 a0_4, .bool a0_5] 38 (0, 0)) (Fix.uK BK288.out) hb); have n11_ := Aside0.mk (blk_below (g := gb314) (o := .cells #[.int .i64 t303, .int .i64 t304, .slice Ao30 t305.length co30, .slice Ao31 t308.length co31, .int .i64 t311, .bool t312] 28 (0, 0)) (Fix.uK BK314.out) hb); have n12_ := Aside0.mk (blk_below (g := gb325) (o := .cells #[.int .i64 t315, .int .i64 t316, .slice Ao39 t317.length co39, .slice Ao40 t320.length co40, .int .i64 t323, .bool t324] 28 (0, 0)) (Fix.uK BK325.out) hb); have n13_ := Aside0.mk (blk_below (g := gb340) (o := .cells #[.int .i64 t329, .int .i64 t330, .slice Ao50 t331.length co50, .slice Ao51 t334.length co51, .int .i64 t337, .bool t338] 28 (0, 0)) (Fix.uK BK340.out) hb); have n14_ := Aside0.mk (below_step Fix.uB hb); clear HO294; clear HO297; clear HO302; clear HO307; clear HO310; clear HO319; clear HO322; clear HO328; clear HO333; clear HO336; clear BK288; clear BK314; clear BK325; clear BK340; clear HB; have HO294 := n0_; have HO297 := n1_; have HO302 := n2_; have HO307 := n3_; have HO310 := n4_; have HO319 := n5_; have HO322 := n6_; have HO328 := n7_; have HO333 := n8_; have HO336 := n9_; have BK288 := n10_; have BK314 := n11_; have BK325 := n12_; have BK340 := n13_; have HB := n14_; clear n0_ n1_ n2_ n3_ n4_ n5_ n6_ n7_ n8_ n9_ n10_ n11_ n12_ n13_ n14_; (try clear hb); (try clear hb2); (try clear hk); (try clear hi)))
          go_meet
          case rel => exact ⟨_, (true), (by first | rfl | (simp; done) | (simp [*]; done)), H', ⟨by first | omega | exact Nat.le_refl _⟩, ⟨by (with_reducible repeat (first | apply Kd.R_alloc | apply Kd.R_drewN | apply Kd.R_drew)); exact Kd.R_mono HO328.out (fun _ hk => ⟨hk.2.2.2.1, ⟨hk.2.2.2.2.1, ⟨hk.2.2.2.2.2.1, ⟨hk.2.2.2.2.2.2.1, ⟨hk.2.2.2.2.2.2.2.1, hk.2.2.2.2.2.2.2.2⟩⟩⟩⟩⟩)⟩, ⟨by (with_reducible repeat (first | apply Kd.Q_alloc | apply Kd.Q_drewN | apply Kd.Q_drew)); exact Kd.Q_mono HO307.out (fun _ hk => ⟨hk.2.2.2.2.2.2.1, ⟨hk.2.2.2.1, ⟨hk.2.2.2.2.1, ⟨hk.2.2.2.2.2.1, ⟨hk.2.2.2.2.2.2.2.1, hk.2.2.2.2.2.2.2.2⟩⟩⟩⟩⟩)⟩, ⟨by (with_reducible repeat (first | apply Kd.R_alloc | apply Kd.R_drewN | apply Kd.R_drew)); exact Kd.R_mono HO310.out (fun _ hk => ⟨hk.2.2.2.2.2.2.1, ⟨hk.2.2.2.1, ⟨hk.2.2.2.2.1, ⟨hk.2.2.2.2.2.1, ⟨hk.2.2.2.2.2.2.2.1, hk.2.2.2.2.2.2.2.2⟩⟩⟩⟩⟩)⟩, ⟨Kd.Q_of_R (by (with_reducible repeat (first | apply Kd.R_alloc | apply Kd.R_drewN | apply Kd.R_drew)); exact Kd.R_mono HO319.out (fun _ hk => ⟨hk.2.2.2.2.2.2.1, ⟨hk.2.2.2.1, ⟨hk.2.2.2.2.1, ⟨hk.2.2.2.2.2.1, ⟨hk.2.2.2.2.2.2.2.1, hk.2.2.2.2.2.2.2.2⟩⟩⟩⟩⟩))⟩, ⟨Kd.Q_of_R (by (with_reducible repeat (first | apply Kd.R_alloc | apply Kd.R_drewN | apply Kd.R_drew)); exact Kd.R_mono HO322.out (fun _ hk => ⟨hk.2.2.2.2.2.2.1, ⟨hk.2.2.2.1, ⟨hk.2.2.2.2.1, ⟨hk.2.2.2.2.2.1, ⟨hk.2.2.2.2.2.2.2.1, hk.2.2.2.2.2.2.2.2⟩⟩⟩⟩⟩))⟩, ⟨by (with_reducible repeat (first | apply Kd.Q_alloc | apply Kd.Q_drewN | apply Kd.Q_drew)); exact Kd.Q_mono HO333.out (fun _ hk => ⟨hk.2.2.2.2.2.2.2.1, ⟨hk.2.2.2.1, ⟨hk.2.2.2.2.1, ⟨hk.2.2.2.2.2.1, ⟨hk.2.2.2.2.2.2.1, hk.2.2.2.2.2.2.2.2⟩⟩⟩⟩⟩)⟩, ⟨Kd.Q_of_R (by (with_reducible repeat (first | apply Kd.R_alloc | apply Kd.R_drewN | apply Kd.R_drew)); exact Kd.R_mono HO336.out (fun _ hk => ⟨hk.2.2.2.2.2.2.2.1, ⟨hk.2.2.2.1, ⟨hk.2.2.2.2.1, ⟨hk.2.2.2.2.2.1, ⟨hk.2.2.2.2.2.2.1, hk.2.2.2.2.2.2.2.2⟩⟩⟩⟩⟩))⟩, ⟨by (with_reducible repeat (first | refine Fix.kN ?_ _ | refine Fix.kD ?_ | refine Fix.kA ?_ _)); exact BK288.out⟩, ⟨by (with_reducible repeat (first | refine Fix.kN ?_ _ | refine Fix.kD ?_ | refine Fix.kA ?_ _)); exact BK314.out⟩, ⟨by (with_reducible repeat (first | refine Fix.kN ?_ _ | refine Fix.kD ?_ | refine Fix.kA ?_ _)); exact BK325.out⟩, ⟨by (with_reducible repeat (first | refine Fix.kN ?_ _ | refine Fix.kD ?_ | refine Fix.kA ?_ _)); exact BK340.out⟩, ⟨Fix.uB⟩⟩
      case rest =>
        clear HC16
        try clear c1
        try clear c2
        try clear p2
        try clear c3
        try clear c3b0
        try clear c3b1
        try clear c4
        try clear c5
        try clear c6
        try clear c6b0
        try clear c9
        try clear c14
        try clear c19
        try clear c22
        try clear c24
        try clear c28
        try clear c29
        try clear c30
        try clear c36
        try clear c37
        try clear c46
        try clear c47
        try clear c48
        try clear c54
        try clear c55
        try clear c56
        try clear c57
        try clear c59
        try clear c60
        try clear c63
        try clear c64
        try clear c65
        try clear c67
        try clear c68
        try clear hcz18_0
        try clear hcz18_1
        try clear hcz18_2
        try clear hcz18_3
        try clear hcz18_4
        try clear hcz18_5
        try clear hcz20_0
        try clear hcz20_1
        try clear hcz20_2
        try clear hcz20_3
        try clear hcz20_4
        try clear hcz20_5
        try clear hcz29_0
        try clear hcz29_1
        try clear hcz29_2
        try clear hcz29_3
        try clear hcz29_4
        try clear hcz29_5
        try clear hcz33_0
        try clear hcz33_1
        try clear hcz33_2
        try clear hcz33_3
        try clear hcz33_4
        try clear hcz33_5
        try clear hcz38_0
        try clear hcz38_1
        try clear hcz38_2
        try clear hcz38_3
        try clear hcz38_4
        try clear hcz38_5
        try clear hcz42_0
        try clear hcz42_1
        try clear hcz42_2
        try clear hcz42_3
        try clear hcz42_4
        try clear hcz42_5
        try clear hcz49_0
        try clear hcz49_1
        try clear hcz49_2
        try clear hcz49_3
        try clear hcz49_4
        try clear hcz49_5
        try clear hcz58_0
        try clear hcz58_1
        try clear hcz58_2
        try clear hcz58_3
        try clear hcz58_4
        try clear hcz58_5
        try clear hcz61_0
        try clear hcz61_1
        try clear hcz61_2
        try clear hcz61_3
        try clear hcz61_4
        try clear hcz61_5
        try clear hcz66_0
        try clear hcz66_1
        try clear hcz66_2
        try clear hcz66_3
        try clear hcz66_4
        try clear hcz66_5
        try clear hcz69_0
        try clear hcz69_1
        try clear hcz69_2
        try clear hcz69_3
        try clear hcz69_4
        try clear hcz69_5
        try clear hcz8_0
        try clear hcz8_1
        try clear hcz8_2
        try clear hcz8_3
        try clear hcz8_4
        try clear hcz8_5
        try clear hfz18_0
        try clear hfz18_1
        try clear hfz18_2
        try clear hfz18_3
        try clear hfz18_4
        try clear hfz18_5
        try clear hfz20_0
        try clear hfz20_1
        try clear hfz20_2
        try clear hfz20_3
        try clear hfz20_4
        try clear hfz20_5
        try clear hfz29_0
        try clear hfz29_1
        try clear hfz29_2
        try clear hfz29_3
        try clear hfz29_4
        try clear hfz29_5
        try clear hfz33_0
        try clear hfz33_1
        try clear hfz33_2
        try clear hfz33_3
        try clear hfz33_4
        try clear hfz33_5
        try clear hfz38_0
        try clear hfz38_1
        try clear hfz38_2
        try clear hfz38_3
        try clear hfz38_4
        try clear hfz38_5
        try clear hfz42_0
        try clear hfz42_1
        try clear hfz42_2
        try clear hfz42_3
        try clear hfz42_4
        try clear hfz42_5
        try clear hfz49_0
        try clear hfz49_1
        try clear hfz49_2
        try clear hfz49_3
        try clear hfz49_4
        try clear hfz49_5
        try clear hfz58_0
        try clear hfz58_1
        try clear hfz58_2
        try clear hfz58_3
        try clear hfz58_4
        try clear hfz58_5
        try clear hfz61_0
        try clear hfz61_1
        try clear hfz61_2
        try clear hfz61_3
        try clear hfz61_4
        try clear hfz61_5
        try clear hfz66_0
        try clear hfz66_1
        try clear hfz66_2
        try clear hfz66_3
        try clear hfz66_4
        try clear hfz66_5
        try clear hfz69_0
        try clear hfz69_1
        try clear hfz69_2
        try clear hfz69_3
        try clear hfz69_4
        try clear hfz69_5
        try clear hfz8_0
        try clear hfz8_1
        try clear hfz8_2
        try clear hfz8_3
        try clear hfz8_4
        try clear hfz8_5
        obtain ⟨kq, x51_15, rfl, HA, HJ15, HO_9, HO_315002, HO_315003, HO_326002, HO_326003, HO_341002, HO_341003, BK288, BK314, BK325, BK340, HB⟩ := hcut
        cases kq with
        | zero => exact absurd HA.out (by simp [laws_FnExactRunLine.j0])
        | succ kj15 =>
          have H := HA.out
          clear HA
          simp only [laws_FnExactRunLine.j0] at H
          by_cases c71 : x51_15 = true
          · subst c71
            have H1 : (some false) = some r := by rw [if_pos rfl] at H; exact H
            clear H
            have H := H1
            clear H1
            exact absurd (hT.out ▸ H) (by simp)
          · replace c71 := Bool.eq_false_iff.mpr c71
            subst c71
            have H1 : ((laws_toLine.f kj15 a0_0 a0_1 l0_2 l0_3 a0_4 a0_5).bind fun bt342 => ((laws_eqLine.f kj15 t315 t316 t317 t320 t323 t324 bt342.1 bt342.2.1 bt342.2.2.1 bt342.2.2.2.1 bt342.2.2.2.2.1 bt342.2.2.2.2.2).bind fun t352 => (if t352 = true then ((laws_toIntS.f kj15 l1).bind fun t353 => ((laws_eqIntS.f kj15 t326 t353).bind fun t356 => (if t356 = true then ((laws_markLine.f kj15 t315 t316 t317 t320 t323 t324 1).bind fun bt357 => ((laws_markIntS.f kj15 t326 bt357.1).bind fun bt360 => (if bt360.1 < 0 then (laws_FnExactRunLine.j1 kj15 l1 t313 true a0_0 a0_1 l0_2 l0_3 a0_4 a0_5 t303 t304 t305 t308 t311 t312 t329 t330 t331 t334 t337 t338) else ((laws_eqLine.f kj15 t329 t330 t331 t334 t337 t338 t303 t304 t305 t308 t311 t312).bind fun t362 => (if t362 = true then (laws_FnExactRunLine.j1 kj15 l1 t313 (t339 != t313) a0_0 a0_1 l0_2 l0_3 a0_4 a0_5 t303 t304 t305 t308 t311 t312 t329 t330 t331 t334 t337 t338) else (laws_FnExactRunLine.j1 kj15 l1 t313 true a0_0 a0_1 l0_2 l0_3 a0_4 a0_5 t303 t304 t305 t308 t311 t312 t329 t330 t331 t334 t337 t338)))))) else (some false)))) else (some false)))) = some r := by rw [if_neg (show ¬ (false = true) by decide)] at H; exact H
            clear H
            have H := H1
            clear H1
            replace H := Option.bind_eq_some_iff.mp H
            obtain ⟨⟨t342, t343, t344, t347, t350, t351⟩, A720, H⟩ := H
            replace H : ((laws_eqLine.f kj15 t315 t316 t317 t320 t323 t324 t342 t343 t344 t347 t350 t351).bind fun t352 => (if t352 = true then ((laws_toIntS.f kj15 l1).bind fun t353 => ((laws_eqIntS.f kj15 t326 t353).bind fun t356 => (if t356 = true then ((laws_markLine.f kj15 t315 t316 t317 t320 t323 t324 1).bind fun bt357 => ((laws_markIntS.f kj15 t326 bt357.1).bind fun bt360 => (if bt360.1 < 0 then (laws_FnExactRunLine.j1 kj15 l1 t313 true a0_0 a0_1 l0_2 l0_3 a0_4 a0_5 t303 t304 t305 t308 t311 t312 t329 t330 t331 t334 t337 t338) else ((laws_eqLine.f kj15 t329 t330 t331 t334 t337 t338 t303 t304 t305 t308 t311 t312).bind fun t362 => (if t362 = true then (laws_FnExactRunLine.j1 kj15 l1 t313 (t339 != t313) a0_0 a0_1 l0_2 l0_3 a0_4 a0_5 t303 t304 t305 t308 t311 t312 t329 t330 t331 t334 t337 t338) else (laws_FnExactRunLine.j1 kj15 l1 t313 true a0_0 a0_1 l0_2 l0_3 a0_4 a0_5 t303 t304 t305 t308 t311 t312 t329 t330 t331 t334 t337 t338)))))) else (some false)))) else (some false))) = some r := H
            have A72 := Aside0.mk A720
            clear A720
            replace H := Option.bind_eq_some_iff.mp H
            obtain ⟨t352, A730, H⟩ := H
            replace H : (if t352 = true then ((laws_toIntS.f kj15 l1).bind fun t353 => ((laws_eqIntS.f kj15 t326 t353).bind fun t356 => (if t356 = true then ((laws_markLine.f kj15 t315 t316 t317 t320 t323 t324 1).bind fun bt357 => ((laws_markIntS.f kj15 t326 bt357.1).bind fun bt360 => (if bt360.1 < 0 then (laws_FnExactRunLine.j1 kj15 l1 t313 true a0_0 a0_1 l0_2 l0_3 a0_4 a0_5 t303 t304 t305 t308 t311 t312 t329 t330 t331 t334 t337 t338) else ((laws_eqLine.f kj15 t329 t330 t331 t334 t337 t338 t303 t304 t305 t308 t311 t312).bind fun t362 => (if t362 = true then (laws_FnExactRunLine.j1 kj15 l1 t313 (t339 != t313) a0_0 a0_1 l0_2 l0_3 a0_4 a0_5 t303 t304 t305 t308 t311 t312 t329 t330 t331 t334 t337 t338) else (laws_FnExactRunLine.j1 kj15 l1 t313 true a0_0 a0_1 l0_2 l0_3 a0_4 a0_5 t303 t304 t305 t308 t311 t312 t329 t330 t331 t334 t337 t338)))))) else (some false)))) else (some false)) = some r := H
            have A73 := Aside0.mk A730
            clear A730
            by_cases c74 : t352 = true
            · subst c74
              have H1 : ((laws_toIntS.f kj15 l1).bind fun t353 => ((laws_eqIntS.f kj15 t326 t353).bind fun t356 => (if t356 = true then ((laws_markLine.f kj15 t315 t316 t317 t320 t323 t324 1).bind fun bt357 => ((laws_markIntS.f kj15 t326 bt357.1).bind fun bt360 => (if bt360.1 < 0 then (laws_FnExactRunLine.j1 kj15 l1 t313 true a0_0 a0_1 l0_2 l0_3 a0_4 a0_5 t303 t304 t305 t308 t311 t312 t329 t330 t331 t334 t337 t338) else ((laws_eqLine.f kj15 t329 t330 t331 t334 t337 t338 t303 t304 t305 t308 t311 t312).bind fun t362 => (if t362 = true then (laws_FnExactRunLine.j1 kj15 l1 t313 (t339 != t313) a0_0 a0_1 l0_2 l0_3 a0_4 a0_5 t303 t304 t305 t308 t311 t312 t329 t330 t331 t334 t337 t338) else (laws_FnExactRunLine.j1 kj15 l1 t313 true a0_0 a0_1 l0_2 l0_3 a0_4 a0_5 t303 t304 t305 t308 t311 t312 t329 t330 t331 t334 t337 t338)))))) else (some false)))) = some r := by rw [if_pos rfl] at H; exact H
              clear H
              have H := H1
              clear H1
              replace H := Option.bind_eq_some_iff.mp H
              obtain ⟨t353, A750, H⟩ := H
              replace H : ((laws_eqIntS.f kj15 t326 t353).bind fun t356 => (if t356 = true then ((laws_markLine.f kj15 t315 t316 t317 t320 t323 t324 1).bind fun bt357 => ((laws_markIntS.f kj15 t326 bt357.1).bind fun bt360 => (if bt360.1 < 0 then (laws_FnExactRunLine.j1 kj15 l1 t313 true a0_0 a0_1 l0_2 l0_3 a0_4 a0_5 t303 t304 t305 t308 t311 t312 t329 t330 t331 t334 t337 t338) else ((laws_eqLine.f kj15 t329 t330 t331 t334 t337 t338 t303 t304 t305 t308 t311 t312).bind fun t362 => (if t362 = true then (laws_FnExactRunLine.j1 kj15 l1 t313 (t339 != t313) a0_0 a0_1 l0_2 l0_3 a0_4 a0_5 t303 t304 t305 t308 t311 t312 t329 t330 t331 t334 t337 t338) else (laws_FnExactRunLine.j1 kj15 l1 t313 true a0_0 a0_1 l0_2 l0_3 a0_4 a0_5 t303 t304 t305 t308 t311 t312 t329 t330 t331 t334 t337 t338)))))) else (some false))) = some r := H
              have A75 := Aside0.mk A750
              clear A750
              replace H := Option.bind_eq_some_iff.mp H
              obtain ⟨t356, A760, H⟩ := H
              replace H : (if t356 = true then ((laws_markLine.f kj15 t315 t316 t317 t320 t323 t324 1).bind fun bt357 => ((laws_markIntS.f kj15 t326 bt357.1).bind fun bt360 => (if bt360.1 < 0 then (laws_FnExactRunLine.j1 kj15 l1 t313 true a0_0 a0_1 l0_2 l0_3 a0_4 a0_5 t303 t304 t305 t308 t311 t312 t329 t330 t331 t334 t337 t338) else ((laws_eqLine.f kj15 t329 t330 t331 t334 t337 t338 t303 t304 t305 t308 t311 t312).bind fun t362 => (if t362 = true then (laws_FnExactRunLine.j1 kj15 l1 t313 (t339 != t313) a0_0 a0_1 l0_2 l0_3 a0_4 a0_5 t303 t304 t305 t308 t311 t312 t329 t330 t331 t334 t337 t338) else (laws_FnExactRunLine.j1 kj15 l1 t313 true a0_0 a0_1 l0_2 l0_3 a0_4 a0_5 t303 t304 t305 t308 t311 t312 t329 t330 t331 t334 t337 t338)))))) else (some false)) = some r := H
              have A76 := Aside0.mk A760
              clear A760
              by_cases c77 : t356 = true
              · subst c77
                have H1 : ((laws_markLine.f kj15 t315 t316 t317 t320 t323 t324 1).bind fun bt357 => ((laws_markIntS.f kj15 t326 bt357.1).bind fun bt360 => (if bt360.1 < 0 then (laws_FnExactRunLine.j1 kj15 l1 t313 true a0_0 a0_1 l0_2 l0_3 a0_4 a0_5 t303 t304 t305 t308 t311 t312 t329 t330 t331 t334 t337 t338) else ((laws_eqLine.f kj15 t329 t330 t331 t334 t337 t338 t303 t304 t305 t308 t311 t312).bind fun t362 => (if t362 = true then (laws_FnExactRunLine.j1 kj15 l1 t313 (t339 != t313) a0_0 a0_1 l0_2 l0_3 a0_4 a0_5 t303 t304 t305 t308 t311 t312 t329 t330 t331 t334 t337 t338) else (laws_FnExactRunLine.j1 kj15 l1 t313 true a0_0 a0_1 l0_2 l0_3 a0_4 a0_5 t303 t304 t305 t308 t311 t312 t329 t330 t331 t334 t337 t338)))))) = some r := by rw [if_pos rfl] at H; exact H
                clear H
                have H := H1
                clear H1
                replace H := Option.bind_eq_some_iff.mp H
                obtain ⟨⟨t357, t358, t359⟩, A780, H⟩ := H
                replace H : ((laws_markIntS.f kj15 t326 t357).bind fun bt360 => (if bt360.1 < 0 then (laws_FnExactRunLine.j1 kj15 l1 t313 true a0_0 a0_1 l0_2 l0_3 a0_4 a0_5 t303 t304 t305 t308 t311 t312 t329 t330 t331 t334 t337 t338) else ((laws_eqLine.f kj15 t329 t330 t331 t334 t337 t338 t303 t304 t305 t308 t311 t312).bind fun t362 => (if t362 = true then (laws_FnExactRunLine.j1 kj15 l1 t313 (t339 != t313) a0_0 a0_1 l0_2 l0_3 a0_4 a0_5 t303 t304 t305 t308 t311 t312 t329 t330 t331 t334 t337 t338) else (laws_FnExactRunLine.j1 kj15 l1 t313 true a0_0 a0_1 l0_2 l0_3 a0_4 a0_5 t303 t304 t305 t308 t311 t312 t329 t330 t331 t334 t337 t338))))) = some r := H
                have A78 := Aside0.mk A780
                clear A780
                replace H := Option.bind_eq_some_iff.mp H
                obtain ⟨⟨t360, t361⟩, A790, H⟩ := H
                replace H : (if t360 < 0 then (laws_FnExactRunLine.j1 kj15 l1 t313 true a0_0 a0_1 l0_2 l0_3 a0_4 a0_5 t303 t304 t305 t308 t311 t312 t329 t330 t331 t334 t337 t338) else ((laws_eqLine.f kj15 t329 t330 t331 t334 t337 t338 t303 t304 t305 t308 t311 t312).bind fun t362 => (if t362 = true then (laws_FnExactRunLine.j1 kj15 l1 t313 (t339 != t313) a0_0 a0_1 l0_2 l0_3 a0_4 a0_5 t303 t304 t305 t308 t311 t312 t329 t330 t331 t334 t337 t338) else (laws_FnExactRunLine.j1 kj15 l1 t313 true a0_0 a0_1 l0_2 l0_3 a0_4 a0_5 t303 t304 t305 t308 t311 t312 t329 t330 t331 t334 t337 t338)))) = some r := H
                have A79 := Aside0.mk A790
                clear A790
                have HC80 := Aside0.mk H
                clear H
                try go_wp2
                have n0_ := Aside0.mk (Kd.R_drew HO_9.out)
                have n1_ := Aside0.mk (Kd.Q_drew HO_315002.out)
                have n2_ := Aside0.mk (Kd.R_drew HO_315003.out)
                have n3_ := Aside0.mk (Kd.Q_drew HO_326002.out)
                have n4_ := Aside0.mk (Kd.Q_drew HO_326003.out)
                have n5_ := Aside0.mk (Kd.Q_drew HO_341002.out)
                have n6_ := Aside0.mk (Kd.Q_drew HO_341003.out)
                have n7_ := Aside0.mk (blk_drew BK288.out)
                have n8_ := Aside0.mk (blk_drew BK314.out)
                have n9_ := Aside0.mk (blk_drew BK325.out)
                have n10_ := Aside0.mk (blk_drew BK340.out)
                have n11_ := Aside0.mk (below_drew1 HB.out)
                clear HO_9
                clear HO_315002
                clear HO_315003
                clear HO_326002
                clear HO_326003
                clear HO_341002
                clear HO_341003
                clear BK288
                clear BK314
                clear BK325
                clear BK340
                clear HB
                have HO_9 := n0_
                have HO_315002 := n1_
                have HO_315003 := n2_
                have HO_326002 := n3_
                have HO_326003 := n4_
                have HO_341002 := n5_
                have HO_341003 := n6_
                have BK288 := n7_
                have BK314 := n8_
                have BK325 := n9_
                have BK340 := n10_
                have HB := n11_
                clear n0_ n1_ n2_ n3_ n4_ n5_ n6_ n7_ n8_ n9_ n10_ n11_
                refine start_ (n := 5) (S := fun w' => w'.cell? ⟨gb325, 0, none⟩ = some (.int .i64 t315) ∧ w'.cell? ⟨gb325, 1, none⟩ = some (.int .i64 t316) ∧ w'.cell? ⟨gb325, 2, none⟩ = some (.slice Ao39 t317.length co39) ∧ w'.cell? ⟨gb325, 3, none⟩ = some (.slice Ao40 t320.length co40) ∧ w'.cell? ⟨gb325, 4, none⟩ = some (.int .i64 t323) ∧ w'.cell? ⟨gb325, 5, none⟩ = some (.bool t324) ∧ w'.cell? ⟨gb288, 0, none⟩ = some (.int .i64 a0_0) ∧ w'.cell? ⟨gb288, 1, none⟩ = some (.int .i64 a0_1) ∧ w'.cell? ⟨gb288, 2, none⟩ = some (.slice A0_2 l0_2.length c0_2) ∧ w'.cell? ⟨gb288, 3, none⟩ = some (.slice A0_3 l0_3.length c0_3) ∧ w'.cell? ⟨gb288, 4, none⟩ = some (.int .i64 a0_4) ∧ w'.cell? ⟨gb288, 5, none⟩ = some (.bool a0_5)) (ds := []) #[false, false, false, false, false] (by kernel_rfl) rfl rfl ⟨(blk_cell BK325.out 0).trans rfl, (blk_cell BK325.out 1).trans rfl, (blk_cell BK325.out 2).trans rfl, (blk_cell BK325.out 3).trans rfl, (blk_cell BK325.out 4).trans rfl, (blk_cell BK325.out 5).trans rfl, (blk_cell BK288.out 0).trans rfl, (blk_cell BK288.out 1).trans rfl, (blk_cell BK288.out 2).trans rfl, (blk_cell BK288.out 3).trans rfl, (blk_cell BK288.out 4).trans rfl, (blk_cell BK288.out 5).trans rfl⟩ (fun hHeld => ?_)
                generalize wc.drew = w81 at HO_9 HO_315002 HO_315003 HO_326002 HO_326003 HO_341002 HO_341003 BK288 BK314 BK325 BK340 HB hHeld ⊢
                refine take_ (i := 0) (N := some 52) (v := ?_) (a' := ?_) #[true, false, false, false, false] rfl rfl (by kernel_rfl) (fun _ _ _ h => h) (Or.inl ⟨by rfl, ?_⟩) hHeld ?_ ?_
                rotate_left
                · rintro w' ⟨s0, s1, s2, s3, s4, s5, s6, s7, s8, s9, s10, s11⟩
                  go_simp
                  with_reducible rfl
                rotate_left
                · simp only [Act.put, List.setIfInBounds_toArray, List.set_cons_zero, List.set_cons_succ, i64_w, i32_w]
                  rfl
                refine take_ (i := 1) (N := some 53) (v := ?_) (a' := ?_) #[true, true, false, false, false] rfl rfl (by kernel_rfl) (fun _ _ _ h => h) (Or.inl ⟨by rfl, ?_⟩) hHeld ?_ ?_
                rotate_left
                · rintro w' ⟨s0, s1, s2, s3, s4, s5, s6, s7, s8, s9, s10, s11⟩
                  go_simp
                  with_reducible rfl
                rotate_left
                · simp only [Act.put, List.setIfInBounds_toArray, List.set_cons_zero, List.set_cons_succ, i64_w, i32_w]
                  rfl
                refine one_ (i := 2) (N := some 54) #[true, true, true, false, false] rfl rfl (by kernel_rfl) (by decide) (fun K hK => ?_)
                refine goes_ Try.func24 (by kernel_rfl) rfl #[.agg #[.int .i64 a0_0, .int .i64 a0_1, .slice A0_2 l0_2.length c0_2, .slice A0_3 l0_3.length c0_3, .int .i64 a0_4, .bool a0_5]] (by rfl) rfl rfl Fix.uA ?_
                with_reducible refine (laws_toLine.calls kj15 a0_0 a0_1 _ _ l0_2 _ _ l0_3 a0_4 a0_5 t342 t343 t344 t347 t350 t351 _ ?side1 ?side2 ?side3 ?side4 A72.out).mono ?_
                (case side1 => exact Fix.uC (Kd.C_below HR0_2.out HB.out))
                (case side2 => exact HC0_2.out)
                (case side3 => exact Fix.uC (Kd.C_below HR0_3.out HB.out))
                (case side4 => exact HC0_3.out)
                rintro e w82 ⟨v345, v348, rfl, ho0, ho1, hb⟩
                refine ⟨_, rfl, ?_⟩
                have n0_ := Aside0.mk (Kd.R_mono (Kd.R_told (Kd.R_told (Kd.R_old (Fix.uR HO_9.out) hb) (Kd.R_base ho0)) (Kd.R_base ho1)) (fun _ h_ => h_.1))
                have n1_ := Aside0.mk (Kd.Q_mono (Kd.Q_told (Kd.Q_told (Kd.Q_old (Fix.uQ HO_315002.out) hb) (Kd.R_base ho0)) (Kd.R_base ho1)) (fun _ h_ => h_.1))
                have n2_ := Aside0.mk (Kd.R_mono (Kd.R_told (Kd.R_told (Kd.R_old (Fix.uR HO_315003.out) hb) (Kd.R_base ho0)) (Kd.R_base ho1)) (fun _ h_ => h_.1))
                have n3_ := Aside0.mk (Kd.Q_mono (Kd.Q_told (Kd.Q_told (Kd.Q_old (Fix.uQ HO_326002.out) hb) (Kd.R_base ho0)) (Kd.R_base ho1)) (fun _ h_ => h_.1))
                have n4_ := Aside0.mk (Kd.Q_mono (Kd.Q_told (Kd.Q_told (Kd.Q_old (Fix.uQ HO_326003.out) hb) (Kd.R_base ho0)) (Kd.R_base ho1)) (fun _ h_ => h_.1))
                have n5_ := Aside0.mk (Kd.Q_mono (Kd.Q_told (Kd.Q_told (Kd.Q_old (Fix.uQ HO_341002.out) hb) (Kd.R_base ho0)) (Kd.R_base ho1)) (fun _ h_ => h_.1))
                have n6_ := Aside0.mk (Kd.Q_mono (Kd.Q_told (Kd.Q_told (Kd.Q_old (Fix.uQ HO_341003.out) hb) (Kd.R_base ho0)) (Kd.R_base ho1)) (fun _ h_ => h_.1))
                have n7_ := Aside0.mk (Kd.R_lower (Kd.R_new' (Kd.R_new' (Kd.R_new' (Kd.R_new' (Kd.R_new' (Kd.R_new' (Kd.R_new' ho0 (Kd.R_lt (Fix.uR HO_9.out))) (Kd.Q_lt (Fix.uQ HO_315002.out))) (Kd.R_lt (Fix.uR HO_315003.out))) (Kd.Q_lt (Fix.uQ HO_326002.out))) (Kd.Q_lt (Fix.uQ HO_326003.out))) (Kd.Q_lt (Fix.uQ HO_341002.out))) (Kd.Q_lt (Fix.uQ HO_341003.out))) (below_size Fix.uB))
                have n8_ := Aside0.mk (Kd.R_lower (Kd.R_new' (Kd.R_new' (Kd.R_new' (Kd.R_new' (Kd.R_new' (Kd.R_new' (Kd.R_new' ho1 (Kd.R_lt (Fix.uR HO_9.out))) (Kd.Q_lt (Fix.uQ HO_315002.out))) (Kd.R_lt (Fix.uR HO_315003.out))) (Kd.Q_lt (Fix.uQ HO_326002.out))) (Kd.Q_lt (Fix.uQ HO_326003.out))) (Kd.Q_lt (Fix.uQ HO_341002.out))) (Kd.Q_lt (Fix.uQ HO_341003.out))) (below_size Fix.uB))
                have n9_ := Aside0.mk (blk_below (g := gb288) (o := .cells #[.int .i64 a0_0, .int .i64 a0_1, .slice A0_2 l0_2.length c0_2, .slice A0_3 l0_3.length c0_3, .int .i64 a0_4, .bool a0_5] 38 (0, 0)) (Fix.uK BK288.out) hb)
                have n10_ := Aside0.mk (blk_below (g := gb314) (o := .cells #[.int .i64 t303, .int .i64 t304, .slice Ao30 t305.length co30, .slice Ao31 t308.length co31, .int .i64 t311, .bool t312] 28 (0, 0)) (Fix.uK BK314.out) hb)
                have n11_ := Aside0.mk (blk_below (g := gb325) (o := .cells #[.int .i64 t315, .int .i64 t316, .slice Ao39 t317.length co39, .slice Ao40 t320.length co40, .int .i64 t323, .bool t324] 28 (0, 0)) (Fix.uK BK325.out) hb)
                have n12_ := Aside0.mk (blk_below (g := gb340) (o := .cells #[.int .i64 t329, .int .i64 t330, .slice Ao50 t331.length co50, .slice Ao51 t334.length co51, .int .i64 t337, .bool t338] 28 (0, 0)) (Fix.uK BK340.out) hb)
                have n13_ := Aside0.mk (below_step Fix.uB hb)
                clear HO_9
                clear HO_315002
                clear HO_315003
                clear HO_326002
                clear HO_326003
                clear HO_341002
                clear HO_341003
                clear BK288
                clear BK314
                clear BK325
                clear BK340
                clear HB
                have HO_9 := n0_
                have HO_315002 := n1_
                have HO_315003 := n2_
                have HO_326002 := n3_
                have HO_326003 := n4_
                have HO_341002 := n5_
                have HO_341003 := n6_
                have HO346 := n7_
                have HO349 := n8_
                have BK288 := n9_
                have BK314 := n10_
                have BK325 := n11_
                have BK340 := n12_
                have HB := n13_
                clear n0_ n1_ n2_ n3_ n4_ n5_ n6_ n7_ n8_ n9_ n10_ n11_ n12_ n13_
                (try clear hb)
                (try clear hb2)
                (try clear hk)
                (try clear hi)
                (try clear ho0)
                (try clear ho1)
                obtain ⟨Ao83, co83, eo83⟩ := Kd.R_slice HO346.out
                (first | subst eo83 | (injection eo83 with f1_ f2_ f3_; have f4_ := f1_.symm; have f5_ := f3_.symm; clear f1_ f2_ f3_; subst f4_; subst f5_))
                obtain ⟨Ao84, co84, eo84⟩ := Kd.R_slice HO349.out
                (first | subst eo84 | (injection eo84 with f1_ f2_ f3_; have f4_ := f1_.symm; have f5_ := f3_.symm; clear f1_ f2_ f3_; subst f4_; subst f5_))
                refine hK.out _ _ ⟨(blk_cell BK325.out 0).trans rfl, (blk_cell BK325.out 1).trans rfl, (blk_cell BK325.out 2).trans rfl, (blk_cell BK325.out 3).trans rfl, (blk_cell BK325.out 4).trans rfl, (blk_cell BK325.out 5).trans rfl, (blk_cell BK288.out 0).trans rfl, (blk_cell BK288.out 1).trans rfl, (blk_cell BK288.out 2).trans rfl, (blk_cell BK288.out 3).trans rfl, (blk_cell BK288.out 4).trans rfl, (blk_cell BK288.out 5).trans rfl⟩ (fun hHeld => ?_)
                clear hK K
                refine norm_ (a' := ?_) ?_ ?_
                rotate_left
                · show Act.put _ (some 54) _ = _
                  simp only [Act.put, List.setIfInBounds_toArray, List.set_cons_zero, List.set_cons_succ, i64_w, i32_w]
                  rfl
                refine one_ (i := 3) (N := some 55) #[true, true, true, true, false] rfl rfl (by kernel_rfl) (by decide) (fun K hK => ?_)
                refine goes_ Try.func19 (by kernel_rfl) rfl #[.agg #[.int .i64 t315, .int .i64 t316, .slice Ao39 t317.length co39, .slice Ao40 t320.length co40, .int .i64 t323, .bool t324], .agg #[.int .i64 t342, .int .i64 t343, .slice Ao83 t344.length co83, .slice Ao84 t347.length co84, .int .i64 t350, .bool t351]] (by rfl) rfl rfl Fix.uA ?_
                with_reducible refine (laws_eqLine.calls kj15 t315 t316 _ _ t317 _ _ t320 t323 t324 t342 t343 _ _ t344 _ _ t347 t350 t351 true _ ?side1 ?side2 ?side3 ?side4 ?side5 ?side6 ?side7 ?side8 A73.out).mono ?_
                (case side1 => exact Fix.uC (Kd.Q_reads' HO_326002.out).2.2)
                (case side2 => exact (Kd.Q_reads' HO_326002.out).2.1)
                (case side3 => exact Fix.uC (Kd.Q_reads' HO_326003.out).2.2)
                (case side4 => exact (Kd.Q_reads' HO_326003.out).2.1)
                (case side5 => exact Fix.uC (Kd.R_reads' HO346.out).2.2)
                (case side6 => exact (Kd.R_reads' HO346.out).2.1)
                (case side7 => exact Fix.uC (Kd.R_reads' HO349.out).2.2)
                (case side8 => exact (Kd.R_reads' HO349.out).2.1)
                rintro e w85 ⟨rfl, hb⟩
                refine ⟨_, rfl, ?_⟩
                have n0_ := Aside0.mk (Kd.R_below (Fix.uR HO_9.out) hb)
                have n1_ := Aside0.mk (Kd.Q_below (Fix.uQ HO_315002.out) hb)
                have n2_ := Aside0.mk (Kd.R_below (Fix.uR HO_315003.out) hb)
                have n3_ := Aside0.mk (Kd.Q_below (Fix.uQ HO_326002.out) hb)
                have n4_ := Aside0.mk (Kd.Q_below (Fix.uQ HO_326003.out) hb)
                have n5_ := Aside0.mk (Kd.Q_below (Fix.uQ HO_341002.out) hb)
                have n6_ := Aside0.mk (Kd.Q_below (Fix.uQ HO_341003.out) hb)
                have n7_ := Aside0.mk (Kd.R_below (Fix.uR HO346.out) hb)
                have n8_ := Aside0.mk (Kd.R_below (Fix.uR HO349.out) hb)
                have n9_ := Aside0.mk (blk_below (g := gb288) (o := .cells #[.int .i64 a0_0, .int .i64 a0_1, .slice A0_2 l0_2.length c0_2, .slice A0_3 l0_3.length c0_3, .int .i64 a0_4, .bool a0_5] 38 (0, 0)) (Fix.uK BK288.out) hb)
                have n10_ := Aside0.mk (blk_below (g := gb314) (o := .cells #[.int .i64 t303, .int .i64 t304, .slice Ao30 t305.length co30, .slice Ao31 t308.length co31, .int .i64 t311, .bool t312] 28 (0, 0)) (Fix.uK BK314.out) hb)
                have n11_ := Aside0.mk (blk_below (g := gb325) (o := .cells #[.int .i64 t315, .int .i64 t316, .slice Ao39 t317.length co39, .slice Ao40 t320.length co40, .int .i64 t323, .bool t324] 28 (0, 0)) (Fix.uK BK325.out) hb)
                have n12_ := Aside0.mk (blk_below (g := gb340) (o := .cells #[.int .i64 t329, .int .i64 t330, .slice Ao50 t331.length co50, .slice Ao51 t334.length co51, .int .i64 t337, .bool t338] 28 (0, 0)) (Fix.uK BK340.out) hb)
                have n13_ := Aside0.mk (below_step Fix.uB hb)
                clear HO_9
                clear HO_315002
                clear HO_315003
                clear HO_326002
                clear HO_326003
                clear HO_341002
                clear HO_341003
                clear HO346
                clear HO349
                clear BK288
                clear BK314
                clear BK325
                clear BK340
                clear HB
                have HO_9 := n0_
                have HO_315002 := n1_
                have HO_315003 := n2_
                have HO_326002 := n3_
                have HO_326003 := n4_
                have HO_341002 := n5_
                have HO_341003 := n6_
                have HO346 := n7_
                have HO349 := n8_
                have BK288 := n9_
                have BK314 := n10_
                have BK325 := n11_
                have BK340 := n12_
                have HB := n13_
                clear n0_ n1_ n2_ n3_ n4_ n5_ n6_ n7_ n8_ n9_ n10_ n11_ n12_ n13_
                (try clear hb)
                (try clear hb2)
                (try clear hk)
                (try clear hi)
                refine hK.out _ _ ⟨(blk_cell BK325.out 0).trans rfl, (blk_cell BK325.out 1).trans rfl, (blk_cell BK325.out 2).trans rfl, (blk_cell BK325.out 3).trans rfl, (blk_cell BK325.out 4).trans rfl, (blk_cell BK325.out 5).trans rfl, (blk_cell BK288.out 0).trans rfl, (blk_cell BK288.out 1).trans rfl, (blk_cell BK288.out 2).trans rfl, (blk_cell BK288.out 3).trans rfl, (blk_cell BK288.out 4).trans rfl, (blk_cell BK288.out 5).trans rfl⟩ (fun hHeld => ?_)
                clear hK K
                refine norm_ (a' := ?_) ?_ ?_
                rotate_left
                · show Act.put _ (some 55) _ = _
                  simp only [Act.put, List.setIfInBounds_toArray, List.set_cons_zero, List.set_cons_succ, i64_w, i32_w]
                  rfl
                refine pure_ (i := 4) (N := some 56) (v := ?_) (a' := ?_) #[true, true, true, true, true] rfl rfl (by kernel_rfl) (fun _ _ _ h => h) (Or.inl ⟨by rfl, ?_⟩) ?_ ?_
                rotate_left
                · intro w'
                  go_simp
                  with_reducible rfl
                rotate_left
                · simp only [Act.put, List.setIfInBounds_toArray, List.set_cons_zero, List.set_cons_succ, i64_w, i32_w]
                  rfl
                refine done_ (by kernel_rfl) ?_
                go_upto_region 20 with (first | ((with_reducible refine gate_callee (f := 30) rfl ?_); refine goesL_ (some 59) rfl rfl Try.func30 (by kernel_rfl) rfl #[.slice A1 l1.length c1] rfl Fix.uA ?_; (with_reducible refine (laws_toIntS.calls kj15 _ _ l1 t353 _ ?side1 ?side2 A75.out).mono ?_); (case side1 => exact Fix.uC (Kd.C_below HR1.out HB.out)); (case side2 => exact HC1.out); rintro e w86 ⟨v354, rfl, ho0, hb⟩; refine ⟨_, rfl, ?_⟩; have n0_ := Aside0.mk (Kd.R_elder' (Fix.uR HO_9.out) (Kd.R_base ho0) hb); have n1_ := Aside0.mk (Kd.Q_elder' (Fix.uQ HO_315002.out) (Kd.R_base ho0) hb); have n2_ := Aside0.mk (Kd.R_elder' (Fix.uR HO_315003.out) (Kd.R_base ho0) hb); have n3_ := Aside0.mk (Kd.Q_elder' (Fix.uQ HO_326002.out) (Kd.R_base ho0) hb); have n4_ := Aside0.mk (Kd.Q_elder' (Fix.uQ HO_326003.out) (Kd.R_base ho0) hb); have n5_ := Aside0.mk (Kd.Q_elder' (Fix.uQ HO_341002.out) (Kd.R_base ho0) hb); have n6_ := Aside0.mk (Kd.Q_elder' (Fix.uQ HO_341003.out) (Kd.R_base ho0) hb); have n7_ := Aside0.mk (Kd.R_elder' (Fix.uR HO346.out) (Kd.R_base ho0) hb); have n8_ := Aside0.mk (Kd.R_elder' (Fix.uR HO349.out) (Kd.R_base ho0) hb); have n9_ := Aside0.mk (Kd.R_lower (Kd.R_new' (Kd.R_new' (Kd.R_new' (Kd.R_new' (Kd.R_new' (Kd.R_new' (Kd.R_new' (Kd.R_new' (Kd.R_new' ho0 (Kd.R_lt (Fix.uR HO_9.out))) (Kd.Q_lt (Fix.uQ HO_315002.out))) (Kd.R_lt (Fix.uR HO_315003.out))) (Kd.Q_lt (Fix.uQ HO_326002.out))) (Kd.Q_lt (Fix.uQ HO_326003.out))) (Kd.Q_lt (Fix.uQ HO_341002.out))) (Kd.Q_lt (Fix.uQ HO_341003.out))) (Kd.R_lt (Fix.uR HO346.out))) (Kd.R_lt (Fix.uR HO349.out))) (below_size Fix.uB)); have n10_ := Aside0.mk (blk_below (g := gb288) (o := .cells #[.int .i64 a0_0, .int .i64 a0_1, .slice A0_2 l0_2.length c0_2, .slice A0_3 l0_3.length c0_3, .int .i64 a0_4, .bool a0_5] 38 (0, 0)) (Fix.uK BK288.out) hb); have n11_ := Aside0.mk (blk_below (g := gb314) (o := .cells #[.int .i64 t303, .int .i64 t304, .slice Ao30 t305.length co30, .slice Ao31 t308.length co31, .int .i64 t311, .bool t312] 28 (0, 0)) (Fix.uK BK314.out) hb); have n12_ := Aside0.mk (blk_below (g := gb325) (o := .cells #[.int .i64 t315, .int .i64 t316, .slice Ao39 t317.length co39, .slice Ao40 t320.length co40, .int .i64 t323, .bool t324] 28 (0, 0)) (Fix.uK BK325.out) hb); have n13_ := Aside0.mk (blk_below (g := gb340) (o := .cells #[.int .i64 t329, .int .i64 t330, .slice Ao50 t331.length co50, .slice Ao51 t334.length co51, .int .i64 t337, .bool t338] 28 (0, 0)) (Fix.uK BK340.out) hb); have n14_ := Aside0.mk (below_step Fix.uB hb); clear HO_9; clear HO_315002; clear HO_315003; clear HO_326002; clear HO_326003; clear HO_341002; clear HO_341003; clear HO346; clear HO349; clear BK288; clear BK314; clear BK325; clear BK340; clear HB; have HO_9 := n0_; have HO_315002 := n1_; have HO_315003 := n2_; have HO_326002 := n3_; have HO_326003 := n4_; have HO_341002 := n5_; have HO_341003 := n6_; have HO346 := n7_; have HO349 := n8_; have HO355 := n9_; have BK288 := n10_; have BK314 := n11_; have BK325 := n12_; have BK340 := n13_; have HB := n14_; clear n0_ n1_ n2_ n3_ n4_ n5_ n6_ n7_ n8_ n9_ n10_ n11_ n12_ n13_ n14_; (try clear hb); (try clear hb2); (try clear hk); (try clear hi); (try clear ho0); obtain ⟨Ao87, co87, eo87⟩ := Kd.R_slice HO355.out; subst eo87) | ((with_reducible refine gate_callee (f := 31) rfl ?_); refine goesL_ (some 60) rfl rfl Try.func31 (by kernel_rfl) rfl #[.slice Ao43 t326.length co43, .slice Ao87 t353.length co87] rfl Fix.uA ?_; (with_reducible refine (laws_eqIntS.calls kj15 _ _ t326 _ _ t353 true _ ?side1 ?side2 ?side3 ?side4 A76.out).mono ?_); (case side1 => exact Fix.uC (Kd.R_reads' HO_9.out).2.2); (case side2 => exact (Kd.R_reads' HO_9.out).2.1); (case side3 => exact Fix.uC (Kd.R_reads' HO355.out).2.2); (case side4 => exact (Kd.R_reads' HO355.out).2.1); rintro e w' ⟨rfl, ⟨nd, rfl⟩⟩; refine ⟨_, rfl, ?_⟩; have hnb88 := NB325_288.out; have hnc88 := NB288_325.out; have hnb89 := NB325_314.out; have hnc89 := NB314_325.out; have hnb90 := NB325_340.out; have hnc90 := NB340_325.out; obtain ⟨hcz91_0, hcz91_1, hcz91_2, hcz91_3, hcz91_4, hcz91_5, hfz91_0, hfz91_1, hfz91_2, hfz91_3, hfz91_4, hfz91_5⟩ := Fix.d6 BK325.out) | ((with_reducible refine gate_callee (f := 20) rfl ?_); refine goesL_ (some 64) rfl rfl Try.func20 (by kernel_rfl) rfl #[.agg #[.int .i64 t315, .int .i64 t316, .slice Ao39 t317.length co39, .slice Ao40 t320.length co40, .int .i64 t323, .bool t324], .int .i64 1] rfl Fix.uA ?_; (with_reducible refine (laws_markLine.calls kj15 t315 t316 (fun k_ => some k_ = (.slice Ao39 t317.length co39 : Value).ownBlock) (.slice Ao39 t317.length co39) t317 (fun k_ => some k_ = (.slice Ao40 t320.length co40 : Value).ownBlock) (.slice Ao40 t320.length co40) t320 t323 t324 1 t357 t358 t359 w _ ?side1 ?side2 ?side3 ?side4 ?side5 A78.out).mono ?_); (case side1 => repeat (first | (with_reducible first | exact HB.out | apply Fix.bA | apply Fix.bN | apply Fix.b1 | refine below_set ?_ GE288.out | refine below_set ?_ GE314.out | refine below_set ?_ GE325.out | refine below_set ?_ GE340.out) | exact HB.out)); (case side2 => exact Kd.Q_tight rfl HO_326002.out); (case side3 => exact fun k_ e_ => (HO_326002.out.1 k_ e_.symm).1.1.1.2.2.2.1); (case side4 => exact Kd.Q_tight rfl HO_326003.out); (case side5 => exact fun k_ e_ => (HO_326003.out.1 k_ e_.symm).1.1.1.2.2.2.1); rintro e w92 ⟨rfl, hy0, hy1, hb, hkp⟩; refine ⟨_, rfl, ?_⟩; have n0_ := Aside0.mk (Kd.R_mono (ok' := fun k_ => some k_ ≠ (.slice Ao30 t305.length co30 : Value).ownBlock ∧ some k_ ≠ (.slice Ao31 t308.length co31 : Value).ownBlock ∧ some k_ ≠ (.slice Ao39 t317.length co39 : Value).ownBlock ∧ some k_ ≠ (.slice Ao40 t320.length co40 : Value).ownBlock ∧ some k_ ≠ (.slice Ao50 t331.length co50 : Value).ownBlock ∧ some k_ ≠ (.slice Ao51 t334.length co51 : Value).ownBlock ∧ some k_ ≠ (.slice Ao83 t344.length co83 : Value).ownBlock ∧ some k_ ≠ (.slice Ao84 t347.length co84 : Value).ownBlock ∧ some k_ ≠ (.slice Ao87 t353.length co87 : Value).ownBlock) (Kd.R_keptB (HO_9.out) hkp (fun k_ hk_ hs_ => Or.elim hs_ (fun e_ => (hk_.1.1.1.2.2.1) e_) (fun e_ => (hk_.1.1.1.2.2.2.1) e_))) (fun k_ hk_ => ⟨hk_.1.1.1.1.1, hk_.1.1.1.1.2.1, hk_.1.1.1.1.2.2.1, hk_.1.1.1.1.2.2.2.1, hk_.1.1.1.1.2.2.2.2.1, hk_.1.1.1.1.2.2.2.2.2, hk_.1.1.1.2, hk_.1.1.2, hk_.1.2⟩)); have n1_ := Aside0.mk (Kd.Q_mono (ok' := fun k_ => some k_ ≠ (.slice Ao43 t326.length co43 : Value).ownBlock ∧ some k_ ≠ (.slice Ao31 t308.length co31 : Value).ownBlock ∧ some k_ ≠ (.slice Ao39 t317.length co39 : Value).ownBlock ∧ some k_ ≠ (.slice Ao40 t320.length co40 : Value).ownBlock ∧ some k_ ≠ (.slice Ao50 t331.length co50 : Value).ownBlock ∧ some k_ ≠ (.slice Ao51 t334.length co51 : Value).ownBlock ∧ some k_ ≠ (.slice Ao83 t344.length co83 : Value).ownBlock ∧ some k_ ≠ (.slice Ao84 t347.length co84 : Value).ownBlock ∧ some k_ ≠ (.slice Ao87 t353.length co87 : Value).ownBlock) (Kd.Q_keptB (HO_315002.out) hkp (fun k_ hk_ hs_ => Or.elim hs_ (fun e_ => (hk_.1.1.1.2.2.1) e_) (fun e_ => (hk_.1.1.1.2.2.2.1) e_))) (fun k_ hk_ => ⟨hk_.1.1.1.1.1, hk_.1.1.1.1.2.1, hk_.1.1.1.1.2.2.1, hk_.1.1.1.1.2.2.2.1, hk_.1.1.1.1.2.2.2.2.1, hk_.1.1.1.1.2.2.2.2.2, hk_.1.1.1.2, hk_.1.1.2, hk_.1.2⟩)); have n2_ := Aside0.mk (Kd.R_mono (ok' := fun k_ => some k_ ≠ (.slice Ao43 t326.length co43 : Value).ownBlock ∧ some k_ ≠ (.slice Ao30 t305.length co30 : Value).ownBlock ∧ some k_ ≠ (.slice Ao39 t317.length co39 : Value).ownBlock ∧ some k_ ≠ (.slice Ao40 t320.length co40 : Value).ownBlock ∧ some k_ ≠ (.slice Ao50 t331.length co50 : Value).ownBlock ∧ some k_ ≠ (.slice Ao51 t334.length co51 : Value).ownBlock ∧ some k_ ≠ (.slice Ao83 t344.length co83 : Value).ownBlock ∧ some k_ ≠ (.slice Ao84 t347.length co84 : Value).ownBlock ∧ some k_ ≠ (.slice Ao87 t353.length co87 : Value).ownBlock) (Kd.R_keptB (HO_315003.out) hkp (fun k_ hk_ hs_ => Or.elim hs_ (fun e_ => (hk_.1.1.1.2.2.1) e_) (fun e_ => (hk_.1.1.1.2.2.2.1) e_))) (fun k_ hk_ => ⟨hk_.1.1.1.1.1, hk_.1.1.1.1.2.1, hk_.1.1.1.1.2.2.1, hk_.1.1.1.1.2.2.2.1, hk_.1.1.1.1.2.2.2.2.1, hk_.1.1.1.1.2.2.2.2.2, hk_.1.1.1.2, hk_.1.1.2, hk_.1.2⟩)); have n3_ := Aside0.mk (Ext.Q_reok rfl hy0 (fun k_ e_ => HO_326002.out.1 k_ e_)); have n4_ := Aside0.mk (Ext.Q_reok rfl hy1 (fun k_ e_ => HO_326003.out.1 k_ e_)); have n5_ := Aside0.mk (Kd.Q_mono (ok' := fun k_ => some k_ ≠ (.slice Ao43 t326.length co43 : Value).ownBlock ∧ some k_ ≠ (.slice Ao30 t305.length co30 : Value).ownBlock ∧ some k_ ≠ (.slice Ao31 t308.length co31 : Value).ownBlock ∧ some k_ ≠ (.slice Ao39 t317.length co39 : Value).ownBlock ∧ some k_ ≠ (.slice Ao40 t320.length co40 : Value).ownBlock ∧ some k_ ≠ (.slice Ao51 t334.length co51 : Value).ownBlock ∧ some k_ ≠ (.slice Ao83 t344.length co83 : Value).ownBlock ∧ some k_ ≠ (.slice Ao84 t347.length co84 : Value).ownBlock ∧ some k_ ≠ (.slice Ao87 t353.length co87 : Value).ownBlock) (Kd.Q_keptB (HO_341002.out) hkp (fun k_ hk_ hs_ => Or.elim hs_ (fun e_ => (hk_.1.1.1.2.2.2.1) e_) (fun e_ => (hk_.1.1.1.2.2.2.2.1) e_))) (fun k_ hk_ => ⟨hk_.1.1.1.1.1, hk_.1.1.1.1.2.1, hk_.1.1.1.1.2.2.1, hk_.1.1.1.1.2.2.2.1, hk_.1.1.1.1.2.2.2.2.1, hk_.1.1.1.1.2.2.2.2.2, hk_.1.1.1.2, hk_.1.1.2, hk_.1.2⟩)); have n6_ := Aside0.mk (Kd.Q_mono (ok' := fun k_ => some k_ ≠ (.slice Ao43 t326.length co43 : Value).ownBlock ∧ some k_ ≠ (.slice Ao30 t305.length co30 : Value).ownBlock ∧ some k_ ≠ (.slice Ao31 t308.length co31 : Value).ownBlock ∧ some k_ ≠ (.slice Ao39 t317.length co39 : Value).ownBlock ∧ some k_ ≠ (.slice Ao40 t320.length co40 : Value).ownBlock ∧ some k_ ≠ (.slice Ao50 t331.length co50 : Value).ownBlock ∧ some k_ ≠ (.slice Ao83 t344.length co83 : Value).ownBlock ∧ some k_ ≠ (.slice Ao84 t347.length co84 : Value).ownBlock ∧ some k_ ≠ (.slice Ao87 t353.length co87 : Value).ownBlock) (Kd.Q_keptB (HO_341003.out) hkp (fun k_ hk_ hs_ => Or.elim hs_ (fun e_ => (hk_.1.1.1.2.2.2.1) e_) (fun e_ => (hk_.1.1.1.2.2.2.2.1) e_))) (fun k_ hk_ => ⟨hk_.1.1.1.1.1, hk_.1.1.1.1.2.1, hk_.1.1.1.1.2.2.1, hk_.1.1.1.1.2.2.2.1, hk_.1.1.1.1.2.2.2.2.1, hk_.1.1.1.1.2.2.2.2.2, hk_.1.1.1.2, hk_.1.1.2, hk_.1.2⟩)); have n7_ := Aside0.mk (blk_kept (Fix.uK BK288.out) hkp (fun hs_ => Or.elim hs_ (fun e_ => (fun e_ => (Kd.Q_ne HO_326002.out BK288.out (by decide)) e_) e_) (fun e_ => (fun e_ => (Kd.Q_ne HO_326003.out BK288.out (by decide)) e_) e_))); have n8_ := Aside0.mk (blk_kept (Fix.uK BK314.out) hkp (fun hs_ => Or.elim hs_ (fun e_ => (fun e_ => (Kd.Q_ne HO_326002.out BK314.out (by decide)) e_) e_) (fun e_ => (fun e_ => (Kd.Q_ne HO_326003.out BK314.out (by decide)) e_) e_))); have n9_ := Aside0.mk (blk_kept (Fix.uK BK325.out) hkp (fun hs_ => Or.elim hs_ (fun e_ => (fun e_ => (Kd.Q_ne HO_326002.out BK325.out (by decide)) e_) e_) (fun e_ => (fun e_ => (Kd.Q_ne HO_326003.out BK325.out (by decide)) e_) e_))); have n10_ := Aside0.mk (blk_kept (Fix.uK BK340.out) hkp (fun hs_ => Or.elim hs_ (fun e_ => (fun e_ => (Kd.Q_ne HO_326002.out BK340.out (by decide)) e_) e_) (fun e_ => (fun e_ => (Kd.Q_ne HO_326003.out BK340.out (by decide)) e_) e_))); have n11_ := Aside0.mk (Kd.R_mono (ok' := fun k_ => some k_ ≠ (.slice Ao43 t326.length co43 : Value).ownBlock ∧ some k_ ≠ (.slice Ao30 t305.length co30 : Value).ownBlock ∧ some k_ ≠ (.slice Ao31 t308.length co31 : Value).ownBlock ∧ some k_ ≠ (.slice Ao39 t317.length co39 : Value).ownBlock ∧ some k_ ≠ (.slice Ao40 t320.length co40 : Value).ownBlock ∧ some k_ ≠ (.slice Ao50 t331.length co50 : Value).ownBlock ∧ some k_ ≠ (.slice Ao51 t334.length co51 : Value).ownBlock ∧ some k_ ≠ (.slice Ao84 t347.length co84 : Value).ownBlock ∧ some k_ ≠ (.slice Ao87 t353.length co87 : Value).ownBlock) (Kd.R_keptB (HO346.out) hkp (fun k_ hk_ hs_ => Or.elim hs_ (fun e_ => (hk_.1.1.1.1.2) e_) (fun e_ => (hk_.1.1.1.2) e_))) (fun k_ hk_ => ⟨hk_.1.1.1.1.1.1.1.1.2, hk_.1.1.1.1.1.1.1.2, hk_.1.1.1.1.1.1.2, hk_.1.1.1.1.1.2, hk_.1.1.1.1.2, hk_.1.1.1.2, hk_.1.1.2, hk_.1.1.1.1.1.1.1.1.1, hk_.1.2⟩)); have n12_ := Aside0.mk (Kd.R_mono (ok' := fun k_ => some k_ ≠ (.slice Ao43 t326.length co43 : Value).ownBlock ∧ some k_ ≠ (.slice Ao30 t305.length co30 : Value).ownBlock ∧ some k_ ≠ (.slice Ao31 t308.length co31 : Value).ownBlock ∧ some k_ ≠ (.slice Ao39 t317.length co39 : Value).ownBlock ∧ some k_ ≠ (.slice Ao40 t320.length co40 : Value).ownBlock ∧ some k_ ≠ (.slice Ao50 t331.length co50 : Value).ownBlock ∧ some k_ ≠ (.slice Ao51 t334.length co51 : Value).ownBlock ∧ some k_ ≠ (.slice Ao83 t344.length co83 : Value).ownBlock ∧ some k_ ≠ (.slice Ao87 t353.length co87 : Value).ownBlock) (Kd.R_keptB (HO349.out) hkp (fun k_ hk_ hs_ => Or.elim hs_ (fun e_ => (hk_.1.1.1.1.2) e_) (fun e_ => (hk_.1.1.1.2) e_))) (fun k_ hk_ => ⟨hk_.1.1.1.1.1.1.1.1.2, hk_.1.1.1.1.1.1.1.2, hk_.1.1.1.1.1.1.2, hk_.1.1.1.1.1.2, hk_.1.1.1.1.2, hk_.1.1.1.2, hk_.1.1.2, hk_.1.1.1.1.1.1.1.1.1, hk_.1.2⟩)); have n13_ := Aside0.mk (Kd.R_mono (ok' := fun k_ => some k_ ≠ (.slice Ao43 t326.length co43 : Value).ownBlock ∧ some k_ ≠ (.slice Ao30 t305.length co30 : Value).ownBlock ∧ some k_ ≠ (.slice Ao31 t308.length co31 : Value).ownBlock ∧ some k_ ≠ (.slice Ao39 t317.length co39 : Value).ownBlock ∧ some k_ ≠ (.slice Ao40 t320.length co40 : Value).ownBlock ∧ some k_ ≠ (.slice Ao50 t331.length co50 : Value).ownBlock ∧ some k_ ≠ (.slice Ao51 t334.length co51 : Value).ownBlock ∧ some k_ ≠ (.slice Ao83 t344.length co83 : Value).ownBlock ∧ some k_ ≠ (.slice Ao84 t347.length co84 : Value).ownBlock) (Kd.R_keptB (HO355.out) hkp (fun k_ hk_ hs_ => Or.elim hs_ (fun e_ => (hk_.1.1.1.1.1.2) e_) (fun e_ => (hk_.1.1.1.1.2) e_))) (fun k_ hk_ => ⟨hk_.1.1.1.1.1.1.1.1.1.2, hk_.1.1.1.1.1.1.1.1.2, hk_.1.1.1.1.1.1.1.2, hk_.1.1.1.1.1.1.2, hk_.1.1.1.1.1.2, hk_.1.1.1.1.2, hk_.1.1.1.2, hk_.1.1.2, hk_.1.2⟩)); have n14_ := Aside0.mk (hb); clear HO_9; clear HO_315002; clear HO_315003; clear HO_326002; clear HO_326003; clear HO_341002; clear HO_341003; clear BK288; clear BK314; clear BK325; clear BK340; clear HO346; clear HO349; clear HO355; clear HB; have HO_9 := n0_; have HO_315002 := n1_; have HO_315003 := n2_; have HO_326002 := n3_; have HO_326003 := n4_; have HO_341002 := n5_; have HO_341003 := n6_; have BK288 := n7_; have BK314 := n8_; have BK325 := n9_; have BK340 := n10_; have HO346 := n11_; have HO349 := n12_; have HO355 := n13_; have HB := n14_; clear n0_ n1_ n2_ n3_ n4_ n5_ n6_ n7_ n8_ n9_ n10_ n11_ n12_ n13_ n14_; (try clear hb); (try clear hkp); (try clear hy0); (try clear hy1)) | ((with_reducible refine gate_callee (f := 32) rfl ?_); refine goesL_ (some 67) rfl rfl Try.func32 (by kernel_rfl) rfl #[.slice Ao43 t326.length co43, .int .i64 t357] rfl Fix.uA ?_; (with_reducible refine (laws_markIntS.calls kj15 (fun k_ => some k_ = (.slice Ao43 t326.length co43 : Value).ownBlock) (.slice Ao43 t326.length co43) t326 t357 t360 t361 w _ ?side1 ?side2 A79.out).mono ?_); (case side1 => repeat (first | (with_reducible first | exact HB.out | apply Fix.bA | apply Fix.bN | apply Fix.b1 | refine below_set ?_ GE288.out | refine below_set ?_ GE314.out | refine below_set ?_ GE325.out | refine below_set ?_ GE340.out) | exact HB.out)); (case side2 => exact Kd.Q_of_R (Kd.R_tight rfl HO_9.out)); rintro e w93 ⟨rfl, hy0, hb, hkp⟩; refine ⟨_, rfl, ?_⟩; have n0_ := Aside0.mk (Ext.Q_reok rfl hy0 (fun k_ e_ => HO_9.out.1 k_ e_)); have n1_ := Aside0.mk (Kd.Q_mono (ok' := fun k_ => some k_ ≠ (.slice Ao43 t326.length co43 : Value).ownBlock ∧ some k_ ≠ (.slice Ao31 t308.length co31 : Value).ownBlock ∧ some k_ ≠ (.slice Ao39 t317.length co39 : Value).ownBlock ∧ some k_ ≠ (.slice Ao40 t320.length co40 : Value).ownBlock ∧ some k_ ≠ (.slice Ao50 t331.length co50 : Value).ownBlock ∧ some k_ ≠ (.slice Ao51 t334.length co51 : Value).ownBlock ∧ some k_ ≠ (.slice Ao83 t344.length co83 : Value).ownBlock ∧ some k_ ≠ (.slice Ao84 t347.length co84 : Value).ownBlock ∧ some k_ ≠ (.slice Ao87 t353.length co87 : Value).ownBlock) (Kd.Q_keptB (HO_315002.out) hkp (fun k_ hk_ hs_ => (hk_.1) hs_)) (fun k_ hk_ => ⟨hk_.1.1, hk_.1.2.1, hk_.1.2.2.1, hk_.1.2.2.2.1, hk_.1.2.2.2.2.1, hk_.1.2.2.2.2.2.1, hk_.1.2.2.2.2.2.2.1, hk_.1.2.2.2.2.2.2.2.1, hk_.1.2.2.2.2.2.2.2.2⟩)); have n2_ := Aside0.mk (Kd.R_mono (ok' := fun k_ => some k_ ≠ (.slice Ao43 t326.length co43 : Value).ownBlock ∧ some k_ ≠ (.slice Ao30 t305.length co30 : Value).ownBlock ∧ some k_ ≠ (.slice Ao39 t317.length co39 : Value).ownBlock ∧ some k_ ≠ (.slice Ao40 t320.length co40 : Value).ownBlock ∧ some k_ ≠ (.slice Ao50 t331.length co50 : Value).ownBlock ∧ some k_ ≠ (.slice Ao51 t334.length co51 : Value).ownBlock ∧ some k_ ≠ (.slice Ao83 t344.length co83 : Value).ownBlock ∧ some k_ ≠ (.slice Ao84 t347.length co84 : Value).ownBlock ∧ some k_ ≠ (.slice Ao87 t353.length co87 : Value).ownBlock) (Kd.R_keptB (HO_315003.out) hkp (fun k_ hk_ hs_ => (hk_.1) hs_)) (fun k_ hk_ => ⟨hk_.1.1, hk_.1.2.1, hk_.1.2.2.1, hk_.1.2.2.2.1, hk_.1.2.2.2.2.1, hk_.1.2.2.2.2.2.1, hk_.1.2.2.2.2.2.2.1, hk_.1.2.2.2.2.2.2.2.1, hk_.1.2.2.2.2.2.2.2.2⟩)); have n3_ := Aside0.mk (Kd.Q_mono (ok' := fun k_ => some k_ ≠ (.slice Ao43 t326.length co43 : Value).ownBlock ∧ some k_ ≠ (.slice Ao30 t305.length co30 : Value).ownBlock ∧ some k_ ≠ (.slice Ao31 t308.length co31 : Value).ownBlock ∧ some k_ ≠ (.slice Ao40 t320.length co40 : Value).ownBlock ∧ some k_ ≠ (.slice Ao50 t331.length co50 : Value).ownBlock ∧ some k_ ≠ (.slice Ao51 t334.length co51 : Value).ownBlock ∧ some k_ ≠ (.slice Ao83 t344.length co83 : Value).ownBlock ∧ some k_ ≠ (.slice Ao84 t347.length co84 : Value).ownBlock ∧ some k_ ≠ (.slice Ao87 t353.length co87 : Value).ownBlock) (Kd.Q_keptB (HO_326002.out) hkp (fun k_ hk_ hs_ => (hk_.1.1.1.1) hs_)) (fun k_ hk_ => ⟨hk_.1.1.1.1.1, hk_.1.1.1.1.2.1, hk_.1.1.1.1.2.2.1, hk_.1.1.1.1.2.2.2.1, hk_.1.1.1.1.2.2.2.2.1, hk_.1.1.1.1.2.2.2.2.2, hk_.1.1.1.2, hk_.1.1.2, hk_.1.2⟩)); have n4_ := Aside0.mk (Kd.Q_mono (ok' := fun k_ => some k_ ≠ (.slice Ao43 t326.length co43 : Value).ownBlock ∧ some k_ ≠ (.slice Ao30 t305.length co30 : Value).ownBlock ∧ some k_ ≠ (.slice Ao31 t308.length co31 : Value).ownBlock ∧ some k_ ≠ (.slice Ao39 t317.length co39 : Value).ownBlock ∧ some k_ ≠ (.slice Ao50 t331.length co50 : Value).ownBlock ∧ some k_ ≠ (.slice Ao51 t334.length co51 : Value).ownBlock ∧ some k_ ≠ (.slice Ao83 t344.length co83 : Value).ownBlock ∧ some k_ ≠ (.slice Ao84 t347.length co84 : Value).ownBlock ∧ some k_ ≠ (.slice Ao87 t353.length co87 : Value).ownBlock) (Kd.Q_keptB (HO_326003.out) hkp (fun k_ hk_ hs_ => (hk_.1.1.1.1) hs_)) (fun k_ hk_ => ⟨hk_.1.1.1.1.1, hk_.1.1.1.1.2.1, hk_.1.1.1.1.2.2.1, hk_.1.1.1.1.2.2.2.1, hk_.1.1.1.1.2.2.2.2.1, hk_.1.1.1.1.2.2.2.2.2, hk_.1.1.1.2, hk_.1.1.2, hk_.1.2⟩)); have n5_ := Aside0.mk (Kd.Q_mono (ok' := fun k_ => some k_ ≠ (.slice Ao43 t326.length co43 : Value).ownBlock ∧ some k_ ≠ (.slice Ao30 t305.length co30 : Value).ownBlock ∧ some k_ ≠ (.slice Ao31 t308.length co31 : Value).ownBlock ∧ some k_ ≠ (.slice Ao39 t317.length co39 : Value).ownBlock ∧ some k_ ≠ (.slice Ao40 t320.length co40 : Value).ownBlock ∧ some k_ ≠ (.slice Ao51 t334.length co51 : Value).ownBlock ∧ some k_ ≠ (.slice Ao83 t344.length co83 : Value).ownBlock ∧ some k_ ≠ (.slice Ao84 t347.length co84 : Value).ownBlock ∧ some k_ ≠ (.slice Ao87 t353.length co87 : Value).ownBlock) (Kd.Q_keptB (HO_341002.out) hkp (fun k_ hk_ hs_ => (hk_.1) hs_)) (fun k_ hk_ => ⟨hk_.1.1, hk_.1.2.1, hk_.1.2.2.1, hk_.1.2.2.2.1, hk_.1.2.2.2.2.1, hk_.1.2.2.2.2.2.1, hk_.1.2.2.2.2.2.2.1, hk_.1.2.2.2.2.2.2.2.1, hk_.1.2.2.2.2.2.2.2.2⟩)); have n6_ := Aside0.mk (Kd.Q_mono (ok' := fun k_ => some k_ ≠ (.slice Ao43 t326.length co43 : Value).ownBlock ∧ some k_ ≠ (.slice Ao30 t305.length co30 : Value).ownBlock ∧ some k_ ≠ (.slice Ao31 t308.length co31 : Value).ownBlock ∧ some k_ ≠ (.slice Ao39 t317.length co39 : Value).ownBlock ∧ some k_ ≠ (.slice Ao40 t320.length co40 : Value).ownBlock ∧ some k_ ≠ (.slice Ao50 t331.length co50 : Value).ownBlock ∧ some k_ ≠ (.slice Ao83 t344.length co83 : Value).ownBlock ∧ some k_ ≠ (.slice Ao84 t347.length co84 : Value).ownBlock ∧ some k_ ≠ (.slice Ao87 t353.length co87 : Value).ownBlock) (Kd.Q_keptB (HO_341003.out) hkp (fun k_ hk_ hs_ => (hk_.1) hs_)) (fun k_ hk_ => ⟨hk_.1.1, hk_.1.2.1, hk_.1.2.2.1, hk_.1.2.2.2.1, hk_.1.2.2.2.2.1, hk_.1.2.2.2.2.2.1, hk_.1.2.2.2.2.2.2.1, hk_.1.2.2.2.2.2.2.2.1, hk_.1.2.2.2.2.2.2.2.2⟩)); have n7_ := Aside0.mk (blk_kept (Fix.uK BK288.out) hkp (fun hs_ => (fun e_ => (Kd.R_ne HO_9.out BK288.out (by decide)) e_) hs_)); have n8_ := Aside0.mk (blk_kept (Fix.uK BK314.out) hkp (fun hs_ => (fun e_ => (Kd.R_ne HO_9.out BK314.out (by decide)) e_) hs_)); have n9_ := Aside0.mk (blk_kept (Fix.uK BK325.out) hkp (fun hs_ => (fun e_ => (Kd.R_ne HO_9.out BK325.out (by decide)) e_) hs_)); have n10_ := Aside0.mk (blk_kept (Fix.uK BK340.out) hkp (fun hs_ => (fun e_ => (Kd.R_ne HO_9.out BK340.out (by decide)) e_) hs_)); have n11_ := Aside0.mk (Kd.R_mono (ok' := fun k_ => some k_ ≠ (.slice Ao43 t326.length co43 : Value).ownBlock ∧ some k_ ≠ (.slice Ao30 t305.length co30 : Value).ownBlock ∧ some k_ ≠ (.slice Ao31 t308.length co31 : Value).ownBlock ∧ some k_ ≠ (.slice Ao39 t317.length co39 : Value).ownBlock ∧ some k_ ≠ (.slice Ao40 t320.length co40 : Value).ownBlock ∧ some k_ ≠ (.slice Ao50 t331.length co50 : Value).ownBlock ∧ some k_ ≠ (.slice Ao51 t334.length co51 : Value).ownBlock ∧ some k_ ≠ (.slice Ao84 t347.length co84 : Value).ownBlock ∧ some k_ ≠ (.slice Ao87 t353.length co87 : Value).ownBlock) (Kd.R_keptB (HO346.out) hkp (fun k_ hk_ hs_ => (hk_.1) hs_)) (fun k_ hk_ => ⟨hk_.1.1, hk_.1.2.1, hk_.1.2.2.1, hk_.1.2.2.2.1, hk_.1.2.2.2.2.1, hk_.1.2.2.2.2.2.1, hk_.1.2.2.2.2.2.2.1, hk_.1.2.2.2.2.2.2.2.1, hk_.1.2.2.2.2.2.2.2.2⟩)); have n12_ := Aside0.mk (Kd.R_mono (ok' := fun k_ => some k_ ≠ (.slice Ao43 t326.length co43 : Value).ownBlock ∧ some k_ ≠ (.slice Ao30 t305.length co30 : Value).ownBlock ∧ some k_ ≠ (.slice Ao31 t308.length co31 : Value).ownBlock ∧ some k_ ≠ (.slice Ao39 t317.length co39 : Value).ownBlock ∧ some k_ ≠ (.slice Ao40 t320.length co40 : Value).ownBlock ∧ some k_ ≠ (.slice Ao50 t331.length co50 : Value).ownBlock ∧ some k_ ≠ (.slice Ao51 t334.length co51 : Value).ownBlock ∧ some k_ ≠ (.slice Ao83 t344.length co83 : Value).ownBlock ∧ some k_ ≠ (.slice Ao87 t353.length co87 : Value).ownBlock) (Kd.R_keptB (HO349.out) hkp (fun k_ hk_ hs_ => (hk_.1) hs_)) (fun k_ hk_ => ⟨hk_.1.1, hk_.1.2.1, hk_.1.2.2.1, hk_.1.2.2.2.1, hk_.1.2.2.2.2.1, hk_.1.2.2.2.2.2.1, hk_.1.2.2.2.2.2.2.1, hk_.1.2.2.2.2.2.2.2.1, hk_.1.2.2.2.2.2.2.2.2⟩)); have n13_ := Aside0.mk (Kd.R_mono (ok' := fun k_ => some k_ ≠ (.slice Ao43 t326.length co43 : Value).ownBlock ∧ some k_ ≠ (.slice Ao30 t305.length co30 : Value).ownBlock ∧ some k_ ≠ (.slice Ao31 t308.length co31 : Value).ownBlock ∧ some k_ ≠ (.slice Ao39 t317.length co39 : Value).ownBlock ∧ some k_ ≠ (.slice Ao40 t320.length co40 : Value).ownBlock ∧ some k_ ≠ (.slice Ao50 t331.length co50 : Value).ownBlock ∧ some k_ ≠ (.slice Ao51 t334.length co51 : Value).ownBlock ∧ some k_ ≠ (.slice Ao83 t344.length co83 : Value).ownBlock ∧ some k_ ≠ (.slice Ao84 t347.length co84 : Value).ownBlock) (Kd.R_keptB (HO355.out) hkp (fun k_ hk_ hs_ => (hk_.1) hs_)) (fun k_ hk_ => ⟨hk_.1.1, hk_.1.2.1, hk_.1.2.2.1, hk_.1.2.2.2.1, hk_.1.2.2.2.2.1, hk_.1.2.2.2.2.2.1, hk_.1.2.2.2.2.2.2.1, hk_.1.2.2.2.2.2.2.2.1, hk_.1.2.2.2.2.2.2.2.2⟩)); have n14_ := Aside0.mk (hb); clear HO_9; clear HO_315002; clear HO_315003; clear HO_326002; clear HO_326003; clear HO_341002; clear HO_341003; clear BK288; clear BK314; clear BK325; clear BK340; clear HO346; clear HO349; clear HO355; clear HB; have HO_9 := n0_; have HO_315002 := n1_; have HO_315003 := n2_; have HO_326002 := n3_; have HO_326003 := n4_; have HO_341002 := n5_; have HO_341003 := n6_; have BK288 := n7_; have BK314 := n8_; have BK325 := n9_; have BK340 := n10_; have HO346 := n11_; have HO349 := n12_; have HO355 := n13_; have HB := n14_; clear n0_ n1_ n2_ n3_ n4_ n5_ n6_ n7_ n8_ n9_ n10_ n11_ n12_ n13_ n14_; (try clear hb); (try clear hkp); (try clear hy0)))
                (try simp only [Act.put, List.setIfInBounds_toArray, List.set_cons_zero, List.set_cons_succ])
                go_cut [80] (fun v80 wc => ∃ (kq : Nat) (x80_79 : Bool), v80 = .bool x80_79 ∧ Aside0 (laws_FnExactRunLine.j1 kq l1 t313 x80_79 a0_0 a0_1 l0_2 l0_3 a0_4 a0_5 t303 t304 t305 t308 t311 t312 t329 t330 t331 t334 t337 t338 = some r) ∧ Aside0 (kq ≤ kj15) ∧ Aside0 (Kd.Q (Kd.int .i64) 3 wc w.heap.size (fun k_ => some k_ ≠ Fix.o Ao31 t308.length co31 ∧ some k_ ≠ Fix.o Ao39 t317.length co39 ∧ some k_ ≠ Fix.o Ao40 t320.length co40 ∧ some k_ ≠ Fix.o Ao50 t331.length co50 ∧ some k_ ≠ Fix.o Ao51 t334.length co51) (.slice Ao30 t305.length co30) t305) ∧ Aside0 (Kd.R (Kd.int .i64) 3 wc w.heap.size (fun k_ => some k_ ≠ Fix.o Ao30 t305.length co30 ∧ some k_ ≠ Fix.o Ao39 t317.length co39 ∧ some k_ ≠ Fix.o Ao40 t320.length co40 ∧ some k_ ≠ Fix.o Ao50 t331.length co50 ∧ some k_ ≠ Fix.o Ao51 t334.length co51) (.slice Ao31 t308.length co31) t308) ∧ Aside0 (Kd.Q (Kd.int .i64) 3 wc w.heap.size (fun k_ => some k_ ≠ Fix.o Ao30 t305.length co30 ∧ some k_ ≠ Fix.o Ao31 t308.length co31 ∧ some k_ ≠ Fix.o Ao40 t320.length co40 ∧ some k_ ≠ Fix.o Ao50 t331.length co50 ∧ some k_ ≠ Fix.o Ao51 t334.length co51) (.slice Ao39 t317.length co39) t358) ∧ Aside0 (Kd.Q (Kd.int .i64) 3 wc w.heap.size (fun k_ => some k_ ≠ Fix.o Ao30 t305.length co30 ∧ some k_ ≠ Fix.o Ao31 t308.length co31 ∧ some k_ ≠ Fix.o Ao39 t317.length co39 ∧ some k_ ≠ Fix.o Ao50 t331.length co50 ∧ some k_ ≠ Fix.o Ao51 t334.length co51) (.slice Ao40 t320.length co40) t359) ∧ Aside0 (Kd.Q (Kd.int .i64) 3 wc w.heap.size (fun k_ => some k_ ≠ Fix.o Ao30 t305.length co30 ∧ some k_ ≠ Fix.o Ao31 t308.length co31 ∧ some k_ ≠ Fix.o Ao39 t317.length co39 ∧ some k_ ≠ Fix.o Ao40 t320.length co40 ∧ some k_ ≠ Fix.o Ao51 t334.length co51) (.slice Ao50 t331.length co50) t331) ∧ Aside0 (Kd.Q (Kd.int .i64) 3 wc w.heap.size (fun k_ => some k_ ≠ Fix.o Ao30 t305.length co30 ∧ some k_ ≠ Fix.o Ao31 t308.length co31 ∧ some k_ ≠ Fix.o Ao39 t317.length co39 ∧ some k_ ≠ Fix.o Ao40 t320.length co40 ∧ some k_ ≠ Fix.o Ao50 t331.length co50) (.slice Ao51 t334.length co51) t334) ∧ Aside0 (wc.heap[gb288]? = some (.cells #[.int .i64 a0_0, .int .i64 a0_1, (.slice A0_2 l0_2.length c0_2), (.slice A0_3 l0_3.length c0_3), .int .i64 a0_4, .bool a0_5] 38 (0, 0))) ∧ Aside0 (wc.heap[gb314]? = some (.cells #[.int .i64 t303, .int .i64 t304, (.slice Ao30 t305.length co30), (.slice Ao31 t308.length co31), .int .i64 t311, .bool t312] 28 (0, 0))) ∧ Aside0 (wc.heap[gb325]? = some (.cells #[.int .i64 t315, .int .i64 t316, (.slice Ao39 t317.length co39), (.slice Ao40 t320.length co40), .int .i64 t323, .bool t324] 28 (0, 0))) ∧ Aside0 (wc.heap[gb340]? = some (.cells #[.int .i64 t329, .int .i64 t330, (.slice Ao50 t331.length co50), (.slice Ao51 t334.length co51), .int .i64 t337, .bool t338] 28 (0, 0))) ∧ Aside0 (Below w.heap.size w wc))
                case first =>
                  have H := HC80.out
                  clear HC80
                  by_cases c94 : t360 < 0
                  · rw [if_pos c94] at H
                    have c94b0 : decide (t360 < 0) = true := decide_eq_true c94
                    clear c94
                    (first | rw [c94b0] | (simp only [i64_w, i32_w]; rw [c94b0]) | skip)
                    have H' := Aside0.mk H
                    clear H
                    go_wp2
                    go_meet
                    case rel => exact ⟨_, (true), (by first | rfl | (simp; done) | (simp [*]; done)), H', ⟨by have := HJ15.out; first | omega | exact Nat.le_refl _⟩, ⟨by (with_reducible repeat (first | apply Kd.Q_alloc | apply Kd.Q_drewN | apply Kd.Q_drew)); exact Kd.Q_mono HO_315002.out (fun _ hk => ⟨hk.2.1, ⟨hk.2.2.1, ⟨hk.2.2.2.1, ⟨hk.2.2.2.2.1, hk.2.2.2.2.2.1⟩⟩⟩⟩)⟩, ⟨by (with_reducible repeat (first | apply Kd.R_alloc | apply Kd.R_drewN | apply Kd.R_drew)); exact Kd.R_mono HO_315003.out (fun _ hk => ⟨hk.2.1, ⟨hk.2.2.1, ⟨hk.2.2.2.1, ⟨hk.2.2.2.2.1, hk.2.2.2.2.2.1⟩⟩⟩⟩)⟩, ⟨by (with_reducible repeat (first | apply Kd.Q_alloc | apply Kd.Q_drewN | apply Kd.Q_drew)); exact Kd.Q_mono HO_326002.out (fun _ hk => ⟨hk.2.1, ⟨hk.2.2.1, ⟨hk.2.2.2.1, ⟨hk.2.2.2.2.1, hk.2.2.2.2.2.1⟩⟩⟩⟩)⟩, ⟨by (with_reducible repeat (first | apply Kd.Q_alloc | apply Kd.Q_drewN | apply Kd.Q_drew)); exact Kd.Q_mono HO_326003.out (fun _ hk => ⟨hk.2.1, ⟨hk.2.2.1, ⟨hk.2.2.2.1, ⟨hk.2.2.2.2.1, hk.2.2.2.2.2.1⟩⟩⟩⟩)⟩, ⟨by (with_reducible repeat (first | apply Kd.Q_alloc | apply Kd.Q_drewN | apply Kd.Q_drew)); exact Kd.Q_mono HO_341002.out (fun _ hk => ⟨hk.2.1, ⟨hk.2.2.1, ⟨hk.2.2.2.1, ⟨hk.2.2.2.2.1, hk.2.2.2.2.2.1⟩⟩⟩⟩)⟩, ⟨by (with_reducible repeat (first | apply Kd.Q_alloc | apply Kd.Q_drewN | apply Kd.Q_drew)); exact Kd.Q_mono HO_341003.out (fun _ hk => ⟨hk.2.1, ⟨hk.2.2.1, ⟨hk.2.2.2.1, ⟨hk.2.2.2.2.1, hk.2.2.2.2.2.1⟩⟩⟩⟩)⟩, ⟨by (with_reducible repeat (first | refine Fix.kN ?_ _ | refine Fix.kD ?_ | refine Fix.kA ?_ _)); exact BK288.out⟩, ⟨by (with_reducible repeat (first | refine Fix.kN ?_ _ | refine Fix.kD ?_ | refine Fix.kA ?_ _)); exact BK314.out⟩, ⟨by (with_reducible repeat (first | refine Fix.kN ?_ _ | refine Fix.kD ?_ | refine Fix.kA ?_ _)); exact BK325.out⟩, ⟨by (with_reducible repeat (first | refine Fix.kN ?_ _ | refine Fix.kD ?_ | refine Fix.kA ?_ _)); exact BK340.out⟩, ⟨Fix.uB⟩⟩
                  · rw [if_neg c94] at H
                    have c94b0 : decide (t360 < 0) = false := decide_eq_false c94
                    clear c94
                    (first | rw [c94b0] | (simp only [i64_w, i32_w]; rw [c94b0]) | skip)
                    replace H := Option.bind_eq_some_iff.mp H
                    obtain ⟨t362, A950, H⟩ := H
                    replace H : (if t362 = true then (laws_FnExactRunLine.j1 kj15 l1 t313 (t339 != t313) a0_0 a0_1 l0_2 l0_3 a0_4 a0_5 t303 t304 t305 t308 t311 t312 t329 t330 t331 t334 t337 t338) else (laws_FnExactRunLine.j1 kj15 l1 t313 true a0_0 a0_1 l0_2 l0_3 a0_4 a0_5 t303 t304 t305 t308 t311 t312 t329 t330 t331 t334 t337 t338)) = some r := H
                    have A95 := Aside0.mk A950
                    clear A950
                    by_cases c96 : t362 = true
                    · subst c96
                      have H1 : (laws_FnExactRunLine.j1 kj15 l1 t313 (t339 != t313) a0_0 a0_1 l0_2 l0_3 a0_4 a0_5 t303 t304 t305 t308 t311 t312 t329 t330 t331 t334 t337 t338) = some r := by rw [if_pos rfl] at H; exact H
                      clear H
                      have H := H1
                      clear H1
                      have H' := Aside0.mk H
                      clear H
                      have hnb97 := NB340_288.out
                      have hnc97 := NB288_340.out
                      have hnb98 := NB340_314.out
                      have hnc98 := NB314_340.out
                      have hnb99 := NB340_325.out
                      have hnc99 := NB325_340.out
                      obtain ⟨hcz100_0, hcz100_1, hcz100_2, hcz100_3, hcz100_4, hcz100_5, hfz100_0, hfz100_1, hfz100_2, hfz100_3, hfz100_4, hfz100_5⟩ := Fix.d6 BK340.out
                      have hnb101 := NB314_288.out
                      have hnc101 := NB288_314.out
                      have hnb102 := NB314_325.out
                      have hnc102 := NB325_314.out
                      obtain ⟨hcz103_0, hcz103_1, hcz103_2, hcz103_3, hcz103_4, hcz103_5, hfz103_0, hfz103_1, hfz103_2, hfz103_3, hfz103_4, hfz103_5⟩ := Fix.d6 BK314.out
                      go_wp2_with (first | (go_at_call 19; (with_reducible refine (laws_eqLine.calls kj15 t329 t330 _ _ t331 _ _ t334 t337 t338 t303 t304 _ _ t305 _ _ t308 t311 t312 true _ ?side1 ?side2 ?side3 ?side4 ?side5 ?side6 ?side7 ?side8 A95.out).mono ?_); (case side1 => exact Fix.uC (Kd.Q_reads' HO_341002.out).2.2); (case side2 => exact (Kd.Q_reads' HO_341002.out).2.1); (case side3 => exact Fix.uC (Kd.Q_reads' HO_341003.out).2.2); (case side4 => exact (Kd.Q_reads' HO_341003.out).2.1); (case side5 => exact Fix.uC (Kd.Q_reads' HO_315002.out).2.2); (case side6 => exact (Kd.Q_reads' HO_315002.out).2.1); (case side7 => exact Fix.uC (Kd.R_reads' HO_315003.out).2.2); (case side8 => exact (Kd.R_reads' HO_315003.out).2.1); rintro e w104 ⟨rfl, hb⟩; have n0_ := Aside0.mk (Kd.Q_below (Fix.uQ HO_9.out) hb); have n1_ := Aside0.mk (Kd.Q_below (Fix.uQ HO_315002.out) hb); have n2_ := Aside0.mk (Kd.R_below (Fix.uR HO_315003.out) hb); have n3_ := Aside0.mk (Kd.Q_below (Fix.uQ HO_326002.out) hb); have n4_ := Aside0.mk (Kd.Q_below (Fix.uQ HO_326003.out) hb); have n5_ := Aside0.mk (Kd.Q_below (Fix.uQ HO_341002.out) hb); have n6_ := Aside0.mk (Kd.Q_below (Fix.uQ HO_341003.out) hb); have n7_ := Aside0.mk (Kd.R_below (Fix.uR HO346.out) hb); have n8_ := Aside0.mk (Kd.R_below (Fix.uR HO349.out) hb); have n9_ := Aside0.mk (Kd.R_below (Fix.uR HO355.out) hb); have n10_ := Aside0.mk (blk_below (g := gb288) (o := .cells #[.int .i64 a0_0, .int .i64 a0_1, .slice A0_2 l0_2.length c0_2, .slice A0_3 l0_3.length c0_3, .int .i64 a0_4, .bool a0_5] 38 (0, 0)) (Fix.uK BK288.out) hb); have n11_ := Aside0.mk (blk_below (g := gb314) (o := .cells #[.int .i64 t303, .int .i64 t304, .slice Ao30 t305.length co30, .slice Ao31 t308.length co31, .int .i64 t311, .bool t312] 28 (0, 0)) (Fix.uK BK314.out) hb); have n12_ := Aside0.mk (blk_below (g := gb325) (o := .cells #[.int .i64 t315, .int .i64 t316, .slice Ao39 t317.length co39, .slice Ao40 t320.length co40, .int .i64 t323, .bool t324] 28 (0, 0)) (Fix.uK BK325.out) hb); have n13_ := Aside0.mk (blk_below (g := gb340) (o := .cells #[.int .i64 t329, .int .i64 t330, .slice Ao50 t331.length co50, .slice Ao51 t334.length co51, .int .i64 t337, .bool t338] 28 (0, 0)) (Fix.uK BK340.out) hb); have n14_ := Aside0.mk (below_step Fix.uB hb); clear HO_9; clear HO_315002; clear HO_315003; clear HO_326002; clear HO_326003; clear HO_341002; clear HO_341003; clear HO346; clear HO349; clear HO355; clear BK288; clear BK314; clear BK325; clear BK340; clear HB; have HO_9 := n0_; have HO_315002 := n1_; have HO_315003 := n2_; have HO_326002 := n3_; have HO_326003 := n4_; have HO_341002 := n5_; have HO_341003 := n6_; have HO346 := n7_; have HO349 := n8_; have HO355 := n9_; have BK288 := n10_; have BK314 := n11_; have BK325 := n12_; have BK340 := n13_; have HB := n14_; clear n0_ n1_ n2_ n3_ n4_ n5_ n6_ n7_ n8_ n9_ n10_ n11_ n12_ n13_ n14_; (try clear hb); (try clear hb2); (try clear hk); (try clear hi)))
                      go_meet
                      case rel => exact ⟨_, ((t339 != t313)), (by first | rfl | (simp; done) | (simp [*]; done)), H', ⟨by have := HJ15.out; first | omega | exact Nat.le_refl _⟩, ⟨by (with_reducible repeat (first | apply Kd.Q_alloc | apply Kd.Q_drewN | apply Kd.Q_drew)); exact Kd.Q_mono HO_315002.out (fun _ hk => ⟨hk.2.1, ⟨hk.2.2.1, ⟨hk.2.2.2.1, ⟨hk.2.2.2.2.1, hk.2.2.2.2.2.1⟩⟩⟩⟩)⟩, ⟨by (with_reducible repeat (first | apply Kd.R_alloc | apply Kd.R_drewN | apply Kd.R_drew)); exact Kd.R_mono HO_315003.out (fun _ hk => ⟨hk.2.1, ⟨hk.2.2.1, ⟨hk.2.2.2.1, ⟨hk.2.2.2.2.1, hk.2.2.2.2.2.1⟩⟩⟩⟩)⟩, ⟨by (with_reducible repeat (first | apply Kd.Q_alloc | apply Kd.Q_drewN | apply Kd.Q_drew)); exact Kd.Q_mono HO_326002.out (fun _ hk => ⟨hk.2.1, ⟨hk.2.2.1, ⟨hk.2.2.2.1, ⟨hk.2.2.2.2.1, hk.2.2.2.2.2.1⟩⟩⟩⟩)⟩, ⟨by (with_reducible repeat (first | apply Kd.Q_alloc | apply Kd.Q_drewN | apply Kd.Q_drew)); exact Kd.Q_mono HO_326003.out (fun _ hk => ⟨hk.2.1, ⟨hk.2.2.1, ⟨hk.2.2.2.1, ⟨hk.2.2.2.2.1, hk.2.2.2.2.2.1⟩⟩⟩⟩)⟩, ⟨by (with_reducible repeat (first | apply Kd.Q_alloc | apply Kd.Q_drewN | apply Kd.Q_drew)); exact Kd.Q_mono HO_341002.out (fun _ hk => ⟨hk.2.1, ⟨hk.2.2.1, ⟨hk.2.2.2.1, ⟨hk.2.2.2.2.1, hk.2.2.2.2.2.1⟩⟩⟩⟩)⟩, ⟨by (with_reducible repeat (first | apply Kd.Q_alloc | apply Kd.Q_drewN | apply Kd.Q_drew)); exact Kd.Q_mono HO_341003.out (fun _ hk => ⟨hk.2.1, ⟨hk.2.2.1, ⟨hk.2.2.2.1, ⟨hk.2.2.2.2.1, hk.2.2.2.2.2.1⟩⟩⟩⟩)⟩, ⟨by (with_reducible repeat (first | refine Fix.kN ?_ _ | refine Fix.kD ?_ | refine Fix.kA ?_ _)); exact BK288.out⟩, ⟨by (with_reducible repeat (first | refine Fix.kN ?_ _ | refine Fix.kD ?_ | refine Fix.kA ?_ _)); exact BK314.out⟩, ⟨by (with_reducible repeat (first | refine Fix.kN ?_ _ | refine Fix.kD ?_ | refine Fix.kA ?_ _)); exact BK325.out⟩, ⟨by (with_reducible repeat (first | refine Fix.kN ?_ _ | refine Fix.kD ?_ | refine Fix.kA ?_ _)); exact BK340.out⟩, ⟨Fix.uB⟩⟩
                    · replace c96 := Bool.eq_false_iff.mpr c96
                      subst c96
                      have H1 : (laws_FnExactRunLine.j1 kj15 l1 t313 true a0_0 a0_1 l0_2 l0_3 a0_4 a0_5 t303 t304 t305 t308 t311 t312 t329 t330 t331 t334 t337 t338) = some r := by rw [if_neg (show ¬ (false = true) by decide)] at H; exact H
                      clear H
                      have H := H1
                      clear H1
                      have H' := Aside0.mk H
                      clear H
                      have hnb105 := NB340_288.out
                      have hnc105 := NB288_340.out
                      have hnb106 := NB340_314.out
                      have hnc106 := NB314_340.out
                      have hnb107 := NB340_325.out
                      have hnc107 := NB325_340.out
                      obtain ⟨hcz108_0, hcz108_1, hcz108_2, hcz108_3, hcz108_4, hcz108_5, hfz108_0, hfz108_1, hfz108_2, hfz108_3, hfz108_4, hfz108_5⟩ := Fix.d6 BK340.out
                      have hnb109 := NB314_288.out
                      have hnc109 := NB288_314.out
                      have hnb110 := NB314_325.out
                      have hnc110 := NB325_314.out
                      obtain ⟨hcz111_0, hcz111_1, hcz111_2, hcz111_3, hcz111_4, hcz111_5, hfz111_0, hfz111_1, hfz111_2, hfz111_3, hfz111_4, hfz111_5⟩ := Fix.d6 BK314.out
                      go_wp2_with (first | (go_at_call 19; (with_reducible refine (laws_eqLine.calls kj15 t329 t330 _ _ t331 _ _ t334 t337 t338 t303 t304 _ _ t305 _ _ t308 t311 t312 false _ ?side1 ?side2 ?side3 ?side4 ?side5 ?side6 ?side7 ?side8 A95.out).mono ?_); (case side1 => exact Fix.uC (Kd.Q_reads' HO_341002.out).2.2); (case side2 => exact (Kd.Q_reads' HO_341002.out).2.1); (case side3 => exact Fix.uC (Kd.Q_reads' HO_341003.out).2.2); (case side4 => exact (Kd.Q_reads' HO_341003.out).2.1); (case side5 => exact Fix.uC (Kd.Q_reads' HO_315002.out).2.2); (case side6 => exact (Kd.Q_reads' HO_315002.out).2.1); (case side7 => exact Fix.uC (Kd.R_reads' HO_315003.out).2.2); (case side8 => exact (Kd.R_reads' HO_315003.out).2.1); rintro e w112 ⟨rfl, hb⟩; have n0_ := Aside0.mk (Kd.Q_below (Fix.uQ HO_9.out) hb); have n1_ := Aside0.mk (Kd.Q_below (Fix.uQ HO_315002.out) hb); have n2_ := Aside0.mk (Kd.R_below (Fix.uR HO_315003.out) hb); have n3_ := Aside0.mk (Kd.Q_below (Fix.uQ HO_326002.out) hb); have n4_ := Aside0.mk (Kd.Q_below (Fix.uQ HO_326003.out) hb); have n5_ := Aside0.mk (Kd.Q_below (Fix.uQ HO_341002.out) hb); have n6_ := Aside0.mk (Kd.Q_below (Fix.uQ HO_341003.out) hb); have n7_ := Aside0.mk (Kd.R_below (Fix.uR HO346.out) hb); have n8_ := Aside0.mk (Kd.R_below (Fix.uR HO349.out) hb); have n9_ := Aside0.mk (Kd.R_below (Fix.uR HO355.out) hb); have n10_ := Aside0.mk (blk_below (g := gb288) (o := .cells #[.int .i64 a0_0, .int .i64 a0_1, .slice A0_2 l0_2.length c0_2, .slice A0_3 l0_3.length c0_3, .int .i64 a0_4, .bool a0_5] 38 (0, 0)) (Fix.uK BK288.out) hb); have n11_ := Aside0.mk (blk_below (g := gb314) (o := .cells #[.int .i64 t303, .int .i64 t304, .slice Ao30 t305.length co30, .slice Ao31 t308.length co31, .int .i64 t311, .bool t312] 28 (0, 0)) (Fix.uK BK314.out) hb); have n12_ := Aside0.mk (blk_below (g := gb325) (o := .cells #[.int .i64 t315, .int .i64 t316, .slice Ao39 t317.length co39, .slice Ao40 t320.length co40, .int .i64 t323, .bool t324] 28 (0, 0)) (Fix.uK BK325.out) hb); have n13_ := Aside0.mk (blk_below (g := gb340) (o := .cells #[.int .i64 t329, .int .i64 t330, .slice Ao50 t331.length co50, .slice Ao51 t334.length co51, .int .i64 t337, .bool t338] 28 (0, 0)) (Fix.uK BK340.out) hb); have n14_ := Aside0.mk (below_step Fix.uB hb); clear HO_9; clear HO_315002; clear HO_315003; clear HO_326002; clear HO_326003; clear HO_341002; clear HO_341003; clear HO346; clear HO349; clear HO355; clear BK288; clear BK314; clear BK325; clear BK340; clear HB; have HO_9 := n0_; have HO_315002 := n1_; have HO_315003 := n2_; have HO_326002 := n3_; have HO_326003 := n4_; have HO_341002 := n5_; have HO_341003 := n6_; have HO346 := n7_; have HO349 := n8_; have HO355 := n9_; have BK288 := n10_; have BK314 := n11_; have BK325 := n12_; have BK340 := n13_; have HB := n14_; clear n0_ n1_ n2_ n3_ n4_ n5_ n6_ n7_ n8_ n9_ n10_ n11_ n12_ n13_ n14_; (try clear hb); (try clear hb2); (try clear hk); (try clear hi)))
                      go_meet
                      case rel => exact ⟨_, (true), (by first | rfl | (simp; done) | (simp [*]; done)), H', ⟨by have := HJ15.out; first | omega | exact Nat.le_refl _⟩, ⟨by (with_reducible repeat (first | apply Kd.Q_alloc | apply Kd.Q_drewN | apply Kd.Q_drew)); exact Kd.Q_mono HO_315002.out (fun _ hk => ⟨hk.2.1, ⟨hk.2.2.1, ⟨hk.2.2.2.1, ⟨hk.2.2.2.2.1, hk.2.2.2.2.2.1⟩⟩⟩⟩)⟩, ⟨by (with_reducible repeat (first | apply Kd.R_alloc | apply Kd.R_drewN | apply Kd.R_drew)); exact Kd.R_mono HO_315003.out (fun _ hk => ⟨hk.2.1, ⟨hk.2.2.1, ⟨hk.2.2.2.1, ⟨hk.2.2.2.2.1, hk.2.2.2.2.2.1⟩⟩⟩⟩)⟩, ⟨by (with_reducible repeat (first | apply Kd.Q_alloc | apply Kd.Q_drewN | apply Kd.Q_drew)); exact Kd.Q_mono HO_326002.out (fun _ hk => ⟨hk.2.1, ⟨hk.2.2.1, ⟨hk.2.2.2.1, ⟨hk.2.2.2.2.1, hk.2.2.2.2.2.1⟩⟩⟩⟩)⟩, ⟨by (with_reducible repeat (first | apply Kd.Q_alloc | apply Kd.Q_drewN | apply Kd.Q_drew)); exact Kd.Q_mono HO_326003.out (fun _ hk => ⟨hk.2.1, ⟨hk.2.2.1, ⟨hk.2.2.2.1, ⟨hk.2.2.2.2.1, hk.2.2.2.2.2.1⟩⟩⟩⟩)⟩, ⟨by (with_reducible repeat (first | apply Kd.Q_alloc | apply Kd.Q_drewN | apply Kd.Q_drew)); exact Kd.Q_mono HO_341002.out (fun _ hk => ⟨hk.2.1, ⟨hk.2.2.1, ⟨hk.2.2.2.1, ⟨hk.2.2.2.2.1, hk.2.2.2.2.2.1⟩⟩⟩⟩)⟩, ⟨by (with_reducible repeat (first | apply Kd.Q_alloc | apply Kd.Q_drewN | apply Kd.Q_drew)); exact Kd.Q_mono HO_341003.out (fun _ hk => ⟨hk.2.1, ⟨hk.2.2.1, ⟨hk.2.2.2.1, ⟨hk.2.2.2.2.1, hk.2.2.2.2.2.1⟩⟩⟩⟩)⟩, ⟨by (with_reducible repeat (first | refine Fix.kN ?_ _ | refine Fix.kD ?_ | refine Fix.kA ?_ _)); exact BK288.out⟩, ⟨by (with_reducible repeat (first | refine Fix.kN ?_ _ | refine Fix.kD ?_ | refine Fix.kA ?_ _)); exact BK314.out⟩, ⟨by (with_reducible repeat (first | refine Fix.kN ?_ _ | refine Fix.kD ?_ | refine Fix.kA ?_ _)); exact BK325.out⟩, ⟨by (with_reducible repeat (first | refine Fix.kN ?_ _ | refine Fix.kD ?_ | refine Fix.kA ?_ _)); exact BK340.out⟩, ⟨Fix.uB⟩⟩
                case rest =>
                  clear HC80
                  try clear c1
                  try clear c2
                  try clear p2
                  try clear c3
                  try clear c3b0
                  try clear c3b1
                  try clear c4
                  try clear c5
                  try clear c6
                  try clear c6b0
                  try clear c7
                  try clear c8
                  try clear c9
                  try clear c10
                  try clear c11
                  try clear c14
                  try clear c19
                  try clear c20
                  try clear c22
                  try clear c24
                  try clear c28
                  try clear c29
                  try clear c30
                  try clear c31
                  try clear c32
                  try clear c36
                  try clear c37
                  try clear c46
                  try clear c47
                  try clear c48
                  try clear c54
                  try clear c55
                  try clear c56
                  try clear c57
                  try clear c59
                  try clear c60
                  try clear c63
                  try clear c64
                  try clear c65
                  try clear c67
                  try clear c68
                  try clear c71
                  try clear c74
                  try clear c77
                  try clear c88
                  try clear c89
                  try clear c90
                  try clear c94
                  try clear c94b0
                  try clear c96
                  try clear c97
                  try clear c98
                  try clear c99
                  try clear c101
                  try clear c102
                  try clear c105
                  try clear c106
                  try clear c107
                  try clear c109
                  try clear c110
                  try clear hcz100_0
                  try clear hcz100_1
                  try clear hcz100_2
                  try clear hcz100_3
                  try clear hcz100_4
                  try clear hcz100_5
                  try clear hcz103_0
                  try clear hcz103_1
                  try clear hcz103_2
                  try clear hcz103_3
                  try clear hcz103_4
                  try clear hcz103_5
                  try clear hcz108_0
                  try clear hcz108_1
                  try clear hcz108_2
                  try clear hcz108_3
                  try clear hcz108_4
                  try clear hcz108_5
                  try clear hcz111_0
                  try clear hcz111_1
                  try clear hcz111_2
                  try clear hcz111_3
                  try clear hcz111_4
                  try clear hcz111_5
                  try clear hcz18_0
                  try clear hcz18_1
                  try clear hcz18_2
                  try clear hcz18_3
                  try clear hcz18_4
                  try clear hcz18_5
                  try clear hcz20_0
                  try clear hcz20_1
                  try clear hcz20_2
                  try clear hcz20_3
                  try clear hcz20_4
                  try clear hcz20_5
                  try clear hcz29_0
                  try clear hcz29_1
                  try clear hcz29_2
                  try clear hcz29_3
                  try clear hcz29_4
                  try clear hcz29_5
                  try clear hcz33_0
                  try clear hcz33_1
                  try clear hcz33_2
                  try clear hcz33_3
                  try clear hcz33_4
                  try clear hcz33_5
                  try clear hcz38_0
                  try clear hcz38_1
                  try clear hcz38_2
                  try clear hcz38_3
                  try clear hcz38_4
                  try clear hcz38_5
                  try clear hcz42_0
                  try clear hcz42_1
                  try clear hcz42_2
                  try clear hcz42_3
                  try clear hcz42_4
                  try clear hcz42_5
                  try clear hcz49_0
                  try clear hcz49_1
                  try clear hcz49_2
                  try clear hcz49_3
                  try clear hcz49_4
                  try clear hcz49_5
                  try clear hcz58_0
                  try clear hcz58_1
                  try clear hcz58_2
                  try clear hcz58_3
                  try clear hcz58_4
                  try clear hcz58_5
                  try clear hcz61_0
                  try clear hcz61_1
                  try clear hcz61_2
                  try clear hcz61_3
                  try clear hcz61_4
                  try clear hcz61_5
                  try clear hcz66_0
                  try clear hcz66_1
                  try clear hcz66_2
                  try clear hcz66_3
                  try clear hcz66_4
                  try clear hcz66_5
                  try clear hcz69_0
                  try clear hcz69_1
                  try clear hcz69_2
                  try clear hcz69_3
                  try clear hcz69_4
                  try clear hcz69_5
                  try clear hcz8_0
                  try clear hcz8_1
                  try clear hcz8_2
                  try clear hcz8_3
                  try clear hcz8_4
                  try clear hcz8_5
                  try clear hcz91_0
                  try clear hcz91_1
                  try clear hcz91_2
                  try clear hcz91_3
                  try clear hcz91_4
                  try clear hcz91_5
                  try clear hfz100_0
                  try clear hfz100_1
                  try clear hfz100_2
                  try clear hfz100_3
                  try clear hfz100_4
                  try clear hfz100_5
                  try clear hfz103_0
                  try clear hfz103_1
                  try clear hfz103_2
                  try clear hfz103_3
                  try clear hfz103_4
                  try clear hfz103_5
                  try clear hfz108_0
                  try clear hfz108_1
                  try clear hfz108_2
                  try clear hfz108_3
                  try clear hfz108_4
                  try clear hfz108_5
                  try clear hfz111_0
                  try clear hfz111_1
                  try clear hfz111_2
                  try clear hfz111_3
                  try clear hfz111_4
                  try clear hfz111_5
                  try clear hfz18_0
                  try clear hfz18_1
                  try clear hfz18_2
                  try clear hfz18_3
                  try clear hfz18_4
                  try clear hfz18_5
                  try clear hfz20_0
                  try clear hfz20_1
                  try clear hfz20_2
                  try clear hfz20_3
                  try clear hfz20_4
                  try clear hfz20_5
                  try clear hfz29_0
                  try clear hfz29_1
                  try clear hfz29_2
                  try clear hfz29_3
                  try clear hfz29_4
                  try clear hfz29_5
                  try clear hfz33_0
                  try clear hfz33_1
                  try clear hfz33_2
                  try clear hfz33_3
                  try clear hfz33_4
                  try clear hfz33_5
                  try clear hfz38_0
                  try clear hfz38_1
                  try clear hfz38_2
                  try clear hfz38_3
                  try clear hfz38_4
                  try clear hfz38_5
                  try clear hfz42_0
                  try clear hfz42_1
                  try clear hfz42_2
                  try clear hfz42_3
                  try clear hfz42_4
                  try clear hfz42_5
                  try clear hfz49_0
                  try clear hfz49_1
                  try clear hfz49_2
                  try clear hfz49_3
                  try clear hfz49_4
                  try clear hfz49_5
                  try clear hfz58_0
                  try clear hfz58_1
                  try clear hfz58_2
                  try clear hfz58_3
                  try clear hfz58_4
                  try clear hfz58_5
                  try clear hfz61_0
                  try clear hfz61_1
                  try clear hfz61_2
                  try clear hfz61_3
                  try clear hfz61_4
                  try clear hfz61_5
                  try clear hfz66_0
                  try clear hfz66_1
                  try clear hfz66_2
                  try clear hfz66_3
                  try clear hfz66_4
                  try clear hfz66_5
                  try clear hfz69_0
                  try clear hfz69_1
                  try clear hfz69_2
                  try clear hfz69_3
                  try clear hfz69_4
                  try clear hfz69_5
                  try clear hfz8_0
                  try clear hfz8_1
                  try clear hfz8_2
                  try clear hfz8_3
                  try clear hfz8_4
                  try clear hfz8_5
                  try clear hfz91_0
                  try clear hfz91_1
                  try clear hfz91_2
                  try clear hfz91_3
                  try clear hfz91_4
                  try clear hfz91_5
                  try clear p2
                  obtain ⟨kq, x80_79, rfl, HA, HJ79, HO_315002, HO_315003, HO_326002, HO_326003, HO_341002, HO_341003, BK288, BK314, BK325, BK340, HB⟩ := hcut
                  have hl326002_79 := (Kd.Q_reads' HO_326002.out).1
                  rw [hl326002_79] at HO_326002
                  (try simp only [hl326002_79])
                  (try simp only [hl326002_79] at BK288)
                  (try simp only [hl326002_79] at BK314)
                  (try simp only [hl326002_79] at BK325)
                  (try simp only [hl326002_79] at BK340)
                  (try simp only [hl326002_79] at HO_315002)
                  (try simp only [hl326002_79] at HO_315003)
                  (try simp only [hl326002_79] at HO_326003)
                  (try simp only [hl326002_79] at HO_341002)
                  (try simp only [hl326002_79] at HO_341003)
                  have hl326003_79 := (Kd.Q_reads' HO_326003.out).1
                  rw [hl326003_79] at HO_326003
                  (try simp only [hl326003_79])
                  (try simp only [hl326003_79] at BK288)
                  (try simp only [hl326003_79] at BK314)
                  (try simp only [hl326003_79] at BK325)
                  (try simp only [hl326003_79] at BK340)
                  (try simp only [hl326003_79] at HO_315002)
                  (try simp only [hl326003_79] at HO_315003)
                  (try simp only [hl326003_79] at HO_326002)
                  (try simp only [hl326003_79] at HO_341002)
                  (try simp only [hl326003_79] at HO_341003)
                  cases kq with
                  | zero => exact absurd HA.out (by simp [laws_FnExactRunLine.j1])
                  | succ kj79 =>
                    have H := HA.out
                    clear HA
                    simp only [laws_FnExactRunLine.j1] at H
                    by_cases c113 : x80_79 = true
                    · subst c113
                      have H1 : (some false) = some r := by rw [if_pos rfl] at H; exact H
                      clear H
                      have H := H1
                      clear H1
                      exact absurd (hT.out ▸ H) (by simp)
                    · replace c113 := Bool.eq_false_iff.mpr c113
                      subst c113
                      have H1 : ((laws_markLine.f kj79 t329 t330 t331 t334 t337 t338 1).bind fun bt363 => ((laws_heldLine.f kj79 t329 t330 bt363.2.1 bt363.2.2 t337 t338 1).bind fun t366 => (if t366 < 0 then (some false) else (if t366 = bt363.1 then ((laws_toLine.f kj79 a0_0 a0_1 l0_2 l0_3 a0_4 a0_5).bind fun bt367 => ((laws_toIntS.f kj79 l1).bind fun t377 => ((impl_RunLine.f kj79 bt367.1 bt367.2.1 bt367.2.2.1 bt367.2.2.2.1 bt367.2.2.2.2.1 bt367.2.2.2.2.2 t377).bind fun bt380 => ((laws_eqLine.f kj79 bt380.1 bt380.2.1 bt380.2.2.1 bt380.2.2.2.1 bt380.2.2.2.2.1 bt380.2.2.2.2.2.1 t303 t304 t305 t308 t311 t312).bind fun t392 => (if t392 = true then (laws_FnExactRunLine.j2 kj79 bt363.1 (bt380.2.2.2.2.2.2 != t313) t329 t330 bt363.2.1 bt363.2.2 t337 t338) else (laws_FnExactRunLine.j2 kj79 bt363.1 true t329 t330 bt363.2.1 bt363.2.2 t337 t338)))))) else (some false))))) = some r := by rw [if_neg (show ¬ (false = true) by decide)] at H; exact H
                      clear H
                      have H := H1
                      clear H1
                      replace H := Option.bind_eq_some_iff.mp H
                      obtain ⟨⟨t363, t364, t365⟩, A1140, H⟩ := H
                      replace H : ((laws_heldLine.f kj79 t329 t330 t364 t365 t337 t338 1).bind fun t366 => (if t366 < 0 then (some false) else (if t366 = t363 then ((laws_toLine.f kj79 a0_0 a0_1 l0_2 l0_3 a0_4 a0_5).bind fun bt367 => ((laws_toIntS.f kj79 l1).bind fun t377 => ((impl_RunLine.f kj79 bt367.1 bt367.2.1 bt367.2.2.1 bt367.2.2.2.1 bt367.2.2.2.2.1 bt367.2.2.2.2.2 t377).bind fun bt380 => ((laws_eqLine.f kj79 bt380.1 bt380.2.1 bt380.2.2.1 bt380.2.2.2.1 bt380.2.2.2.2.1 bt380.2.2.2.2.2.1 t303 t304 t305 t308 t311 t312).bind fun t392 => (if t392 = true then (laws_FnExactRunLine.j2 kj79 t363 (bt380.2.2.2.2.2.2 != t313) t329 t330 t364 t365 t337 t338) else (laws_FnExactRunLine.j2 kj79 t363 true t329 t330 t364 t365 t337 t338)))))) else (some false)))) = some r := H
                      have A114 := Aside0.mk A1140
                      clear A1140
                      replace H := Option.bind_eq_some_iff.mp H
                      obtain ⟨t366, A1150, H⟩ := H
                      replace H : (if t366 < 0 then (some false) else (if t366 = t363 then ((laws_toLine.f kj79 a0_0 a0_1 l0_2 l0_3 a0_4 a0_5).bind fun bt367 => ((laws_toIntS.f kj79 l1).bind fun t377 => ((impl_RunLine.f kj79 bt367.1 bt367.2.1 bt367.2.2.1 bt367.2.2.2.1 bt367.2.2.2.2.1 bt367.2.2.2.2.2 t377).bind fun bt380 => ((laws_eqLine.f kj79 bt380.1 bt380.2.1 bt380.2.2.1 bt380.2.2.2.1 bt380.2.2.2.2.1 bt380.2.2.2.2.2.1 t303 t304 t305 t308 t311 t312).bind fun t392 => (if t392 = true then (laws_FnExactRunLine.j2 kj79 t363 (bt380.2.2.2.2.2.2 != t313) t329 t330 t364 t365 t337 t338) else (laws_FnExactRunLine.j2 kj79 t363 true t329 t330 t364 t365 t337 t338)))))) else (some false))) = some r := H
                      have A115 := Aside0.mk A1150
                      clear A1150
                      by_cases c116 : t366 < 0
                      · rw [if_pos c116] at H
                        have c116b0 : decide (t366 < 0) = true := decide_eq_true c116
                        clear c116
                        exact absurd (hT.out ▸ H) (by simp)
                      · rw [if_neg c116] at H
                        have c116b0 : decide (t366 < 0) = false := decide_eq_false c116
                        clear c116
                        by_cases c117 : t366 = t363
                        · rw [if_pos c117] at H
                          have c117b0 : (t366 == t363) = true := beq_iff_eq.mpr c117
                          have c117b1 : (t366 != t363) = false := bne_eq_false_iff_eq.mpr c117
                          clear c117
                          replace H := Option.bind_eq_some_iff.mp H
                          obtain ⟨⟨t367, t368, t369, t372, t375, t376⟩, A1180, H⟩ := H
                          replace H : ((laws_toIntS.f kj79 l1).bind fun t377 => ((impl_RunLine.f kj79 t367 t368 t369 t372 t375 t376 t377).bind fun bt380 => ((laws_eqLine.f kj79 bt380.1 bt380.2.1 bt380.2.2.1 bt380.2.2.2.1 bt380.2.2.2.2.1 bt380.2.2.2.2.2.1 t303 t304 t305 t308 t311 t312).bind fun t392 => (if t392 = true then (laws_FnExactRunLine.j2 kj79 t363 (bt380.2.2.2.2.2.2 != t313) t329 t330 t364 t365 t337 t338) else (laws_FnExactRunLine.j2 kj79 t363 true t329 t330 t364 t365 t337 t338))))) = some r := H
                          have A118 := Aside0.mk A1180
                          clear A1180
                          replace H := Option.bind_eq_some_iff.mp H
                          obtain ⟨t377, A1190, H⟩ := H
                          replace H : ((impl_RunLine.f kj79 t367 t368 t369 t372 t375 t376 t377).bind fun bt380 => ((laws_eqLine.f kj79 bt380.1 bt380.2.1 bt380.2.2.1 bt380.2.2.2.1 bt380.2.2.2.2.1 bt380.2.2.2.2.2.1 t303 t304 t305 t308 t311 t312).bind fun t392 => (if t392 = true then (laws_FnExactRunLine.j2 kj79 t363 (bt380.2.2.2.2.2.2 != t313) t329 t330 t364 t365 t337 t338) else (laws_FnExactRunLine.j2 kj79 t363 true t329 t330 t364 t365 t337 t338)))) = some r := H
                          have A119 := Aside0.mk A1190
                          clear A1190
                          replace H := Option.bind_eq_some_iff.mp H
                          obtain ⟨⟨t380, t381, t382, t385, t388, t389, t390⟩, A1200, H⟩ := H
                          replace H : ((laws_eqLine.f kj79 t380 t381 t382 t385 t388 t389 t303 t304 t305 t308 t311 t312).bind fun t392 => (if t392 = true then (laws_FnExactRunLine.j2 kj79 t363 (t390 != t313) t329 t330 t364 t365 t337 t338) else (laws_FnExactRunLine.j2 kj79 t363 true t329 t330 t364 t365 t337 t338))) = some r := H
                          have A120 := Aside0.mk A1200
                          clear A1200
                          have HC121 := Aside0.mk H
                          clear H
                          have hnb122 := NB340_288.out
                          have hnc122 := NB288_340.out
                          have hnb123 := NB340_314.out
                          have hnc123 := NB314_340.out
                          have hnb124 := NB340_325.out
                          have hnc124 := NB325_340.out
                          obtain ⟨hcz125_0, hcz125_1, hcz125_2, hcz125_3, hcz125_4, hcz125_5, hfz125_0, hfz125_1, hfz125_2, hfz125_3, hfz125_4, hfz125_5⟩ := Fix.d6 BK340.out
                          go_upto_region 31 with (first | ((with_reducible refine gate_callee (f := 20) rfl ?_); refine goesL_ (some 83) rfl rfl Try.func20 (by kernel_rfl) rfl #[.agg #[.int .i64 t329, .int .i64 t330, .slice Ao50 t331.length co50, .slice Ao51 t334.length co51, .int .i64 t337, .bool t338], .int .i64 1] rfl Fix.uA ?_; (with_reducible refine (laws_markLine.calls kj79 t329 t330 (fun k_ => some k_ = (.slice Ao50 t331.length co50 : Value).ownBlock) (.slice Ao50 t331.length co50) t331 (fun k_ => some k_ = (.slice Ao51 t334.length co51 : Value).ownBlock) (.slice Ao51 t334.length co51) t334 t337 t338 1 t363 t364 t365 w _ ?side1 ?side2 ?side3 ?side4 ?side5 A114.out).mono ?_); (case side1 => repeat (first | (with_reducible first | exact HB.out | apply Fix.bA | apply Fix.bN | apply Fix.b1 | refine below_set ?_ GE288.out | refine below_set ?_ GE314.out | refine below_set ?_ GE325.out | refine below_set ?_ GE340.out) | exact HB.out)); (case side2 => exact Kd.Q_tight rfl HO_341002.out); (case side3 => exact fun k_ e_ => (HO_341002.out.1 k_ e_.symm).2.2.2.2); (case side4 => exact Kd.Q_tight rfl HO_341003.out); (case side5 => exact fun k_ e_ => (HO_341003.out.1 k_ e_.symm).2.2.2.2); rintro e w126 ⟨rfl, hy0, hy1, hb, hkp⟩; refine ⟨_, rfl, ?_⟩; have n0_ := Aside0.mk (Kd.Q_mono (ok' := fun k_ => some k_ ≠ (.slice Ao31 t308.length co31 : Value).ownBlock ∧ some k_ ≠ (.slice Ao39 t358.length co39 : Value).ownBlock ∧ some k_ ≠ (.slice Ao40 t359.length co40 : Value).ownBlock ∧ some k_ ≠ (.slice Ao50 t331.length co50 : Value).ownBlock ∧ some k_ ≠ (.slice Ao51 t334.length co51 : Value).ownBlock) (Kd.Q_keptB (HO_315002.out) hkp (fun k_ hk_ hs_ => Or.elim hs_ (fun e_ => (hk_.2.2.2.1) e_) (fun e_ => (hk_.2.2.2.2) e_))) (fun k_ hk_ => ⟨hk_.1.1, hk_.1.2.1, hk_.1.2.2.1, hk_.1.2.2.2.1, hk_.1.2.2.2.2⟩)); have n1_ := Aside0.mk (Kd.R_mono (ok' := fun k_ => some k_ ≠ (.slice Ao30 t305.length co30 : Value).ownBlock ∧ some k_ ≠ (.slice Ao39 t358.length co39 : Value).ownBlock ∧ some k_ ≠ (.slice Ao40 t359.length co40 : Value).ownBlock ∧ some k_ ≠ (.slice Ao50 t331.length co50 : Value).ownBlock ∧ some k_ ≠ (.slice Ao51 t334.length co51 : Value).ownBlock) (Kd.R_keptB (HO_315003.out) hkp (fun k_ hk_ hs_ => Or.elim hs_ (fun e_ => (hk_.2.2.2.1) e_) (fun e_ => (hk_.2.2.2.2) e_))) (fun k_ hk_ => ⟨hk_.1.1, hk_.1.2.1, hk_.1.2.2.1, hk_.1.2.2.2.1, hk_.1.2.2.2.2⟩)); have n2_ := Aside0.mk (Kd.Q_mono (ok' := fun k_ => some k_ ≠ (.slice Ao30 t305.length co30 : Value).ownBlock ∧ some k_ ≠ (.slice Ao31 t308.length co31 : Value).ownBlock ∧ some k_ ≠ (.slice Ao40 t359.length co40 : Value).ownBlock ∧ some k_ ≠ (.slice Ao50 t331.length co50 : Value).ownBlock ∧ some k_ ≠ (.slice Ao51 t334.length co51 : Value).ownBlock) (Kd.Q_keptB (HO_326002.out) hkp (fun k_ hk_ hs_ => Or.elim hs_ (fun e_ => (hk_.2.2.2.1) e_) (fun e_ => (hk_.2.2.2.2) e_))) (fun k_ hk_ => ⟨hk_.1.1, hk_.1.2.1, hk_.1.2.2.1, hk_.1.2.2.2.1, hk_.1.2.2.2.2⟩)); have n3_ := Aside0.mk (Kd.Q_mono (ok' := fun k_ => some k_ ≠ (.slice Ao30 t305.length co30 : Value).ownBlock ∧ some k_ ≠ (.slice Ao31 t308.length co31 : Value).ownBlock ∧ some k_ ≠ (.slice Ao39 t358.length co39 : Value).ownBlock ∧ some k_ ≠ (.slice Ao50 t331.length co50 : Value).ownBlock ∧ some k_ ≠ (.slice Ao51 t334.length co51 : Value).ownBlock) (Kd.Q_keptB (HO_326003.out) hkp (fun k_ hk_ hs_ => Or.elim hs_ (fun e_ => (hk_.2.2.2.1) e_) (fun e_ => (hk_.2.2.2.2) e_))) (fun k_ hk_ => ⟨hk_.1.1, hk_.1.2.1, hk_.1.2.2.1, hk_.1.2.2.2.1, hk_.1.2.2.2.2⟩)); have n4_ := Aside0.mk (Ext.Q_reok rfl hy0 (fun k_ e_ => HO_341002.out.1 k_ e_)); have n5_ := Aside0.mk (Ext.Q_reok rfl hy1 (fun k_ e_ => HO_341003.out.1 k_ e_)); have n6_ := Aside0.mk (blk_kept (Fix.uK BK288.out) hkp (fun hs_ => Or.elim hs_ (fun e_ => (fun e_ => (Kd.Q_ne HO_341002.out BK288.out (by decide)) e_) e_) (fun e_ => (fun e_ => (Kd.Q_ne HO_341003.out BK288.out (by decide)) e_) e_))); have n7_ := Aside0.mk (blk_kept (Fix.uK BK314.out) hkp (fun hs_ => Or.elim hs_ (fun e_ => (fun e_ => (Kd.Q_ne HO_341002.out BK314.out (by decide)) e_) e_) (fun e_ => (fun e_ => (Kd.Q_ne HO_341003.out BK314.out (by decide)) e_) e_))); have n8_ := Aside0.mk (blk_kept (Fix.uK BK325.out) hkp (fun hs_ => Or.elim hs_ (fun e_ => (fun e_ => (Kd.Q_ne HO_341002.out BK325.out (by decide)) e_) e_) (fun e_ => (fun e_ => (Kd.Q_ne HO_341003.out BK325.out (by decide)) e_) e_))); have n9_ := Aside0.mk (blk_kept (Fix.uK BK340.out) hkp (fun hs_ => Or.elim hs_ (fun e_ => (fun e_ => (Kd.Q_ne HO_341002.out BK340.out (by decide)) e_) e_) (fun e_ => (fun e_ => (Kd.Q_ne HO_341003.out BK340.out (by decide)) e_) e_))); have n10_ := Aside0.mk (hb); clear HO_315002; clear HO_315003; clear HO_326002; clear HO_326003; clear HO_341002; clear HO_341003; clear BK288; clear BK314; clear BK325; clear BK340; clear HB; have HO_315002 := n0_; have HO_315003 := n1_; have HO_326002 := n2_; have HO_326003 := n3_; have HO_341002 := n4_; have HO_341003 := n5_; have BK288 := n6_; have BK314 := n7_; have BK325 := n8_; have BK340 := n9_; have HB := n10_; clear n0_ n1_ n2_ n3_ n4_ n5_ n6_ n7_ n8_ n9_ n10_; (try clear hb); (try clear hkp); (try clear hy0); (try clear hy1); obtain ⟨hcz127_0, hcz127_1, hcz127_2, hcz127_3, hcz127_4, hcz127_5, hfz127_0, hfz127_1, hfz127_2, hfz127_3, hfz127_4, hfz127_5⟩ := Fix.d6 BK340.out) | ((with_reducible refine gate_callee (f := 21) rfl ?_); refine goesL_ (some 86) rfl rfl Try.func21 (by kernel_rfl) rfl #[.agg #[.int .i64 t329, .int .i64 t330, .slice Ao50 t364.length co50, .slice Ao51 t365.length co51, .int .i64 t337, .bool t338], .int .i64 1] rfl (by (try simp only [List.map_toArray, List.map_cons, List.map_nil]); first | done | (rw [show t364.length = t331.length from (Kd.Q_reads' HO_341002.out).1.symm, show t365.length = t334.length from (Kd.Q_reads' HO_341003.out).1.symm] <;> rfl) | rfl | (simp only [List.length_drop, List.length_take]; rfl)) ?_; (with_reducible refine (laws_heldLine.calls kj79 t329 t330 _ _ t364 _ _ t365 t337 t338 1 t366 _ ?side1 ?side2 ?side3 ?side4 A115.out).mono ?_); (case side1 => exact Fix.uC (Kd.Q_reads' HO_341002.out).2.2); (case side2 => rw [show t364.length = t331.length from (Kd.Q_reads' HO_341002.out).1.symm]; exact (Kd.Q_reads' HO_341002.out).2.1); (case side3 => exact Fix.uC (Kd.Q_reads' HO_341003.out).2.2); (case side4 => rw [show t365.length = t334.length from (Kd.Q_reads' HO_341003.out).1.symm]; exact (Kd.Q_reads' HO_341003.out).2.1); rintro e w128 ⟨rfl, hb⟩; refine ⟨_, rfl, ?_⟩; have n0_ := Aside0.mk (Kd.Q_below (Fix.uQ HO_315002.out) hb); have n1_ := Aside0.mk (Kd.R_below (Fix.uR HO_315003.out) hb); have n2_ := Aside0.mk (Kd.Q_below (Fix.uQ HO_326002.out) hb); have n3_ := Aside0.mk (Kd.Q_below (Fix.uQ HO_326003.out) hb); have n4_ := Aside0.mk (Kd.Q_below (Fix.uQ HO_341002.out) hb); have n5_ := Aside0.mk (Kd.Q_below (Fix.uQ HO_341003.out) hb); have n6_ := Aside0.mk (blk_below (g := gb288) (o := .cells #[.int .i64 a0_0, .int .i64 a0_1, .slice A0_2 l0_2.length c0_2, .slice A0_3 l0_3.length c0_3, .int .i64 a0_4, .bool a0_5] 38 (0, 0)) (Fix.uK BK288.out) hb); have n7_ := Aside0.mk (blk_below (g := gb314) (o := .cells #[.int .i64 t303, .int .i64 t304, .slice Ao30 t305.length co30, .slice Ao31 t308.length co31, .int .i64 t311, .bool t312] 28 (0, 0)) (Fix.uK BK314.out) hb); have n8_ := Aside0.mk (blk_below (g := gb325) (o := .cells #[.int .i64 t315, .int .i64 t316, .slice Ao39 t358.length co39, .slice Ao40 t359.length co40, .int .i64 t323, .bool t324] 28 (0, 0)) (Fix.uK BK325.out) hb); have n9_ := Aside0.mk (blk_below (g := gb340) (o := .cells #[.int .i64 t329, .int .i64 t330, .slice Ao50 t331.length co50, .slice Ao51 t334.length co51, .int .i64 t337, .bool t338] 28 (0, 0)) (Fix.uK BK340.out) hb); have n10_ := Aside0.mk (below_step Fix.uB hb); clear HO_315002; clear HO_315003; clear HO_326002; clear HO_326003; clear HO_341002; clear HO_341003; clear BK288; clear BK314; clear BK325; clear BK340; clear HB; have HO_315002 := n0_; have HO_315003 := n1_; have HO_326002 := n2_; have HO_326003 := n3_; have HO_341002 := n4_; have HO_341003 := n5_; have BK288 := n6_; have BK314 := n7_; have BK325 := n8_; have BK340 := n9_; have HB := n10_; clear n0_ n1_ n2_ n3_ n4_ n5_ n6_ n7_ n8_ n9_ n10_; (try clear hb); (try clear hb2); (try clear hk); (try clear hi); have hnb129 := NB288_314.out; have hnc129 := NB314_288.out; have hnb130 := NB288_325.out; have hnc130 := NB325_288.out; obtain ⟨hcz131_0, hcz131_1, hcz131_2, hcz131_3, hcz131_4, hcz131_5, hfz131_0, hfz131_1, hfz131_2, hfz131_3, hfz131_4, hfz131_5⟩ := Fix.d6 BK288.out) | ((with_reducible refine gate_callee (f := 24) rfl ?_); refine goesL_ (some 94) rfl rfl Try.func24 (by kernel_rfl) rfl #[.agg #[.int .i64 a0_0, .int .i64 a0_1, .slice A0_2 l0_2.length c0_2, .slice A0_3 l0_3.length c0_3, .int .i64 a0_4, .bool a0_5]] rfl Fix.uA ?_; (with_reducible refine (laws_toLine.calls kj79 a0_0 a0_1 _ _ l0_2 _ _ l0_3 a0_4 a0_5 t367 t368 t369 t372 t375 t376 _ ?side1 ?side2 ?side3 ?side4 A118.out).mono ?_); (case side1 => exact Fix.uC (Kd.C_below HR0_2.out HB.out)); (case side2 => exact HC0_2.out); (case side3 => exact Fix.uC (Kd.C_below HR0_3.out HB.out)); (case side4 => exact HC0_3.out); rintro e w132 ⟨v370, v373, rfl, ho0, ho1, hb⟩; refine ⟨_, rfl, ?_⟩; have n0_ := Aside0.mk (Kd.Q_mono (Kd.Q_told (Kd.Q_told (Kd.Q_old (Fix.uQ HO_315002.out) hb) (Kd.R_base ho0)) (Kd.R_base ho1)) (fun _ h_ => h_.1)); have n1_ := Aside0.mk (Kd.R_mono (Kd.R_told (Kd.R_told (Kd.R_old (Fix.uR HO_315003.out) hb) (Kd.R_base ho0)) (Kd.R_base ho1)) (fun _ h_ => h_.1)); have n2_ := Aside0.mk (Kd.Q_mono (Kd.Q_told (Kd.Q_told (Kd.Q_old (Fix.uQ HO_326002.out) hb) (Kd.R_base ho0)) (Kd.R_base ho1)) (fun _ h_ => h_.1)); have n3_ := Aside0.mk (Kd.Q_mono (Kd.Q_told (Kd.Q_told (Kd.Q_old (Fix.uQ HO_326003.out) hb) (Kd.R_base ho0)) (Kd.R_base ho1)) (fun _ h_ => h_.1)); have n4_ := Aside0.mk (Kd.Q_mono (Kd.Q_told (Kd.Q_told (Kd.Q_old (Fix.uQ HO_341002.out) hb) (Kd.R_base ho0)) (Kd.R_base ho1)) (fun _ h_ => h_.1)); have n5_ := Aside0.mk (Kd.Q_mono (Kd.Q_told (Kd.Q_told (Kd.Q_old (Fix.uQ HO_341003.out) hb) (Kd.R_base ho0)) (Kd.R_base ho1)) (fun _ h_ => h_.1)); have n6_ := Aside0.mk (Kd.R_lower (Kd.R_new' (Kd.R_new' (Kd.R_new' (Kd.R_new' (Kd.R_new' (Kd.R_new' ho0 (Kd.Q_lt (Fix.uQ HO_315002.out))) (Kd.R_lt (Fix.uR HO_315003.out))) (Kd.Q_lt (Fix.uQ HO_326002.out))) (Kd.Q_lt (Fix.uQ HO_326003.out))) (Kd.Q_lt (Fix.uQ HO_341002.out))) (Kd.Q_lt (Fix.uQ HO_341003.out))) (below_size Fix.uB)); have n7_ := Aside0.mk (Kd.R_lower (Kd.R_new' (Kd.R_new' (Kd.R_new' (Kd.R_new' (Kd.R_new' (Kd.R_new' ho1 (Kd.Q_lt (Fix.uQ HO_315002.out))) (Kd.R_lt (Fix.uR HO_315003.out))) (Kd.Q_lt (Fix.uQ HO_326002.out))) (Kd.Q_lt (Fix.uQ HO_326003.out))) (Kd.Q_lt (Fix.uQ HO_341002.out))) (Kd.Q_lt (Fix.uQ HO_341003.out))) (below_size Fix.uB)); have n8_ := Aside0.mk (blk_below (g := gb288) (o := .cells #[.int .i64 a0_0, .int .i64 a0_1, .slice A0_2 l0_2.length c0_2, .slice A0_3 l0_3.length c0_3, .int .i64 a0_4, .bool a0_5] 38 (0, 0)) (Fix.uK BK288.out) hb); have n9_ := Aside0.mk (blk_below (g := gb314) (o := .cells #[.int .i64 t303, .int .i64 t304, .slice Ao30 t305.length co30, .slice Ao31 t308.length co31, .int .i64 t311, .bool t312] 28 (0, 0)) (Fix.uK BK314.out) hb); have n10_ := Aside0.mk (blk_below (g := gb325) (o := .cells #[.int .i64 t315, .int .i64 t316, .slice Ao39 t358.length co39, .slice Ao40 t359.length co40, .int .i64 t323, .bool t324] 28 (0, 0)) (Fix.uK BK325.out) hb); have n11_ := Aside0.mk (blk_below (g := gb340) (o := .cells #[.int .i64 t329, .int .i64 t330, .slice Ao50 t331.length co50, .slice Ao51 t334.length co51, .int .i64 t337, .bool t338] 28 (0, 0)) (Fix.uK BK340.out) hb); have n12_ := Aside0.mk (below_step Fix.uB hb); clear HO_315002; clear HO_315003; clear HO_326002; clear HO_326003; clear HO_341002; clear HO_341003; clear BK288; clear BK314; clear BK325; clear BK340; clear HB; have HO_315002 := n0_; have HO_315003 := n1_; have HO_326002 := n2_; have HO_326003 := n3_; have HO_341002 := n4_; have HO_341003 := n5_; have HO371 := n6_; have HO374 := n7_; have BK288 := n8_; have BK314 := n9_; have BK325 := n10_; have BK340 := n11_; have HB := n12_; clear n0_ n1_ n2_ n3_ n4_ n5_ n6_ n7_ n8_ n9_ n10_ n11_ n12_; (try clear hb); (try clear hb2); (try clear hk); (try clear hi); (try clear ho0); (try clear ho1)) | ((with_reducible refine gate_callee (f := 30) rfl ?_); refine goesL_ (some 96) rfl rfl Try.func30 (by kernel_rfl) rfl #[.slice A1 l1.length c1] rfl Fix.uA ?_; (with_reducible refine (laws_toIntS.calls kj79 _ _ l1 t377 _ ?side1 ?side2 A119.out).mono ?_); (case side1 => exact Fix.uC (Kd.C_below HR1.out HB.out)); (case side2 => exact HC1.out); rintro e w133 ⟨v378, rfl, ho0, hb⟩; refine ⟨_, rfl, ?_⟩; have n0_ := Aside0.mk (Kd.Q_elder' (Fix.uQ HO_315002.out) (Kd.R_base ho0) hb); have n1_ := Aside0.mk (Kd.R_elder' (Fix.uR HO_315003.out) (Kd.R_base ho0) hb); have n2_ := Aside0.mk (Kd.Q_elder' (Fix.uQ HO_326002.out) (Kd.R_base ho0) hb); have n3_ := Aside0.mk (Kd.Q_elder' (Fix.uQ HO_326003.out) (Kd.R_base ho0) hb); have n4_ := Aside0.mk (Kd.Q_elder' (Fix.uQ HO_341002.out) (Kd.R_base ho0) hb); have n5_ := Aside0.mk (Kd.Q_elder' (Fix.uQ HO_341003.out) (Kd.R_base ho0) hb); have n6_ := Aside0.mk (Kd.R_elder' (Fix.uR HO371.out) (Kd.R_base ho0) hb); have n7_ := Aside0.mk (Kd.R_elder' (Fix.uR HO374.out) (Kd.R_base ho0) hb); have n8_ := Aside0.mk (Kd.R_lower (Kd.R_new' (Kd.R_new' (Kd.R_new' (Kd.R_new' (Kd.R_new' (Kd.R_new' (Kd.R_new' (Kd.R_new' ho0 (Kd.Q_lt (Fix.uQ HO_315002.out))) (Kd.R_lt (Fix.uR HO_315003.out))) (Kd.Q_lt (Fix.uQ HO_326002.out))) (Kd.Q_lt (Fix.uQ HO_326003.out))) (Kd.Q_lt (Fix.uQ HO_341002.out))) (Kd.Q_lt (Fix.uQ HO_341003.out))) (Kd.R_lt (Fix.uR HO371.out))) (Kd.R_lt (Fix.uR HO374.out))) (below_size Fix.uB)); have n9_ := Aside0.mk (blk_below (g := gb288) (o := .cells #[.int .i64 a0_0, .int .i64 a0_1, .slice A0_2 l0_2.length c0_2, .slice A0_3 l0_3.length c0_3, .int .i64 a0_4, .bool a0_5] 38 (0, 0)) (Fix.uK BK288.out) hb); have n10_ := Aside0.mk (blk_below (g := gb314) (o := .cells #[.int .i64 t303, .int .i64 t304, .slice Ao30 t305.length co30, .slice Ao31 t308.length co31, .int .i64 t311, .bool t312] 28 (0, 0)) (Fix.uK BK314.out) hb); have n11_ := Aside0.mk (blk_below (g := gb325) (o := .cells #[.int .i64 t315, .int .i64 t316, .slice Ao39 t358.length co39, .slice Ao40 t359.length co40, .int .i64 t323, .bool t324] 28 (0, 0)) (Fix.uK BK325.out) hb); have n12_ := Aside0.mk (blk_below (g := gb340) (o := .cells #[.int .i64 t329, .int .i64 t330, .slice Ao50 t331.length co50, .slice Ao51 t334.length co51, .int .i64 t337, .bool t338] 28 (0, 0)) (Fix.uK BK340.out) hb); have n13_ := Aside0.mk (below_step Fix.uB hb); clear HO_315002; clear HO_315003; clear HO_326002; clear HO_326003; clear HO_341002; clear HO_341003; clear HO371; clear HO374; clear BK288; clear BK314; clear BK325; clear BK340; clear HB; have HO_315002 := n0_; have HO_315003 := n1_; have HO_326002 := n2_; have HO_326003 := n3_; have HO_341002 := n4_; have HO_341003 := n5_; have HO371 := n6_; have HO374 := n7_; have HO379 := n8_; have BK288 := n9_; have BK314 := n10_; have BK325 := n11_; have BK340 := n12_; have HB := n13_; clear n0_ n1_ n2_ n3_ n4_ n5_ n6_ n7_ n8_ n9_ n10_ n11_ n12_ n13_; (try clear hb); (try clear hb2); (try clear hk); (try clear hi); (try clear ho0); obtain ⟨Ao134, co134, eo134⟩ := Kd.R_slice HO371.out; subst eo134; obtain ⟨Ao135, co135, eo135⟩ := Kd.R_slice HO374.out; subst eo135; obtain ⟨Ao136, co136, eo136⟩ := Kd.R_slice HO379.out; subst eo136) | ((with_reducible refine gate_callee (f := 14) rfl ?_); refine goesL_ (some 97) rfl rfl Try.func14 (by kernel_rfl) rfl #[.agg #[.int .i64 t367, .int .i64 t368, .slice Ao134 t369.length co134, .slice Ao135 t372.length co135, .int .i64 t375, .bool t376], .slice Ao136 t377.length co136] rfl Fix.uA ?_; (with_reducible refine (impl_RunLine.calls kj79 t367 t368 _ _ t369 _ _ t372 t375 t376 _ _ t377 t380 t381 t382 t385 t388 t389 t390 _ ?side1 ?side2 ?side3 ?side4 ?side5 ?side6 A120.out).mono ?_); (case side1 => exact Fix.uC (Kd.R_reads' HO371.out).2.2); (case side2 => exact (Kd.R_reads' HO371.out).2.1); (case side3 => exact Fix.uC (Kd.R_reads' HO374.out).2.2); (case side4 => exact (Kd.R_reads' HO374.out).2.1); (case side5 => exact Fix.uC (Kd.R_reads' HO379.out).2.2); (case side6 => exact (Kd.R_reads' HO379.out).2.1); rintro e w137 ⟨v383, v386, rfl, ho0, ho1, hb⟩; refine ⟨_, rfl, ?_⟩; have n0_ := Aside0.mk (Kd.Q_mono (Kd.Q_told (Kd.Q_told (Kd.Q_old (Fix.uQ HO_315002.out) hb) (Kd.Q_base ho0)) (Kd.R_base ho1)) (fun _ h_ => h_.1)); have n1_ := Aside0.mk (Kd.R_mono (Kd.R_told (Kd.R_told (Kd.R_old (Fix.uR HO_315003.out) hb) (Kd.Q_base ho0)) (Kd.R_base ho1)) (fun _ h_ => h_.1)); have n2_ := Aside0.mk (Kd.Q_mono (Kd.Q_told (Kd.Q_told (Kd.Q_old (Fix.uQ HO_326002.out) hb) (Kd.Q_base ho0)) (Kd.R_base ho1)) (fun _ h_ => h_.1)); have n3_ := Aside0.mk (Kd.Q_mono (Kd.Q_told (Kd.Q_told (Kd.Q_old (Fix.uQ HO_326003.out) hb) (Kd.Q_base ho0)) (Kd.R_base ho1)) (fun _ h_ => h_.1)); have n4_ := Aside0.mk (Kd.Q_mono (Kd.Q_told (Kd.Q_told (Kd.Q_old (Fix.uQ HO_341002.out) hb) (Kd.Q_base ho0)) (Kd.R_base ho1)) (fun _ h_ => h_.1)); have n5_ := Aside0.mk (Kd.Q_mono (Kd.Q_told (Kd.Q_told (Kd.Q_old (Fix.uQ HO_341003.out) hb) (Kd.Q_base ho0)) (Kd.R_base ho1)) (fun _ h_ => h_.1)); have n6_ := Aside0.mk (Kd.R_mono (Kd.R_told (Kd.R_told (Kd.R_old (Fix.uR HO371.out) hb) (Kd.Q_base ho0)) (Kd.R_base ho1)) (fun _ h_ => h_.1)); have n7_ := Aside0.mk (Kd.R_mono (Kd.R_told (Kd.R_told (Kd.R_old (Fix.uR HO374.out) hb) (Kd.Q_base ho0)) (Kd.R_base ho1)) (fun _ h_ => h_.1)); have n8_ := Aside0.mk (Kd.R_mono (Kd.R_told (Kd.R_told (Kd.R_old (Fix.uR HO379.out) hb) (Kd.Q_base ho0)) (Kd.R_base ho1)) (fun _ h_ => h_.1)); have n9_ := Aside0.mk (Kd.Q_lower (Kd.Q_new' (Kd.Q_new' (Kd.Q_new' (Kd.Q_new' (Kd.Q_new' (Kd.Q_new' (Kd.Q_new' (Kd.Q_new' (Kd.Q_new' ho0 (Kd.Q_lt (Fix.uQ HO_315002.out))) (Kd.R_lt (Fix.uR HO_315003.out))) (Kd.Q_lt (Fix.uQ HO_326002.out))) (Kd.Q_lt (Fix.uQ HO_326003.out))) (Kd.Q_lt (Fix.uQ HO_341002.out))) (Kd.Q_lt (Fix.uQ HO_341003.out))) (Kd.R_lt (Fix.uR HO371.out))) (Kd.R_lt (Fix.uR HO374.out))) (Kd.R_lt (Fix.uR HO379.out))) (below_size Fix.uB)); have n10_ := Aside0.mk (Kd.R_lower (Kd.R_new' (Kd.R_new' (Kd.R_new' (Kd.R_new' (Kd.R_new' (Kd.R_new' (Kd.R_new' (Kd.R_new' (Kd.R_new' ho1 (Kd.Q_lt (Fix.uQ HO_315002.out))) (Kd.R_lt (Fix.uR HO_315003.out))) (Kd.Q_lt (Fix.uQ HO_326002.out))) (Kd.Q_lt (Fix.uQ HO_326003.out))) (Kd.Q_lt (Fix.uQ HO_341002.out))) (Kd.Q_lt (Fix.uQ HO_341003.out))) (Kd.R_lt (Fix.uR HO371.out))) (Kd.R_lt (Fix.uR HO374.out))) (Kd.R_lt (Fix.uR HO379.out))) (below_size Fix.uB)); have n11_ := Aside0.mk (blk_below (g := gb288) (o := .cells #[.int .i64 a0_0, .int .i64 a0_1, .slice A0_2 l0_2.length c0_2, .slice A0_3 l0_3.length c0_3, .int .i64 a0_4, .bool a0_5] 38 (0, 0)) (Fix.uK BK288.out) hb); have n12_ := Aside0.mk (blk_below (g := gb314) (o := .cells #[.int .i64 t303, .int .i64 t304, .slice Ao30 t305.length co30, .slice Ao31 t308.length co31, .int .i64 t311, .bool t312] 28 (0, 0)) (Fix.uK BK314.out) hb); have n13_ := Aside0.mk (blk_below (g := gb325) (o := .cells #[.int .i64 t315, .int .i64 t316, .slice Ao39 t358.length co39, .slice Ao40 t359.length co40, .int .i64 t323, .bool t324] 28 (0, 0)) (Fix.uK BK325.out) hb); have n14_ := Aside0.mk (blk_below (g := gb340) (o := .cells #[.int .i64 t329, .int .i64 t330, .slice Ao50 t331.length co50, .slice Ao51 t334.length co51, .int .i64 t337, .bool t338] 28 (0, 0)) (Fix.uK BK340.out) hb); have n15_ := Aside0.mk (below_step Fix.uB hb); clear HO_315002; clear HO_315003; clear HO_326002; clear HO_326003; clear HO_341002; clear HO_341003; clear HO371; clear HO374; clear HO379; clear BK288; clear BK314; clear BK325; clear BK340; clear HB; have HO_315002 := n0_; have HO_315003 := n1_; have HO_326002 := n2_; have HO_326003 := n3_; have HO_341002 := n4_; have HO_341003 := n5_; have HO371 := n6_; have HO374 := n7_; have HO379 := n8_; have HO384 := n9_; have HO387 := n10_; have BK288 := n11_; have BK314 := n12_; have BK325 := n13_; have BK340 := n14_; have HB := n15_; clear n0_ n1_ n2_ n3_ n4_ n5_ n6_ n7_ n8_ n9_ n10_ n11_ n12_ n13_ n14_ n15_; (try clear hb); (try clear hb2); (try clear hk); (try clear hi); (try clear ho0); (try clear ho1)) | ((with_reducible refine gate_dst (N := 15) rfl ?_); refine box_event ?hg (N := 15) ?hd (cs := #[.int .i64 0, .int .i64 0, .slice none 0 0, .slice none 0 0, .int .i64 0, .bool false]) (t := 28) ?hr ?_; (case hd => rfl); (case hg => rfl); (case hr => first | (go_simp; done) | (go_simp; rfl)); intro gb391 hg w138 hbox hb; have n0_ := Aside0.mk (Kd.Q_below (Fix.uQ HO_315002.out) hb); have n1_ := Aside0.mk (Kd.R_below (Fix.uR HO_315003.out) hb); have n2_ := Aside0.mk (Kd.Q_below (Fix.uQ HO_326002.out) hb); have n3_ := Aside0.mk (Kd.Q_below (Fix.uQ HO_326003.out) hb); have n4_ := Aside0.mk (Kd.Q_below (Fix.uQ HO_341002.out) hb); have n5_ := Aside0.mk (Kd.Q_below (Fix.uQ HO_341003.out) hb); have n6_ := Aside0.mk (Kd.R_below (Fix.uR HO371.out) hb); have n7_ := Aside0.mk (Kd.R_below (Fix.uR HO374.out) hb); have n8_ := Aside0.mk (Kd.R_below (Fix.uR HO379.out) hb); have n9_ := Aside0.mk (Kd.Q_below (Fix.uQ HO384.out) hb); have n10_ := Aside0.mk (Kd.R_below (Fix.uR HO387.out) hb); have n11_ := Aside0.mk (blk_below (g := gb288) (o := .cells #[.int .i64 a0_0, .int .i64 a0_1, .slice A0_2 l0_2.length c0_2, .slice A0_3 l0_3.length c0_3, .int .i64 a0_4, .bool a0_5] 38 (0, 0)) (Fix.uK BK288.out) hb); have n12_ := Aside0.mk (blk_below (g := gb314) (o := .cells #[.int .i64 t303, .int .i64 t304, .slice Ao30 t305.length co30, .slice Ao31 t308.length co31, .int .i64 t311, .bool t312] 28 (0, 0)) (Fix.uK BK314.out) hb); have n13_ := Aside0.mk (blk_below (g := gb325) (o := .cells #[.int .i64 t315, .int .i64 t316, .slice Ao39 t358.length co39, .slice Ao40 t359.length co40, .int .i64 t323, .bool t324] 28 (0, 0)) (Fix.uK BK325.out) hb); have n14_ := Aside0.mk (blk_below (g := gb340) (o := .cells #[.int .i64 t329, .int .i64 t330, .slice Ao50 t331.length co50, .slice Ao51 t334.length co51, .int .i64 t337, .bool t338] 28 (0, 0)) (Fix.uK BK340.out) hb); have n15_ := Aside0.mk (below_step Fix.uB hb); have n16_ := Aside0.mk (hbox); have n17_ := Aside0.mk ((by rw [hg]; exact (below_size Fix.uB) : w.heap.size ≤ gb391)); have n18_ := Aside0.mk ((by rw [hg]; exact (below_size Fix.uB) : w.heap.size ≤ gb391)); have n19_ := Aside0.mk ((by rw [hg]; exact Nat.ne_of_lt (blk_lt (g := gb288) (o := .cells #[.int .i64 a0_0, .int .i64 a0_1, .slice A0_2 l0_2.length c0_2, .slice A0_3 l0_3.length c0_3, .int .i64 a0_4, .bool a0_5] 38 (0, 0)) (Fix.uK BK288.out)) : gb288 ≠ gb391)); have n20_ := Aside0.mk ((by rw [hg]; exact Nat.ne_of_gt (blk_lt (g := gb288) (o := .cells #[.int .i64 a0_0, .int .i64 a0_1, .slice A0_2 l0_2.length c0_2, .slice A0_3 l0_3.length c0_3, .int .i64 a0_4, .bool a0_5] 38 (0, 0)) (Fix.uK BK288.out)) : gb391 ≠ gb288)); have n21_ := Aside0.mk ((by rw [hg]; exact Nat.ne_of_lt (blk_lt (g := gb314) (o := .cells #[.int .i64 t303, .int .i64 t304, .slice Ao30 t305.length co30, .slice Ao31 t308.length co31, .int .i64 t311, .bool t312] 28 (0, 0)) (Fix.uK BK314.out)) : gb314 ≠ gb391)); have n22_ := Aside0.mk ((by rw [hg]; exact Nat.ne_of_gt (blk_lt (g := gb314) (o := .cells #[.int .i64 t303, .int .i64 t304, .slice Ao30 t305.length co30, .slice Ao31 t308.length co31, .int .i64 t311, .bool t312] 28 (0, 0)) (Fix.uK BK314.out)) : gb391 ≠ gb314)); have n23_ := Aside0.mk ((by rw [hg]; exact Nat.ne_of_lt (blk_lt (g := gb325) (o := .cells #[.int .i64 t315, .int .i64 t316, .slice Ao39 t358.length co39, .slice Ao40 t359.length co40, .int .i64 t323, .bool t324] 28 (0, 0)) (Fix.uK BK325.out)) : gb325 ≠ gb391)); have n24_ := Aside0.mk ((by rw [hg]; exact Nat.ne_of_gt (blk_lt (g := gb325) (o := .cells #[.int .i64 t315, .int .i64 t316, .slice Ao39 t358.length co39, .slice Ao40 t359.length co40, .int .i64 t323, .bool t324] 28 (0, 0)) (Fix.uK BK325.out)) : gb391 ≠ gb325)); have n25_ := Aside0.mk ((by rw [hg]; exact Nat.ne_of_lt (blk_lt (g := gb340) (o := .cells #[.int .i64 t329, .int .i64 t330, .slice Ao50 t331.length co50, .slice Ao51 t334.length co51, .int .i64 t337, .bool t338] 28 (0, 0)) (Fix.uK BK340.out)) : gb340 ≠ gb391)); have n26_ := Aside0.mk ((by rw [hg]; exact Nat.ne_of_gt (blk_lt (g := gb340) (o := .cells #[.int .i64 t329, .int .i64 t330, .slice Ao50 t331.length co50, .slice Ao51 t334.length co51, .int .i64 t337, .bool t338] 28 (0, 0)) (Fix.uK BK340.out)) : gb391 ≠ gb340)); clear HO_315002; clear HO_315003; clear HO_326002; clear HO_326003; clear HO_341002; clear HO_341003; clear HO371; clear HO374; clear HO379; clear HO384; clear HO387; clear BK288; clear BK314; clear BK325; clear BK340; clear HB; have HO_315002 := n0_; have HO_315003 := n1_; have HO_326002 := n2_; have HO_326003 := n3_; have HO_341002 := n4_; have HO_341003 := n5_; have HO371 := n6_; have HO374 := n7_; have HO379 := n8_; have HO384 := n9_; have HO387 := n10_; have BK288 := n11_; have BK314 := n12_; have BK325 := n13_; have BK340 := n14_; have HB := n15_; have BK391 := n16_; have GW391 := n17_; have GE391 := n18_; have NB288_391 := n19_; have NB391_288 := n20_; have NB314_391 := n21_; have NB391_314 := n22_; have NB325_391 := n23_; have NB391_325 := n24_; have NB340_391 := n25_; have NB391_340 := n26_; clear n0_ n1_ n2_ n3_ n4_ n5_ n6_ n7_ n8_ n9_ n10_ n11_ n12_ n13_ n14_ n15_ n16_ n17_ n18_ n19_ n20_ n21_ n22_ n23_ n24_ n25_ n26_; clear hb hbox hg; have hnb139 := NB391_288.out; have hnc139 := NB288_391.out; have hnb140 := NB391_314.out; have hnc140 := NB314_391.out; have hnb141 := NB391_325.out; have hnc141 := NB325_391.out; have hnb142 := NB391_340.out; have hnc142 := NB340_391.out; obtain ⟨hcz143_0, hcz143_1, hcz143_2, hcz143_3, hcz143_4, hcz143_5, hfz143_0, hfz143_1, hfz143_2, hfz143_3, hfz143_4, hfz143_5⟩ := Fix.d6 BK391.out; obtain ⟨Ao144, co144, eo144, _⟩ := Kd.Q_slice HO384.out; subst eo144; obtain ⟨Ao145, co145, eo145⟩ := Kd.R_slice HO387.out; subst eo145) | ((with_reducible refine gate_store (t := 28) (p := 15) rfl ?_); refine store_event (t := 28) (p := 15) (v := ?vo_w146) (w1 := ((((((w138.setCell ⟨gb391, 0, none⟩ (.int .i64 t380)).setCell ⟨gb391, 1, none⟩ (.int .i64 t381)).setCell ⟨gb391, 2, none⟩ (.slice Ao144 t382.length co144)).setCell ⟨gb391, 3, none⟩ (.slice Ao145 t385.length co145)).setCell ⟨gb391, 4, none⟩ (.int .i64 t388)).setCell ⟨gb391, 5, none⟩ (.bool t389))) ?hg ?ho ?hn ?hr ?_; (case ho => rfl); (case hg => rfl); (case hn => rfl); (case hr => first | (go_simp; done) | (go_simp; rfl)); intro w146 hw; have n0_ : Aside0 (Kd.Q (Kd.int .i64) 3 w146 w.heap.size (fun k_ => some k_ ≠ (.slice Ao31 t308.length co31 : Value).ownBlock ∧ some k_ ≠ (.slice Ao39 t358.length co39 : Value).ownBlock ∧ some k_ ≠ (.slice Ao40 t359.length co40 : Value).ownBlock ∧ some k_ ≠ (.slice Ao50 t331.length co50 : Value).ownBlock ∧ some k_ ≠ (.slice Ao51 t334.length co51 : Value).ownBlock ∧ some k_ ≠ (.slice Ao134 t369.length co134 : Value).ownBlock ∧ some k_ ≠ (.slice Ao135 t372.length co135 : Value).ownBlock ∧ some k_ ≠ (.slice Ao136 t377.length co136 : Value).ownBlock ∧ some k_ ≠ (.slice Ao144 t382.length co144 : Value).ownBlock ∧ some k_ ≠ (.slice Ao145 t385.length co145 : Value).ownBlock) (.slice Ao30 t305.length co30) t305) := ⟨(by rw [hw]; exact (by (with_reducible repeat (first | apply Kd.Q_alloc | apply Kd.Q_drewN | apply Kd.Q_drew)); exact Kd.Q_mono (Fix.Q_far6 (g := gb391) (Kd.Q_types HO_315002.out BK391.out (by decide)) (fun _ hk => hk.2) _ _ _ _ _ _) (fun _ hk => ⟨hk.1.1.1.1.1.1.1, ⟨hk.1.1.1.1.1.1.2.1, ⟨hk.1.1.1.1.1.1.2.2.1, ⟨hk.1.1.1.1.1.1.2.2.2.1, ⟨hk.1.1.1.1.1.1.2.2.2.2, ⟨hk.1.1.1.1.1.2, ⟨hk.1.1.1.1.2, ⟨hk.1.1.1.2, ⟨hk.1.1.2, hk.1.2⟩⟩⟩⟩⟩⟩⟩⟩⟩)))⟩; have n1_ : Aside0 (Kd.R (Kd.int .i64) 3 w146 w.heap.size (fun k_ => some k_ ≠ (.slice Ao30 t305.length co30 : Value).ownBlock ∧ some k_ ≠ (.slice Ao39 t358.length co39 : Value).ownBlock ∧ some k_ ≠ (.slice Ao40 t359.length co40 : Value).ownBlock ∧ some k_ ≠ (.slice Ao50 t331.length co50 : Value).ownBlock ∧ some k_ ≠ (.slice Ao51 t334.length co51 : Value).ownBlock ∧ some k_ ≠ (.slice Ao134 t369.length co134 : Value).ownBlock ∧ some k_ ≠ (.slice Ao135 t372.length co135 : Value).ownBlock ∧ some k_ ≠ (.slice Ao136 t377.length co136 : Value).ownBlock ∧ some k_ ≠ (.slice Ao144 t382.length co144 : Value).ownBlock ∧ some k_ ≠ (.slice Ao145 t385.length co145 : Value).ownBlock) (.slice Ao31 t308.length co31) t308) := ⟨(by rw [hw]; exact (by (with_reducible repeat (first | apply Kd.R_alloc | apply Kd.R_drewN | apply Kd.R_drew)); exact Kd.R_mono (Fix.R_far6 (g := gb391) (Kd.R_types HO_315003.out BK391.out (by decide)) (fun _ hk => hk.2) _ _ _ _ _ _) (fun _ hk => ⟨hk.1.1.1.1.1.1.1, ⟨hk.1.1.1.1.1.1.2.1, ⟨hk.1.1.1.1.1.1.2.2.1, ⟨hk.1.1.1.1.1.1.2.2.2.1, ⟨hk.1.1.1.1.1.1.2.2.2.2, ⟨hk.1.1.1.1.1.2, ⟨hk.1.1.1.1.2, ⟨hk.1.1.1.2, ⟨hk.1.1.2, hk.1.2⟩⟩⟩⟩⟩⟩⟩⟩⟩)))⟩; have n2_ : Aside0 (Kd.Q (Kd.int .i64) 3 w146 w.heap.size (fun k_ => some k_ ≠ (.slice Ao30 t305.length co30 : Value).ownBlock ∧ some k_ ≠ (.slice Ao31 t308.length co31 : Value).ownBlock ∧ some k_ ≠ (.slice Ao40 t359.length co40 : Value).ownBlock ∧ some k_ ≠ (.slice Ao50 t331.length co50 : Value).ownBlock ∧ some k_ ≠ (.slice Ao51 t334.length co51 : Value).ownBlock ∧ some k_ ≠ (.slice Ao134 t369.length co134 : Value).ownBlock ∧ some k_ ≠ (.slice Ao135 t372.length co135 : Value).ownBlock ∧ some k_ ≠ (.slice Ao136 t377.length co136 : Value).ownBlock ∧ some k_ ≠ (.slice Ao144 t382.length co144 : Value).ownBlock ∧ some k_ ≠ (.slice Ao145 t385.length co145 : Value).ownBlock) (.slice Ao39 t358.length co39) t358) := ⟨(by rw [hw]; exact (by (with_reducible repeat (first | apply Kd.Q_alloc | apply Kd.Q_drewN | apply Kd.Q_drew)); exact Kd.Q_mono (Fix.Q_far6 (g := gb391) (Kd.Q_types HO_326002.out BK391.out (by decide)) (fun _ hk => hk.2) _ _ _ _ _ _) (fun _ hk => ⟨hk.1.1.1.1.1.1.1, ⟨hk.1.1.1.1.1.1.2.1, ⟨hk.1.1.1.1.1.1.2.2.1, ⟨hk.1.1.1.1.1.1.2.2.2.1, ⟨hk.1.1.1.1.1.1.2.2.2.2, ⟨hk.1.1.1.1.1.2, ⟨hk.1.1.1.1.2, ⟨hk.1.1.1.2, ⟨hk.1.1.2, hk.1.2⟩⟩⟩⟩⟩⟩⟩⟩⟩)))⟩; have n3_ : Aside0 (Kd.Q (Kd.int .i64) 3 w146 w.heap.size (fun k_ => some k_ ≠ (.slice Ao30 t305.length co30 : Value).ownBlock ∧ some k_ ≠ (.slice Ao31 t308.length co31 : Value).ownBlock ∧ some k_ ≠ (.slice Ao39 t358.length co39 : Value).ownBlock ∧ some k_ ≠ (.slice Ao50 t331.length co50 : Value).ownBlock ∧ some k_ ≠ (.slice Ao51 t334.length co51 : Value).ownBlock ∧ some k_ ≠ (.slice Ao134 t369.length co134 : Value).ownBlock ∧ some k_ ≠ (.slice Ao135 t372.length co135 : Value).ownBlock ∧ some k_ ≠ (.slice Ao136 t377.length co136 : Value).ownBlock ∧ some k_ ≠ (.slice Ao144 t382.length co144 : Value).ownBlock ∧ some k_ ≠ (.slice Ao145 t385.length co145 : Value).ownBlock) (.slice Ao40 t359.length co40) t359) := ⟨(by rw [hw]; exact (by (with_reducible repeat (first | apply Kd.Q_alloc | apply Kd.Q_drewN | apply Kd.Q_drew)); exact Kd.Q_mono (Fix.Q_far6 (g := gb391) (Kd.Q_types HO_326003.out BK391.out (by decide)) (fun _ hk => hk.2) _ _ _ _ _ _) (fun _ hk => ⟨hk.1.1.1.1.1.1.1, ⟨hk.1.1.1.1.1.1.2.1, ⟨hk.1.1.1.1.1.1.2.2.1, ⟨hk.1.1.1.1.1.1.2.2.2.1, ⟨hk.1.1.1.1.1.1.2.2.2.2, ⟨hk.1.1.1.1.1.2, ⟨hk.1.1.1.1.2, ⟨hk.1.1.1.2, ⟨hk.1.1.2, hk.1.2⟩⟩⟩⟩⟩⟩⟩⟩⟩)))⟩; have n4_ : Aside0 (Kd.Q (Kd.int .i64) 3 w146 w.heap.size (fun k_ => some k_ ≠ (.slice Ao30 t305.length co30 : Value).ownBlock ∧ some k_ ≠ (.slice Ao31 t308.length co31 : Value).ownBlock ∧ some k_ ≠ (.slice Ao39 t358.length co39 : Value).ownBlock ∧ some k_ ≠ (.slice Ao40 t359.length co40 : Value).ownBlock ∧ some k_ ≠ (.slice Ao51 t334.length co51 : Value).ownBlock ∧ some k_ ≠ (.slice Ao134 t369.length co134 : Value).ownBlock ∧ some k_ ≠ (.slice Ao135 t372.length co135 : Value).ownBlock ∧ some k_ ≠ (.slice Ao136 t377.length co136 : Value).ownBlock ∧ some k_ ≠ (.slice Ao144 t382.length co144 : Value).ownBlock ∧ some k_ ≠ (.slice Ao145 t385.length co145 : Value).ownBlock) (.slice Ao50 t331.length co50) t364) := ⟨(by rw [hw]; exact (by (with_reducible repeat (first | apply Kd.Q_alloc | apply Kd.Q_drewN | apply Kd.Q_drew)); exact Kd.Q_mono (Fix.Q_far6 (g := gb391) (Kd.Q_types HO_341002.out BK391.out (by decide)) (fun _ hk => hk.2) _ _ _ _ _ _) (fun _ hk => ⟨hk.1.1.1.1.1.1.1, ⟨hk.1.1.1.1.1.1.2.1, ⟨hk.1.1.1.1.1.1.2.2.1, ⟨hk.1.1.1.1.1.1.2.2.2.1, ⟨hk.1.1.1.1.1.1.2.2.2.2, ⟨hk.1.1.1.1.1.2, ⟨hk.1.1.1.1.2, ⟨hk.1.1.1.2, ⟨hk.1.1.2, hk.1.2⟩⟩⟩⟩⟩⟩⟩⟩⟩)))⟩; have n5_ : Aside0 (Kd.Q (Kd.int .i64) 3 w146 w.heap.size (fun k_ => some k_ ≠ (.slice Ao30 t305.length co30 : Value).ownBlock ∧ some k_ ≠ (.slice Ao31 t308.length co31 : Value).ownBlock ∧ some k_ ≠ (.slice Ao39 t358.length co39 : Value).ownBlock ∧ some k_ ≠ (.slice Ao40 t359.length co40 : Value).ownBlock ∧ some k_ ≠ (.slice Ao50 t331.length co50 : Value).ownBlock ∧ some k_ ≠ (.slice Ao134 t369.length co134 : Value).ownBlock ∧ some k_ ≠ (.slice Ao135 t372.length co135 : Value).ownBlock ∧ some k_ ≠ (.slice Ao136 t377.length co136 : Value).ownBlock ∧ some k_ ≠ (.slice Ao144 t382.length co144 : Value).ownBlock ∧ some k_ ≠ (.slice Ao145 t385.length co145 : Value).ownBlock) (.slice Ao51 t334.length co51) t365) := ⟨(by rw [hw]; exact (by (with_reducible repeat (first | apply Kd.Q_alloc | apply Kd.Q_drewN | apply Kd.Q_drew)); exact Kd.Q_mono (Fix.Q_far6 (g := gb391) (Kd.Q_types HO_341003.out BK391.out (by decide)) (fun _ hk => hk.2) _ _ _ _ _ _) (fun _ hk => ⟨hk.1.1.1.1.1.1.1, ⟨hk.1.1.1.1.1.1.2.1, ⟨hk.1.1.1.1.1.1.2.2.1, ⟨hk.1.1.1.1.1.1.2.2.2.1, ⟨hk.1.1.1.1.1.1.2.2.2.2, ⟨hk.1.1.1.1.1.2, ⟨hk.1.1.1.1.2, ⟨hk.1.1.1.2, ⟨hk.1.1.2, hk.1.2⟩⟩⟩⟩⟩⟩⟩⟩⟩)))⟩; have n6_ : Aside0 (Kd.R (Kd.int .i64) 3 w146 w.heap.size (fun k_ => some k_ ≠ (.slice Ao30 t305.length co30 : Value).ownBlock ∧ some k_ ≠ (.slice Ao31 t308.length co31 : Value).ownBlock ∧ some k_ ≠ (.slice Ao39 t358.length co39 : Value).ownBlock ∧ some k_ ≠ (.slice Ao40 t359.length co40 : Value).ownBlock ∧ some k_ ≠ (.slice Ao50 t331.length co50 : Value).ownBlock ∧ some k_ ≠ (.slice Ao51 t334.length co51 : Value).ownBlock ∧ some k_ ≠ (.slice Ao135 t372.length co135 : Value).ownBlock ∧ some k_ ≠ (.slice Ao136 t377.length co136 : Value).ownBlock ∧ some k_ ≠ (.slice Ao144 t382.length co144 : Value).ownBlock ∧ some k_ ≠ (.slice Ao145 t385.length co145 : Value).ownBlock) (.slice Ao134 t369.length co134) t369) := ⟨(by rw [hw]; exact (by (with_reducible repeat (first | apply Kd.R_alloc | apply Kd.R_drewN | apply Kd.R_drew)); exact Kd.R_mono (Fix.R_far6 (g := gb391) (Kd.R_types HO371.out BK391.out (by decide)) (fun _ hk => hk.2) _ _ _ _ _ _) (fun _ hk => ⟨hk.1.1.1.1.1.1.1.1.1.2, ⟨hk.1.1.1.1.1.1.1.1.2, ⟨hk.1.1.1.1.1.1.1.2, ⟨hk.1.1.1.1.1.1.2, ⟨hk.1.1.1.1.1.2, ⟨hk.1.1.1.1.2, ⟨hk.1.1.1.1.1.1.1.1.1.1, ⟨hk.1.1.1.2, ⟨hk.1.1.2, hk.1.2⟩⟩⟩⟩⟩⟩⟩⟩⟩)))⟩; have n7_ : Aside0 (Kd.R (Kd.int .i64) 3 w146 w.heap.size (fun k_ => some k_ ≠ (.slice Ao30 t305.length co30 : Value).ownBlock ∧ some k_ ≠ (.slice Ao31 t308.length co31 : Value).ownBlock ∧ some k_ ≠ (.slice Ao39 t358.length co39 : Value).ownBlock ∧ some k_ ≠ (.slice Ao40 t359.length co40 : Value).ownBlock ∧ some k_ ≠ (.slice Ao50 t331.length co50 : Value).ownBlock ∧ some k_ ≠ (.slice Ao51 t334.length co51 : Value).ownBlock ∧ some k_ ≠ (.slice Ao134 t369.length co134 : Value).ownBlock ∧ some k_ ≠ (.slice Ao136 t377.length co136 : Value).ownBlock ∧ some k_ ≠ (.slice Ao144 t382.length co144 : Value).ownBlock ∧ some k_ ≠ (.slice Ao145 t385.length co145 : Value).ownBlock) (.slice Ao135 t372.length co135) t372) := ⟨(by rw [hw]; exact (by (with_reducible repeat (first | apply Kd.R_alloc | apply Kd.R_drewN | apply Kd.R_drew)); exact Kd.R_mono (Fix.R_far6 (g := gb391) (Kd.R_types HO374.out BK391.out (by decide)) (fun _ hk => hk.2) _ _ _ _ _ _) (fun _ hk => ⟨hk.1.1.1.1.1.1.1.1.1.2, ⟨hk.1.1.1.1.1.1.1.1.2, ⟨hk.1.1.1.1.1.1.1.2, ⟨hk.1.1.1.1.1.1.2, ⟨hk.1.1.1.1.1.2, ⟨hk.1.1.1.1.2, ⟨hk.1.1.1.1.1.1.1.1.1.1, ⟨hk.1.1.1.2, ⟨hk.1.1.2, hk.1.2⟩⟩⟩⟩⟩⟩⟩⟩⟩)))⟩; have n8_ : Aside0 (Kd.R (Kd.int .i64) 3 w146 w.heap.size (fun k_ => some k_ ≠ (.slice Ao30 t305.length co30 : Value).ownBlock ∧ some k_ ≠ (.slice Ao31 t308.length co31 : Value).ownBlock ∧ some k_ ≠ (.slice Ao39 t358.length co39 : Value).ownBlock ∧ some k_ ≠ (.slice Ao40 t359.length co40 : Value).ownBlock ∧ some k_ ≠ (.slice Ao50 t331.length co50 : Value).ownBlock ∧ some k_ ≠ (.slice Ao51 t334.length co51 : Value).ownBlock ∧ some k_ ≠ (.slice Ao134 t369.length co134 : Value).ownBlock ∧ some k_ ≠ (.slice Ao135 t372.length co135 : Value).ownBlock ∧ some k_ ≠ (.slice Ao144 t382.length co144 : Value).ownBlock ∧ some k_ ≠ (.slice Ao145 t385.length co145 : Value).ownBlock) (.slice Ao136 t377.length co136) t377) := ⟨(by rw [hw]; exact (by (with_reducible repeat (first | apply Kd.R_alloc | apply Kd.R_drewN | apply Kd.R_drew)); exact Kd.R_mono (Fix.R_far6 (g := gb391) (Kd.R_types HO379.out BK391.out (by decide)) (fun _ hk => hk.2) _ _ _ _ _ _) (fun _ hk => ⟨hk.1.1.1.1.1.1.1.1.1.1.2, ⟨hk.1.1.1.1.1.1.1.1.1.2, ⟨hk.1.1.1.1.1.1.1.1.2, ⟨hk.1.1.1.1.1.1.1.2, ⟨hk.1.1.1.1.1.1.2, ⟨hk.1.1.1.1.1.2, ⟨hk.1.1.1.1.2, ⟨hk.1.1.1.2, ⟨hk.1.1.2, hk.1.2⟩⟩⟩⟩⟩⟩⟩⟩⟩)))⟩; have n9_ : Aside0 (Kd.Q (Kd.int .i64) 3 w146 w.heap.size (fun k_ => some k_ ≠ (.slice Ao30 t305.length co30 : Value).ownBlock ∧ some k_ ≠ (.slice Ao31 t308.length co31 : Value).ownBlock ∧ some k_ ≠ (.slice Ao39 t358.length co39 : Value).ownBlock ∧ some k_ ≠ (.slice Ao40 t359.length co40 : Value).ownBlock ∧ some k_ ≠ (.slice Ao50 t331.length co50 : Value).ownBlock ∧ some k_ ≠ (.slice Ao51 t334.length co51 : Value).ownBlock ∧ some k_ ≠ (.slice Ao134 t369.length co134 : Value).ownBlock ∧ some k_ ≠ (.slice Ao135 t372.length co135 : Value).ownBlock ∧ some k_ ≠ (.slice Ao136 t377.length co136 : Value).ownBlock ∧ some k_ ≠ (.slice Ao145 t385.length co145 : Value).ownBlock) (.slice Ao144 t382.length co144) t382) := ⟨(by rw [hw]; exact (by (with_reducible repeat (first | apply Kd.Q_alloc | apply Kd.Q_drewN | apply Kd.Q_drew)); exact Kd.Q_mono (Fix.Q_far6 (g := gb391) (Kd.Q_types HO384.out BK391.out (by decide)) (fun _ hk => hk.2) _ _ _ _ _ _) (fun _ hk => ⟨hk.1.1.1.1.1.1.1.1.1.2, ⟨hk.1.1.1.1.1.1.1.1.2, ⟨hk.1.1.1.1.1.1.1.2, ⟨hk.1.1.1.1.1.1.2, ⟨hk.1.1.1.1.1.2, ⟨hk.1.1.1.1.2, ⟨hk.1.1.1.2, ⟨hk.1.1.2, ⟨hk.1.2, hk.1.1.1.1.1.1.1.1.1.1⟩⟩⟩⟩⟩⟩⟩⟩⟩)))⟩; have n10_ : Aside0 (Kd.R (Kd.int .i64) 3 w146 w.heap.size (fun k_ => some k_ ≠ (.slice Ao30 t305.length co30 : Value).ownBlock ∧ some k_ ≠ (.slice Ao31 t308.length co31 : Value).ownBlock ∧ some k_ ≠ (.slice Ao39 t358.length co39 : Value).ownBlock ∧ some k_ ≠ (.slice Ao40 t359.length co40 : Value).ownBlock ∧ some k_ ≠ (.slice Ao50 t331.length co50 : Value).ownBlock ∧ some k_ ≠ (.slice Ao51 t334.length co51 : Value).ownBlock ∧ some k_ ≠ (.slice Ao134 t369.length co134 : Value).ownBlock ∧ some k_ ≠ (.slice Ao135 t372.length co135 : Value).ownBlock ∧ some k_ ≠ (.slice Ao136 t377.length co136 : Value).ownBlock ∧ some k_ ≠ (.slice Ao144 t382.length co144 : Value).ownBlock) (.slice Ao145 t385.length co145) t385) := ⟨(by rw [hw]; exact (by (with_reducible repeat (first | apply Kd.R_alloc | apply Kd.R_drewN | apply Kd.R_drew)); exact Kd.R_mono (Fix.R_far6 (g := gb391) (Kd.R_types HO387.out BK391.out (by decide)) (fun _ hk => hk.2) _ _ _ _ _ _) (fun _ hk => ⟨hk.1.1.1.1.1.1.1.1.1.2, ⟨hk.1.1.1.1.1.1.1.1.2, ⟨hk.1.1.1.1.1.1.1.2, ⟨hk.1.1.1.1.1.1.2, ⟨hk.1.1.1.1.1.2, ⟨hk.1.1.1.1.2, ⟨hk.1.1.1.2, ⟨hk.1.1.2, ⟨hk.1.2, hk.1.1.1.1.1.1.1.1.1.1⟩⟩⟩⟩⟩⟩⟩⟩⟩)))⟩; have n11_ : Aside0 (w146.heap[gb288]? = some (.cells #[.int .i64 a0_0, .int .i64 a0_1, .slice A0_2 l0_2.length c0_2, .slice A0_3 l0_3.length c0_3, .int .i64 a0_4, .bool a0_5] 38 (0, 0))) := ⟨(by rw [hw]; exact (by (with_reducible repeat (first | refine Fix.kN ?_ _ | refine Fix.kD ?_ | refine Fix.kA ?_ _)); refine Fix.far6 ?_ NB288_391.out _ _ _ _ _ _; (with_reducible repeat (first | refine Fix.kN ?_ _ | refine Fix.kD ?_ | refine Fix.kA ?_ _)); exact BK288.out))⟩; have n12_ : Aside0 (w146.heap[gb314]? = some (.cells #[.int .i64 t303, .int .i64 t304, .slice Ao30 t305.length co30, .slice Ao31 t308.length co31, .int .i64 t311, .bool t312] 28 (0, 0))) := ⟨(by rw [hw]; exact (by (with_reducible repeat (first | refine Fix.kN ?_ _ | refine Fix.kD ?_ | refine Fix.kA ?_ _)); refine Fix.far6 ?_ NB314_391.out _ _ _ _ _ _; (with_reducible repeat (first | refine Fix.kN ?_ _ | refine Fix.kD ?_ | refine Fix.kA ?_ _)); exact BK314.out))⟩; have n13_ : Aside0 (w146.heap[gb325]? = some (.cells #[.int .i64 t315, .int .i64 t316, .slice Ao39 t358.length co39, .slice Ao40 t359.length co40, .int .i64 t323, .bool t324] 28 (0, 0))) := ⟨(by rw [hw]; exact (by (with_reducible repeat (first | refine Fix.kN ?_ _ | refine Fix.kD ?_ | refine Fix.kA ?_ _)); refine Fix.far6 ?_ NB325_391.out _ _ _ _ _ _; (with_reducible repeat (first | refine Fix.kN ?_ _ | refine Fix.kD ?_ | refine Fix.kA ?_ _)); exact BK325.out))⟩; have n14_ : Aside0 (w146.heap[gb340]? = some (.cells #[.int .i64 t329, .int .i64 t330, .slice Ao50 t331.length co50, .slice Ao51 t334.length co51, .int .i64 t337, .bool t338] 28 (0, 0))) := ⟨(by rw [hw]; exact (by (with_reducible repeat (first | refine Fix.kN ?_ _ | refine Fix.kD ?_ | refine Fix.kA ?_ _)); refine Fix.far6 ?_ NB340_391.out _ _ _ _ _ _; (with_reducible repeat (first | refine Fix.kN ?_ _ | refine Fix.kD ?_ | refine Fix.kA ?_ _)); exact BK340.out))⟩; have n15_ : Aside0 (w146.heap[gb391]? = some (.cells #[.int .i64 t380, .int .i64 t381, .slice Ao144 t382.length co144, .slice Ao145 t385.length co145, .int .i64 t388, .bool t389] 28 (0, 0))) := ⟨(by rw [hw]; exact (by (with_reducible repeat (first | refine Fix.kN ?_ _ | refine Fix.kD ?_ | refine Fix.kA ?_ _)); apply Fix.put6; (with_reducible repeat (first | refine Fix.kN ?_ _ | refine Fix.kD ?_ | refine Fix.kA ?_ _)); exact BK391.out))⟩; have n16_ : Aside0 (Below w.heap.size w w146) := ⟨(by rw [hw]; exact Fix.uB)⟩; clear hw; clear HO_315002; clear HO_315003; clear HO_326002; clear HO_326003; clear HO_341002; clear HO_341003; clear HO371; clear HO374; clear HO379; clear HO384; clear HO387; clear BK288; clear BK314; clear BK325; clear BK340; clear BK391; clear HB; have HO_315002 := n0_; have HO_315003 := n1_; have HO_326002 := n2_; have HO_326003 := n3_; have HO_341002 := n4_; have HO_341003 := n5_; have HO371 := n6_; have HO374 := n7_; have HO379 := n8_; have HO384 := n9_; have HO387 := n10_; have BK288 := n11_; have BK314 := n12_; have BK325 := n13_; have BK340 := n14_; have BK391 := n15_; have HB := n16_; clear n0_ n1_ n2_ n3_ n4_ n5_ n6_ n7_ n8_ n9_ n10_ n11_ n12_ n13_ n14_ n15_ n16_))
                          (try simp only [Act.put, List.setIfInBounds_toArray, List.set_cons_zero, List.set_cons_succ])
                          go_cut [108] (fun v108 wc => ∃ (kq : Nat) (x108_120 : Bool), v108 = .bool x108_120 ∧ Aside0 (laws_FnExactRunLine.j2 kq t363 x108_120 t329 t330 t364 t365 t337 t338 = some r) ∧ Aside0 (kq ≤ kj79) ∧ Aside0 (Kd.Q (Kd.int .i64) 3 wc w.heap.size (fun k_ => some k_ ≠ Fix.o Ao31 t308.length co31 ∧ some k_ ≠ Fix.o Ao39 t358.length co39 ∧ some k_ ≠ Fix.o Ao40 t359.length co40 ∧ some k_ ≠ Fix.o Ao50 t331.length co50 ∧ some k_ ≠ Fix.o Ao51 t334.length co51 ∧ some k_ ≠ Fix.o Ao144 t382.length co144 ∧ some k_ ≠ Fix.o Ao145 t385.length co145) (.slice Ao30 t305.length co30) t305) ∧ Aside0 (Kd.R (Kd.int .i64) 3 wc w.heap.size (fun k_ => some k_ ≠ Fix.o Ao30 t305.length co30 ∧ some k_ ≠ Fix.o Ao39 t358.length co39 ∧ some k_ ≠ Fix.o Ao40 t359.length co40 ∧ some k_ ≠ Fix.o Ao50 t331.length co50 ∧ some k_ ≠ Fix.o Ao51 t334.length co51 ∧ some k_ ≠ Fix.o Ao144 t382.length co144 ∧ some k_ ≠ Fix.o Ao145 t385.length co145) (.slice Ao31 t308.length co31) t308) ∧ Aside0 (Kd.Q (Kd.int .i64) 3 wc w.heap.size (fun k_ => some k_ ≠ Fix.o Ao30 t305.length co30 ∧ some k_ ≠ Fix.o Ao31 t308.length co31 ∧ some k_ ≠ Fix.o Ao40 t359.length co40 ∧ some k_ ≠ Fix.o Ao50 t331.length co50 ∧ some k_ ≠ Fix.o Ao51 t334.length co51 ∧ some k_ ≠ Fix.o Ao144 t382.length co144 ∧ some k_ ≠ Fix.o Ao145 t385.length co145) (.slice Ao39 t358.length co39) t358) ∧ Aside0 (Kd.Q (Kd.int .i64) 3 wc w.heap.size (fun k_ => some k_ ≠ Fix.o Ao30 t305.length co30 ∧ some k_ ≠ Fix.o Ao31 t308.length co31 ∧ some k_ ≠ Fix.o Ao39 t358.length co39 ∧ some k_ ≠ Fix.o Ao50 t331.length co50 ∧ some k_ ≠ Fix.o Ao51 t334.length co51 ∧ some k_ ≠ Fix.o Ao144 t382.length co144 ∧ some k_ ≠ Fix.o Ao145 t385.length co145) (.slice Ao40 t359.length co40) t359) ∧ Aside0 (Kd.Q (Kd.int .i64) 3 wc w.heap.size (fun k_ => some k_ ≠ Fix.o Ao30 t305.length co30 ∧ some k_ ≠ Fix.o Ao31 t308.length co31 ∧ some k_ ≠ Fix.o Ao39 t358.length co39 ∧ some k_ ≠ Fix.o Ao40 t359.length co40 ∧ some k_ ≠ Fix.o Ao51 t334.length co51 ∧ some k_ ≠ Fix.o Ao144 t382.length co144 ∧ some k_ ≠ Fix.o Ao145 t385.length co145) (.slice Ao50 t331.length co50) t364) ∧ Aside0 (Kd.Q (Kd.int .i64) 3 wc w.heap.size (fun k_ => some k_ ≠ Fix.o Ao30 t305.length co30 ∧ some k_ ≠ Fix.o Ao31 t308.length co31 ∧ some k_ ≠ Fix.o Ao39 t358.length co39 ∧ some k_ ≠ Fix.o Ao40 t359.length co40 ∧ some k_ ≠ Fix.o Ao50 t331.length co50 ∧ some k_ ≠ Fix.o Ao144 t382.length co144 ∧ some k_ ≠ Fix.o Ao145 t385.length co145) (.slice Ao51 t334.length co51) t365) ∧ Aside0 (Kd.Q (Kd.int .i64) 3 wc w.heap.size (fun k_ => some k_ ≠ Fix.o Ao30 t305.length co30 ∧ some k_ ≠ Fix.o Ao31 t308.length co31 ∧ some k_ ≠ Fix.o Ao39 t358.length co39 ∧ some k_ ≠ Fix.o Ao40 t359.length co40 ∧ some k_ ≠ Fix.o Ao50 t331.length co50 ∧ some k_ ≠ Fix.o Ao51 t334.length co51 ∧ some k_ ≠ Fix.o Ao145 t385.length co145) (.slice Ao144 t382.length co144) t382) ∧ Aside0 (Kd.R (Kd.int .i64) 3 wc w.heap.size (fun k_ => some k_ ≠ Fix.o Ao30 t305.length co30 ∧ some k_ ≠ Fix.o Ao31 t308.length co31 ∧ some k_ ≠ Fix.o Ao39 t358.length co39 ∧ some k_ ≠ Fix.o Ao40 t359.length co40 ∧ some k_ ≠ Fix.o Ao50 t331.length co50 ∧ some k_ ≠ Fix.o Ao51 t334.length co51 ∧ some k_ ≠ Fix.o Ao144 t382.length co144) (.slice Ao145 t385.length co145) t385) ∧ Aside0 (wc.heap[gb288]? = some (.cells #[.int .i64 a0_0, .int .i64 a0_1, (.slice A0_2 l0_2.length c0_2), (.slice A0_3 l0_3.length c0_3), .int .i64 a0_4, .bool a0_5] 38 (0, 0))) ∧ Aside0 (wc.heap[gb314]? = some (.cells #[.int .i64 t303, .int .i64 t304, (.slice Ao30 t305.length co30), (.slice Ao31 t308.length co31), .int .i64 t311, .bool t312] 28 (0, 0))) ∧ Aside0 (wc.heap[gb325]? = some (.cells #[.int .i64 t315, .int .i64 t316, (.slice Ao39 t358.length co39), (.slice Ao40 t359.length co40), .int .i64 t323, .bool t324] 28 (0, 0))) ∧ Aside0 (wc.heap[gb340]? = some (.cells #[.int .i64 t329, .int .i64 t330, (.slice Ao50 t331.length co50), (.slice Ao51 t334.length co51), .int .i64 t337, .bool t338] 28 (0, 0))) ∧ Aside0 (wc.heap[gb391]? = some (.cells #[.int .i64 t380, .int .i64 t381, (.slice Ao144 t382.length co144), (.slice Ao145 t385.length co145), .int .i64 t388, .bool t389] 28 (0, 0))) ∧ Aside0 (Below w.heap.size w wc))
                          case first =>
                            have H := HC121.out
                            clear HC121
                            replace H := Option.bind_eq_some_iff.mp H
                            obtain ⟨t392, A1470, H⟩ := H
                            replace H : (if t392 = true then (laws_FnExactRunLine.j2 kj79 t363 (t390 != t313) t329 t330 t364 t365 t337 t338) else (laws_FnExactRunLine.j2 kj79 t363 true t329 t330 t364 t365 t337 t338)) = some r := H
                            have A147 := Aside0.mk A1470
                            clear A1470
                            by_cases c148 : t392 = true
                            · subst c148
                              have H1 : (laws_FnExactRunLine.j2 kj79 t363 (t390 != t313) t329 t330 t364 t365 t337 t338) = some r := by rw [if_pos rfl] at H; exact H
                              clear H
                              have H := H1
                              clear H1
                              have H' := Aside0.mk H
                              clear H
                              have hnb149 := NB391_288.out
                              have hnc149 := NB288_391.out
                              have hnb150 := NB391_314.out
                              have hnc150 := NB314_391.out
                              have hnb151 := NB391_325.out
                              have hnc151 := NB325_391.out
                              have hnb152 := NB391_340.out
                              have hnc152 := NB340_391.out
                              obtain ⟨hcz153_0, hcz153_1, hcz153_2, hcz153_3, hcz153_4, hcz153_5, hfz153_0, hfz153_1, hfz153_2, hfz153_3, hfz153_4, hfz153_5⟩ := Fix.d6 BK391.out
                              have hnb154 := NB314_288.out
                              have hnc154 := NB288_314.out
                              have hnb155 := NB314_325.out
                              have hnc155 := NB325_314.out
                              have hnb156 := NB314_340.out
                              have hnc156 := NB340_314.out
                              obtain ⟨hcz157_0, hcz157_1, hcz157_2, hcz157_3, hcz157_4, hcz157_5, hfz157_0, hfz157_1, hfz157_2, hfz157_3, hfz157_4, hfz157_5⟩ := Fix.d6 BK314.out
                              go_wp2_with (first | ((with_reducible refine gate_callee (f := 19) rfl ?_); refine goesL_ (some 102) rfl rfl Try.func19 (by kernel_rfl) rfl #[.agg #[.int .i64 t380, .int .i64 t381, .slice Ao144 t382.length co144, .slice Ao145 t385.length co145, .int .i64 t388, .bool t389], .agg #[.int .i64 t303, .int .i64 t304, .slice Ao30 t305.length co30, .slice Ao31 t308.length co31, .int .i64 t311, .bool t312]] rfl Fix.uA ?_; (with_reducible refine (laws_eqLine.calls kj79 t380 t381 _ _ t382 _ _ t385 t388 t389 t303 t304 _ _ t305 _ _ t308 t311 t312 true _ ?side1 ?side2 ?side3 ?side4 ?side5 ?side6 ?side7 ?side8 A147.out).mono ?_); (case side1 => exact Fix.uC (Kd.Q_reads' HO384.out).2.2); (case side2 => exact (Kd.Q_reads' HO384.out).2.1); (case side3 => exact Fix.uC (Kd.R_reads' HO387.out).2.2); (case side4 => exact (Kd.R_reads' HO387.out).2.1); (case side5 => exact Fix.uC (Kd.Q_reads' HO_315002.out).2.2); (case side6 => exact (Kd.Q_reads' HO_315002.out).2.1); (case side7 => exact Fix.uC (Kd.R_reads' HO_315003.out).2.2); (case side8 => exact (Kd.R_reads' HO_315003.out).2.1); rintro e w158 ⟨rfl, hb⟩; refine ⟨_, rfl, ?_⟩; have n0_ := Aside0.mk (Kd.Q_below (Fix.uQ HO_315002.out) hb); have n1_ := Aside0.mk (Kd.R_below (Fix.uR HO_315003.out) hb); have n2_ := Aside0.mk (Kd.Q_below (Fix.uQ HO_326002.out) hb); have n3_ := Aside0.mk (Kd.Q_below (Fix.uQ HO_326003.out) hb); have n4_ := Aside0.mk (Kd.Q_below (Fix.uQ HO_341002.out) hb); have n5_ := Aside0.mk (Kd.Q_below (Fix.uQ HO_341003.out) hb); have n6_ := Aside0.mk (Kd.R_below (Fix.uR HO371.out) hb); have n7_ := Aside0.mk (Kd.R_below (Fix.uR HO374.out) hb); have n8_ := Aside0.mk (Kd.R_below (Fix.uR HO379.out) hb); have n9_ := Aside0.mk (Kd.Q_below (Fix.uQ HO384.out) hb); have n10_ := Aside0.mk (Kd.R_below (Fix.uR HO387.out) hb); have n11_ := Aside0.mk (blk_below (g := gb288) (o := .cells #[.int .i64 a0_0, .int .i64 a0_1, .slice A0_2 l0_2.length c0_2, .slice A0_3 l0_3.length c0_3, .int .i64 a0_4, .bool a0_5] 38 (0, 0)) (Fix.uK BK288.out) hb); have n12_ := Aside0.mk (blk_below (g := gb314) (o := .cells #[.int .i64 t303, .int .i64 t304, .slice Ao30 t305.length co30, .slice Ao31 t308.length co31, .int .i64 t311, .bool t312] 28 (0, 0)) (Fix.uK BK314.out) hb); have n13_ := Aside0.mk (blk_below (g := gb325) (o := .cells #[.int .i64 t315, .int .i64 t316, .slice Ao39 t358.length co39, .slice Ao40 t359.length co40, .int .i64 t323, .bool t324] 28 (0, 0)) (Fix.uK BK325.out) hb); have n14_ := Aside0.mk (blk_below (g := gb340) (o := .cells #[.int .i64 t329, .int .i64 t330, .slice Ao50 t331.length co50, .slice Ao51 t334.length co51, .int .i64 t337, .bool t338] 28 (0, 0)) (Fix.uK BK340.out) hb); have n15_ := Aside0.mk (blk_below (g := gb391) (o := .cells #[.int .i64 t380, .int .i64 t381, .slice Ao144 t382.length co144, .slice Ao145 t385.length co145, .int .i64 t388, .bool t389] 28 (0, 0)) (Fix.uK BK391.out) hb); have n16_ := Aside0.mk (below_step Fix.uB hb); clear HO_315002; clear HO_315003; clear HO_326002; clear HO_326003; clear HO_341002; clear HO_341003; clear HO371; clear HO374; clear HO379; clear HO384; clear HO387; clear BK288; clear BK314; clear BK325; clear BK340; clear BK391; clear HB; have HO_315002 := n0_; have HO_315003 := n1_; have HO_326002 := n2_; have HO_326003 := n3_; have HO_341002 := n4_; have HO_341003 := n5_; have HO371 := n6_; have HO374 := n7_; have HO379 := n8_; have HO384 := n9_; have HO387 := n10_; have BK288 := n11_; have BK314 := n12_; have BK325 := n13_; have BK340 := n14_; have BK391 := n15_; have HB := n16_; clear n0_ n1_ n2_ n3_ n4_ n5_ n6_ n7_ n8_ n9_ n10_ n11_ n12_ n13_ n14_ n15_ n16_; (try clear hb); (try clear hb2); (try clear hk); (try clear hi)))
                              go_meet
                              case rel => exact ⟨_, ((t390 != t313)), (by first | rfl | (simp; done) | (simp [*]; done)), H', ⟨by have := HJ15.out; have := HJ79.out; first | omega | exact Nat.le_refl _⟩, ⟨by (try simp only [hl326002_79]); (try simp only [hl326003_79]); (with_reducible repeat (first | apply Kd.Q_alloc | apply Kd.Q_drewN | apply Kd.Q_drew)); exact Kd.Q_mono HO_315002.out (fun _ hk => ⟨hk.1, ⟨hk.2.1, ⟨hk.2.2.1, ⟨hk.2.2.2.1, ⟨hk.2.2.2.2.1, ⟨hk.2.2.2.2.2.2.2.2.1, hk.2.2.2.2.2.2.2.2.2⟩⟩⟩⟩⟩⟩)⟩, ⟨by (try simp only [hl326002_79]); (try simp only [hl326003_79]); (with_reducible repeat (first | apply Kd.R_alloc | apply Kd.R_drewN | apply Kd.R_drew)); exact Kd.R_mono HO_315003.out (fun _ hk => ⟨hk.1, ⟨hk.2.1, ⟨hk.2.2.1, ⟨hk.2.2.2.1, ⟨hk.2.2.2.2.1, ⟨hk.2.2.2.2.2.2.2.2.1, hk.2.2.2.2.2.2.2.2.2⟩⟩⟩⟩⟩⟩)⟩, ⟨by (try simp only [hl326002_79]); (try simp only [hl326003_79]); (with_reducible repeat (first | apply Kd.Q_alloc | apply Kd.Q_drewN | apply Kd.Q_drew)); exact Kd.Q_mono HO_326002.out (fun _ hk => ⟨hk.1, ⟨hk.2.1, ⟨hk.2.2.1, ⟨hk.2.2.2.1, ⟨hk.2.2.2.2.1, ⟨hk.2.2.2.2.2.2.2.2.1, hk.2.2.2.2.2.2.2.2.2⟩⟩⟩⟩⟩⟩)⟩, ⟨by (try simp only [hl326002_79]); (try simp only [hl326003_79]); (with_reducible repeat (first | apply Kd.Q_alloc | apply Kd.Q_drewN | apply Kd.Q_drew)); exact Kd.Q_mono HO_326003.out (fun _ hk => ⟨hk.1, ⟨hk.2.1, ⟨hk.2.2.1, ⟨hk.2.2.2.1, ⟨hk.2.2.2.2.1, ⟨hk.2.2.2.2.2.2.2.2.1, hk.2.2.2.2.2.2.2.2.2⟩⟩⟩⟩⟩⟩)⟩, ⟨by (try simp only [hl326002_79]); (try simp only [hl326003_79]); (with_reducible repeat (first | apply Kd.Q_alloc | apply Kd.Q_drewN | apply Kd.Q_drew)); exact Kd.Q_mono HO_341002.out (fun _ hk => ⟨hk.1, ⟨hk.2.1, ⟨hk.2.2.1, ⟨hk.2.2.2.1, ⟨hk.2.2.2.2.1, ⟨hk.2.2.2.2.2.2.2.2.1, hk.2.2.2.2.2.2.2.2.2⟩⟩⟩⟩⟩⟩)⟩, ⟨by (try simp only [hl326002_79]); (try simp only [hl326003_79]); (with_reducible repeat (first | apply Kd.Q_alloc | apply Kd.Q_drewN | apply Kd.Q_drew)); exact Kd.Q_mono HO_341003.out (fun _ hk => ⟨hk.1, ⟨hk.2.1, ⟨hk.2.2.1, ⟨hk.2.2.2.1, ⟨hk.2.2.2.2.1, ⟨hk.2.2.2.2.2.2.2.2.1, hk.2.2.2.2.2.2.2.2.2⟩⟩⟩⟩⟩⟩)⟩, ⟨by (try simp only [hl326002_79]); (try simp only [hl326003_79]); (with_reducible repeat (first | apply Kd.Q_alloc | apply Kd.Q_drewN | apply Kd.Q_drew)); exact Kd.Q_mono HO384.out (fun _ hk => ⟨hk.1, ⟨hk.2.1, ⟨hk.2.2.1, ⟨hk.2.2.2.1, ⟨hk.2.2.2.2.1, ⟨hk.2.2.2.2.2.1, hk.2.2.2.2.2.2.2.2.2⟩⟩⟩⟩⟩⟩)⟩, ⟨by (try simp only [hl326002_79]); (try simp only [hl326003_79]); (with_reducible repeat (first | apply Kd.R_alloc | apply Kd.R_drewN | apply Kd.R_drew)); exact Kd.R_mono HO387.out (fun _ hk => ⟨hk.1, ⟨hk.2.1, ⟨hk.2.2.1, ⟨hk.2.2.2.1, ⟨hk.2.2.2.2.1, ⟨hk.2.2.2.2.2.1, hk.2.2.2.2.2.2.2.2.2⟩⟩⟩⟩⟩⟩)⟩, ⟨by (try simp only [hl326002_79]); (try simp only [hl326003_79]); (with_reducible repeat (first | refine Fix.kN ?_ _ | refine Fix.kD ?_ | refine Fix.kA ?_ _)); exact BK288.out⟩, ⟨by (try simp only [hl326002_79]); (try simp only [hl326003_79]); (with_reducible repeat (first | refine Fix.kN ?_ _ | refine Fix.kD ?_ | refine Fix.kA ?_ _)); exact BK314.out⟩, ⟨by (try simp only [hl326002_79]); (try simp only [hl326003_79]); (with_reducible repeat (first | refine Fix.kN ?_ _ | refine Fix.kD ?_ | refine Fix.kA ?_ _)); exact BK325.out⟩, ⟨by (try simp only [hl326002_79]); (try simp only [hl326003_79]); (with_reducible repeat (first | refine Fix.kN ?_ _ | refine Fix.kD ?_ | refine Fix.kA ?_ _)); exact BK340.out⟩, ⟨by (try simp only [hl326002_79]); (try simp only [hl326003_79]); (with_reducible repeat (first | refine Fix.kN ?_ _ | refine Fix.kD ?_ | refine Fix.kA ?_ _)); exact BK391.out⟩, ⟨Fix.uB⟩⟩
                            · replace c148 := Bool.eq_false_iff.mpr c148
                              subst c148
                              have H1 : (laws_FnExactRunLine.j2 kj79 t363 true t329 t330 t364 t365 t337 t338) = some r := by rw [if_neg (show ¬ (false = true) by decide)] at H; exact H
                              clear H
                              have H := H1
                              clear H1
                              have H' := Aside0.mk H
                              clear H
                              have hnb159 := NB391_288.out
                              have hnc159 := NB288_391.out
                              have hnb160 := NB391_314.out
                              have hnc160 := NB314_391.out
                              have hnb161 := NB391_325.out
                              have hnc161 := NB325_391.out
                              have hnb162 := NB391_340.out
                              have hnc162 := NB340_391.out
                              obtain ⟨hcz163_0, hcz163_1, hcz163_2, hcz163_3, hcz163_4, hcz163_5, hfz163_0, hfz163_1, hfz163_2, hfz163_3, hfz163_4, hfz163_5⟩ := Fix.d6 BK391.out
                              have hnb164 := NB314_288.out
                              have hnc164 := NB288_314.out
                              have hnb165 := NB314_325.out
                              have hnc165 := NB325_314.out
                              have hnb166 := NB314_340.out
                              have hnc166 := NB340_314.out
                              obtain ⟨hcz167_0, hcz167_1, hcz167_2, hcz167_3, hcz167_4, hcz167_5, hfz167_0, hfz167_1, hfz167_2, hfz167_3, hfz167_4, hfz167_5⟩ := Fix.d6 BK314.out
                              go_wp2_with (first | ((with_reducible refine gate_callee (f := 19) rfl ?_); refine goesL_ (some 102) rfl rfl Try.func19 (by kernel_rfl) rfl #[.agg #[.int .i64 t380, .int .i64 t381, .slice Ao144 t382.length co144, .slice Ao145 t385.length co145, .int .i64 t388, .bool t389], .agg #[.int .i64 t303, .int .i64 t304, .slice Ao30 t305.length co30, .slice Ao31 t308.length co31, .int .i64 t311, .bool t312]] rfl Fix.uA ?_; (with_reducible refine (laws_eqLine.calls kj79 t380 t381 _ _ t382 _ _ t385 t388 t389 t303 t304 _ _ t305 _ _ t308 t311 t312 false _ ?side1 ?side2 ?side3 ?side4 ?side5 ?side6 ?side7 ?side8 A147.out).mono ?_); (case side1 => exact Fix.uC (Kd.Q_reads' HO384.out).2.2); (case side2 => exact (Kd.Q_reads' HO384.out).2.1); (case side3 => exact Fix.uC (Kd.R_reads' HO387.out).2.2); (case side4 => exact (Kd.R_reads' HO387.out).2.1); (case side5 => exact Fix.uC (Kd.Q_reads' HO_315002.out).2.2); (case side6 => exact (Kd.Q_reads' HO_315002.out).2.1); (case side7 => exact Fix.uC (Kd.R_reads' HO_315003.out).2.2); (case side8 => exact (Kd.R_reads' HO_315003.out).2.1); rintro e w168 ⟨rfl, hb⟩; refine ⟨_, rfl, ?_⟩; have n0_ := Aside0.mk (Kd.Q_below (Fix.uQ HO_315002.out) hb); have n1_ := Aside0.mk (Kd.R_below (Fix.uR HO_315003.out) hb); have n2_ := Aside0.mk (Kd.Q_below (Fix.uQ HO_326002.out) hb); have n3_ := Aside0.mk (Kd.Q_below (Fix.uQ HO_326003.out) hb); have n4_ := Aside0.mk (Kd.Q_below (Fix.uQ HO_341002.out) hb); have n5_ := Aside0.mk (Kd.Q_below (Fix.uQ HO_341003.out) hb); have n6_ := Aside0.mk (Kd.R_below (Fix.uR HO371.out) hb); have n7_ := Aside0.mk (Kd.R_below (Fix.uR HO374.out) hb); have n8_ := Aside0.mk (Kd.R_below (Fix.uR HO379.out) hb); have n9_ := Aside0.mk (Kd.Q_below (Fix.uQ HO384.out) hb); have n10_ := Aside0.mk (Kd.R_below (Fix.uR HO387.out) hb); have n11_ := Aside0.mk (blk_below (g := gb288) (o := .cells #[.int .i64 a0_0, .int .i64 a0_1, .slice A0_2 l0_2.length c0_2, .slice A0_3 l0_3.length c0_3, .int .i64 a0_4, .bool a0_5] 38 (0, 0)) (Fix.uK BK288.out) hb); have n12_ := Aside0.mk (blk_below (g := gb314) (o := .cells #[.int .i64 t303, .int .i64 t304, .slice Ao30 t305.length co30, .slice Ao31 t308.length co31, .int .i64 t311, .bool t312] 28 (0, 0)) (Fix.uK BK314.out) hb); have n13_ := Aside0.mk (blk_below (g := gb325) (o := .cells #[.int .i64 t315, .int .i64 t316, .slice Ao39 t358.length co39, .slice Ao40 t359.length co40, .int .i64 t323, .bool t324] 28 (0, 0)) (Fix.uK BK325.out) hb); have n14_ := Aside0.mk (blk_below (g := gb340) (o := .cells #[.int .i64 t329, .int .i64 t330, .slice Ao50 t331.length co50, .slice Ao51 t334.length co51, .int .i64 t337, .bool t338] 28 (0, 0)) (Fix.uK BK340.out) hb); have n15_ := Aside0.mk (blk_below (g := gb391) (o := .cells #[.int .i64 t380, .int .i64 t381, .slice Ao144 t382.length co144, .slice Ao145 t385.length co145, .int .i64 t388, .bool t389] 28 (0, 0)) (Fix.uK BK391.out) hb); have n16_ := Aside0.mk (below_step Fix.uB hb); clear HO_315002; clear HO_315003; clear HO_326002; clear HO_326003; clear HO_341002; clear HO_341003; clear HO371; clear HO374; clear HO379; clear HO384; clear HO387; clear BK288; clear BK314; clear BK325; clear BK340; clear BK391; clear HB; have HO_315002 := n0_; have HO_315003 := n1_; have HO_326002 := n2_; have HO_326003 := n3_; have HO_341002 := n4_; have HO_341003 := n5_; have HO371 := n6_; have HO374 := n7_; have HO379 := n8_; have HO384 := n9_; have HO387 := n10_; have BK288 := n11_; have BK314 := n12_; have BK325 := n13_; have BK340 := n14_; have BK391 := n15_; have HB := n16_; clear n0_ n1_ n2_ n3_ n4_ n5_ n6_ n7_ n8_ n9_ n10_ n11_ n12_ n13_ n14_ n15_ n16_; (try clear hb); (try clear hb2); (try clear hk); (try clear hi)))
                              go_meet
                              case rel => exact ⟨_, (true), (by first | rfl | (simp; done) | (simp [*]; done)), H', ⟨by have := HJ15.out; have := HJ79.out; first | omega | exact Nat.le_refl _⟩, ⟨by (try simp only [hl326002_79]); (try simp only [hl326003_79]); (with_reducible repeat (first | apply Kd.Q_alloc | apply Kd.Q_drewN | apply Kd.Q_drew)); exact Kd.Q_mono HO_315002.out (fun _ hk => ⟨hk.1, ⟨hk.2.1, ⟨hk.2.2.1, ⟨hk.2.2.2.1, ⟨hk.2.2.2.2.1, ⟨hk.2.2.2.2.2.2.2.2.1, hk.2.2.2.2.2.2.2.2.2⟩⟩⟩⟩⟩⟩)⟩, ⟨by (try simp only [hl326002_79]); (try simp only [hl326003_79]); (with_reducible repeat (first | apply Kd.R_alloc | apply Kd.R_drewN | apply Kd.R_drew)); exact Kd.R_mono HO_315003.out (fun _ hk => ⟨hk.1, ⟨hk.2.1, ⟨hk.2.2.1, ⟨hk.2.2.2.1, ⟨hk.2.2.2.2.1, ⟨hk.2.2.2.2.2.2.2.2.1, hk.2.2.2.2.2.2.2.2.2⟩⟩⟩⟩⟩⟩)⟩, ⟨by (try simp only [hl326002_79]); (try simp only [hl326003_79]); (with_reducible repeat (first | apply Kd.Q_alloc | apply Kd.Q_drewN | apply Kd.Q_drew)); exact Kd.Q_mono HO_326002.out (fun _ hk => ⟨hk.1, ⟨hk.2.1, ⟨hk.2.2.1, ⟨hk.2.2.2.1, ⟨hk.2.2.2.2.1, ⟨hk.2.2.2.2.2.2.2.2.1, hk.2.2.2.2.2.2.2.2.2⟩⟩⟩⟩⟩⟩)⟩, ⟨by (try simp only [hl326002_79]); (try simp only [hl326003_79]); (with_reducible repeat (first | apply Kd.Q_alloc | apply Kd.Q_drewN | apply Kd.Q_drew)); exact Kd.Q_mono HO_326003.out (fun _ hk => ⟨hk.1, ⟨hk.2.1, ⟨hk.2.2.1, ⟨hk.2.2.2.1, ⟨hk.2.2.2.2.1, ⟨hk.2.2.2.2.2.2.2.2.1, hk.2.2.2.2.2.2.2.2.2⟩⟩⟩⟩⟩⟩)⟩, ⟨by (try simp only [hl326002_79]); (try simp only [hl326003_79]); (with_reducible repeat (first | apply Kd.Q_alloc | apply Kd.Q_drewN | apply Kd.Q_drew)); exact Kd.Q_mono HO_341002.out (fun _ hk => ⟨hk.1, ⟨hk.2.1, ⟨hk.2.2.1, ⟨hk.2.2.2.1, ⟨hk.2.2.2.2.1, ⟨hk.2.2.2.2.2.2.2.2.1, hk.2.2.2.2.2.2.2.2.2⟩⟩⟩⟩⟩⟩)⟩, ⟨by (try simp only [hl326002_79]); (try simp only [hl326003_79]); (with_reducible repeat (first | apply Kd.Q_alloc | apply Kd.Q_drewN | apply Kd.Q_drew)); exact Kd.Q_mono HO_341003.out (fun _ hk => ⟨hk.1, ⟨hk.2.1, ⟨hk.2.2.1, ⟨hk.2.2.2.1, ⟨hk.2.2.2.2.1, ⟨hk.2.2.2.2.2.2.2.2.1, hk.2.2.2.2.2.2.2.2.2⟩⟩⟩⟩⟩⟩)⟩, ⟨by (try simp only [hl326002_79]); (try simp only [hl326003_79]); (with_reducible repeat (first | apply Kd.Q_alloc | apply Kd.Q_drewN | apply Kd.Q_drew)); exact Kd.Q_mono HO384.out (fun _ hk => ⟨hk.1, ⟨hk.2.1, ⟨hk.2.2.1, ⟨hk.2.2.2.1, ⟨hk.2.2.2.2.1, ⟨hk.2.2.2.2.2.1, hk.2.2.2.2.2.2.2.2.2⟩⟩⟩⟩⟩⟩)⟩, ⟨by (try simp only [hl326002_79]); (try simp only [hl326003_79]); (with_reducible repeat (first | apply Kd.R_alloc | apply Kd.R_drewN | apply Kd.R_drew)); exact Kd.R_mono HO387.out (fun _ hk => ⟨hk.1, ⟨hk.2.1, ⟨hk.2.2.1, ⟨hk.2.2.2.1, ⟨hk.2.2.2.2.1, ⟨hk.2.2.2.2.2.1, hk.2.2.2.2.2.2.2.2.2⟩⟩⟩⟩⟩⟩)⟩, ⟨by (try simp only [hl326002_79]); (try simp only [hl326003_79]); (with_reducible repeat (first | refine Fix.kN ?_ _ | refine Fix.kD ?_ | refine Fix.kA ?_ _)); exact BK288.out⟩, ⟨by (try simp only [hl326002_79]); (try simp only [hl326003_79]); (with_reducible repeat (first | refine Fix.kN ?_ _ | refine Fix.kD ?_ | refine Fix.kA ?_ _)); exact BK314.out⟩, ⟨by (try simp only [hl326002_79]); (try simp only [hl326003_79]); (with_reducible repeat (first | refine Fix.kN ?_ _ | refine Fix.kD ?_ | refine Fix.kA ?_ _)); exact BK325.out⟩, ⟨by (try simp only [hl326002_79]); (try simp only [hl326003_79]); (with_reducible repeat (first | refine Fix.kN ?_ _ | refine Fix.kD ?_ | refine Fix.kA ?_ _)); exact BK340.out⟩, ⟨by (try simp only [hl326002_79]); (try simp only [hl326003_79]); (with_reducible repeat (first | refine Fix.kN ?_ _ | refine Fix.kD ?_ | refine Fix.kA ?_ _)); exact BK391.out⟩, ⟨Fix.uB⟩⟩
                          case rest =>
                            clear HC121
                            try clear c1
                            try clear c2
                            try clear p2
                            try clear c3
                            try clear c3b0
                            try clear c3b1
                            try clear c4
                            try clear c5
                            try clear c6
                            try clear c6b0
                            try clear c7
                            try clear c8
                            try clear c9
                            try clear c10
                            try clear c11
                            try clear c12
                            try clear c13
                            try clear c14
                            try clear c15
                            try clear c16
                            try clear c19
                            try clear c20
                            try clear c21
                            try clear c22
                            try clear c24
                            try clear c28
                            try clear c29
                            try clear c30
                            try clear c31
                            try clear c32
                            try clear c36
                            try clear c37
                            try clear c46
                            try clear c47
                            try clear c48
                            try clear c54
                            try clear c55
                            try clear c56
                            try clear c57
                            try clear c59
                            try clear c60
                            try clear c63
                            try clear c64
                            try clear c65
                            try clear c67
                            try clear c68
                            try clear c71
                            try clear c74
                            try clear c77
                            try clear c88
                            try clear c89
                            try clear c90
                            try clear c94
                            try clear c94b0
                            try clear c96
                            try clear c97
                            try clear c98
                            try clear c99
                            try clear c101
                            try clear c102
                            try clear c105
                            try clear c106
                            try clear c107
                            try clear c109
                            try clear c110
                            try clear c113
                            try clear c116
                            try clear c116b0
                            try clear c117
                            try clear c117b0
                            try clear c117b1
                            try clear c122
                            try clear c123
                            try clear c124
                            try clear c129
                            try clear c130
                            try clear c139
                            try clear c140
                            try clear c141
                            try clear c142
                            try clear c148
                            try clear c149
                            try clear c150
                            try clear c151
                            try clear c152
                            try clear c154
                            try clear c155
                            try clear c156
                            try clear c159
                            try clear c160
                            try clear c161
                            try clear c162
                            try clear c164
                            try clear c165
                            try clear c166
                            try clear hcz100_0
                            try clear hcz100_1
                            try clear hcz100_2
                            try clear hcz100_3
                            try clear hcz100_4
                            try clear hcz100_5
                            try clear hcz103_0
                            try clear hcz103_1
                            try clear hcz103_2
                            try clear hcz103_3
                            try clear hcz103_4
                            try clear hcz103_5
                            try clear hcz108_0
                            try clear hcz108_1
                            try clear hcz108_2
                            try clear hcz108_3
                            try clear hcz108_4
                            try clear hcz108_5
                            try clear hcz111_0
                            try clear hcz111_1
                            try clear hcz111_2
                            try clear hcz111_3
                            try clear hcz111_4
                            try clear hcz111_5
                            try clear hcz125_0
                            try clear hcz125_1
                            try clear hcz125_2
                            try clear hcz125_3
                            try clear hcz125_4
                            try clear hcz125_5
                            try clear hcz127_0
                            try clear hcz127_1
                            try clear hcz127_2
                            try clear hcz127_3
                            try clear hcz127_4
                            try clear hcz127_5
                            try clear hcz131_0
                            try clear hcz131_1
                            try clear hcz131_2
                            try clear hcz131_3
                            try clear hcz131_4
                            try clear hcz131_5
                            try clear hcz143_0
                            try clear hcz143_1
                            try clear hcz143_2
                            try clear hcz143_3
                            try clear hcz143_4
                            try clear hcz143_5
                            try clear hcz153_0
                            try clear hcz153_1
                            try clear hcz153_2
                            try clear hcz153_3
                            try clear hcz153_4
                            try clear hcz153_5
                            try clear hcz157_0
                            try clear hcz157_1
                            try clear hcz157_2
                            try clear hcz157_3
                            try clear hcz157_4
                            try clear hcz157_5
                            try clear hcz163_0
                            try clear hcz163_1
                            try clear hcz163_2
                            try clear hcz163_3
                            try clear hcz163_4
                            try clear hcz163_5
                            try clear hcz167_0
                            try clear hcz167_1
                            try clear hcz167_2
                            try clear hcz167_3
                            try clear hcz167_4
                            try clear hcz167_5
                            try clear hcz18_0
                            try clear hcz18_1
                            try clear hcz18_2
                            try clear hcz18_3
                            try clear hcz18_4
                            try clear hcz18_5
                            try clear hcz20_0
                            try clear hcz20_1
                            try clear hcz20_2
                            try clear hcz20_3
                            try clear hcz20_4
                            try clear hcz20_5
                            try clear hcz29_0
                            try clear hcz29_1
                            try clear hcz29_2
                            try clear hcz29_3
                            try clear hcz29_4
                            try clear hcz29_5
                            try clear hcz33_0
                            try clear hcz33_1
                            try clear hcz33_2
                            try clear hcz33_3
                            try clear hcz33_4
                            try clear hcz33_5
                            try clear hcz38_0
                            try clear hcz38_1
                            try clear hcz38_2
                            try clear hcz38_3
                            try clear hcz38_4
                            try clear hcz38_5
                            try clear hcz42_0
                            try clear hcz42_1
                            try clear hcz42_2
                            try clear hcz42_3
                            try clear hcz42_4
                            try clear hcz42_5
                            try clear hcz49_0
                            try clear hcz49_1
                            try clear hcz49_2
                            try clear hcz49_3
                            try clear hcz49_4
                            try clear hcz49_5
                            try clear hcz58_0
                            try clear hcz58_1
                            try clear hcz58_2
                            try clear hcz58_3
                            try clear hcz58_4
                            try clear hcz58_5
                            try clear hcz61_0
                            try clear hcz61_1
                            try clear hcz61_2
                            try clear hcz61_3
                            try clear hcz61_4
                            try clear hcz61_5
                            try clear hcz66_0
                            try clear hcz66_1
                            try clear hcz66_2
                            try clear hcz66_3
                            try clear hcz66_4
                            try clear hcz66_5
                            try clear hcz69_0
                            try clear hcz69_1
                            try clear hcz69_2
                            try clear hcz69_3
                            try clear hcz69_4
                            try clear hcz69_5
                            try clear hcz8_0
                            try clear hcz8_1
                            try clear hcz8_2
                            try clear hcz8_3
                            try clear hcz8_4
                            try clear hcz8_5
                            try clear hcz91_0
                            try clear hcz91_1
                            try clear hcz91_2
                            try clear hcz91_3
                            try clear hcz91_4
                            try clear hcz91_5
                            try clear hfz100_0
                            try clear hfz100_1
                            try clear hfz100_2
                            try clear hfz100_3
                            try clear hfz100_4
                            try clear hfz100_5
                            try clear hfz103_0
                            try clear hfz103_1
                            try clear hfz103_2
                            try clear hfz103_3
                            try clear hfz103_4
                            try clear hfz103_5
                            try clear hfz108_0
                            try clear hfz108_1
                            try clear hfz108_2
                            try clear hfz108_3
                            try clear hfz108_4
                            try clear hfz108_5
                            try clear hfz111_0
                            try clear hfz111_1
                            try clear hfz111_2
                            try clear hfz111_3
                            try clear hfz111_4
                            try clear hfz111_5
                            try clear hfz125_0
                            try clear hfz125_1
                            try clear hfz125_2
                            try clear hfz125_3
                            try clear hfz125_4
                            try clear hfz125_5
                            try clear hfz127_0
                            try clear hfz127_1
                            try clear hfz127_2
                            try clear hfz127_3
                            try clear hfz127_4
                            try clear hfz127_5
                            try clear hfz131_0
                            try clear hfz131_1
                            try clear hfz131_2
                            try clear hfz131_3
                            try clear hfz131_4
                            try clear hfz131_5
                            try clear hfz143_0
                            try clear hfz143_1
                            try clear hfz143_2
                            try clear hfz143_3
                            try clear hfz143_4
                            try clear hfz143_5
                            try clear hfz153_0
                            try clear hfz153_1
                            try clear hfz153_2
                            try clear hfz153_3
                            try clear hfz153_4
                            try clear hfz153_5
                            try clear hfz157_0
                            try clear hfz157_1
                            try clear hfz157_2
                            try clear hfz157_3
                            try clear hfz157_4
                            try clear hfz157_5
                            try clear hfz163_0
                            try clear hfz163_1
                            try clear hfz163_2
                            try clear hfz163_3
                            try clear hfz163_4
                            try clear hfz163_5
                            try clear hfz167_0
                            try clear hfz167_1
                            try clear hfz167_2
                            try clear hfz167_3
                            try clear hfz167_4
                            try clear hfz167_5
                            try clear hfz18_0
                            try clear hfz18_1
                            try clear hfz18_2
                            try clear hfz18_3
                            try clear hfz18_4
                            try clear hfz18_5
                            try clear hfz20_0
                            try clear hfz20_1
                            try clear hfz20_2
                            try clear hfz20_3
                            try clear hfz20_4
                            try clear hfz20_5
                            try clear hfz29_0
                            try clear hfz29_1
                            try clear hfz29_2
                            try clear hfz29_3
                            try clear hfz29_4
                            try clear hfz29_5
                            try clear hfz33_0
                            try clear hfz33_1
                            try clear hfz33_2
                            try clear hfz33_3
                            try clear hfz33_4
                            try clear hfz33_5
                            try clear hfz38_0
                            try clear hfz38_1
                            try clear hfz38_2
                            try clear hfz38_3
                            try clear hfz38_4
                            try clear hfz38_5
                            try clear hfz42_0
                            try clear hfz42_1
                            try clear hfz42_2
                            try clear hfz42_3
                            try clear hfz42_4
                            try clear hfz42_5
                            try clear hfz49_0
                            try clear hfz49_1
                            try clear hfz49_2
                            try clear hfz49_3
                            try clear hfz49_4
                            try clear hfz49_5
                            try clear hfz58_0
                            try clear hfz58_1
                            try clear hfz58_2
                            try clear hfz58_3
                            try clear hfz58_4
                            try clear hfz58_5
                            try clear hfz61_0
                            try clear hfz61_1
                            try clear hfz61_2
                            try clear hfz61_3
                            try clear hfz61_4
                            try clear hfz61_5
                            try clear hfz66_0
                            try clear hfz66_1
                            try clear hfz66_2
                            try clear hfz66_3
                            try clear hfz66_4
                            try clear hfz66_5
                            try clear hfz69_0
                            try clear hfz69_1
                            try clear hfz69_2
                            try clear hfz69_3
                            try clear hfz69_4
                            try clear hfz69_5
                            try clear hfz8_0
                            try clear hfz8_1
                            try clear hfz8_2
                            try clear hfz8_3
                            try clear hfz8_4
                            try clear hfz8_5
                            try clear hfz91_0
                            try clear hfz91_1
                            try clear hfz91_2
                            try clear hfz91_3
                            try clear hfz91_4
                            try clear hfz91_5
                            try clear p2
                            obtain ⟨kq, x108_120, rfl, HA, HJ120, HO_315002, HO_315003, HO_326002, HO_326003, HO_341002, HO_341003, HO_392002, HO_392003, BK288, BK314, BK325, BK340, BK391, HB⟩ := hcut
                            have hl341002_120 := (Kd.Q_reads' HO_341002.out).1
                            rw [hl341002_120] at HO_341002
                            (try simp only [hl341002_120])
                            (try simp only [hl341002_120] at BK288)
                            (try simp only [hl341002_120] at BK314)
                            (try simp only [hl341002_120] at BK325)
                            (try simp only [hl341002_120] at BK340)
                            (try simp only [hl341002_120] at BK391)
                            (try simp only [hl341002_120] at HO_315002)
                            (try simp only [hl341002_120] at HO_315003)
                            (try simp only [hl341002_120] at HO_326002)
                            (try simp only [hl341002_120] at HO_326003)
                            (try simp only [hl341002_120] at HO_341003)
                            (try simp only [hl341002_120] at HO_392002)
                            (try simp only [hl341002_120] at HO_392003)
                            have hl341003_120 := (Kd.Q_reads' HO_341003.out).1
                            rw [hl341003_120] at HO_341003
                            (try simp only [hl341003_120])
                            (try simp only [hl341003_120] at BK288)
                            (try simp only [hl341003_120] at BK314)
                            (try simp only [hl341003_120] at BK325)
                            (try simp only [hl341003_120] at BK340)
                            (try simp only [hl341003_120] at BK391)
                            (try simp only [hl341003_120] at HO_315002)
                            (try simp only [hl341003_120] at HO_315003)
                            (try simp only [hl341003_120] at HO_326002)
                            (try simp only [hl341003_120] at HO_326003)
                            (try simp only [hl341003_120] at HO_341002)
                            (try simp only [hl341003_120] at HO_392002)
                            (try simp only [hl341003_120] at HO_392003)
                            cases kq with
                            | zero => exact absurd HA.out (by simp [laws_FnExactRunLine.j2])
                            | succ kj120 =>
                              have H := HA.out
                              clear HA
                              simp only [laws_FnExactRunLine.j2] at H
                              by_cases c169 : x108_120 = true
                              · subst c169
                                have H1 : (some false) = some r := by rw [if_pos rfl] at H; exact H
                                clear H
                                have H := H1
                                clear H1
                                exact absurd (hT.out ▸ H) (by simp)
                              · replace c169 := Bool.eq_false_iff.mpr c169
                                subst c169
                                have H1 : ((laws_heldLine.f kj120 t329 t330 t364 t365 t337 t338 1).bind fun t393 => (if t393 < 0 then (some false) else (if t393 = t363 then (some true) else (some false)))) = some r := by rw [if_neg (show ¬ (false = true) by decide)] at H; exact H
                                clear H
                                have H := H1
                                clear H1
                                replace H := Option.bind_eq_some_iff.mp H
                                obtain ⟨t393, A1700, H⟩ := H
                                replace H : (if t393 < 0 then (some false) else (if t393 = t363 then (some true) else (some false))) = some r := H
                                have A170 := Aside0.mk A1700
                                clear A1700
                                by_cases c171 : t393 < 0
                                · rw [if_pos c171] at H
                                  have c171b0 : decide (t393 < 0) = true := decide_eq_true c171
                                  clear c171
                                  exact absurd (hT.out ▸ H) (by simp)
                                · rw [if_neg c171] at H
                                  have c171b0 : decide (t393 < 0) = false := decide_eq_false c171
                                  clear c171
                                  by_cases c172 : t393 = t363
                                  · rw [if_pos c172] at H
                                    have c172b0 : (t393 == t363) = true := beq_iff_eq.mpr c172
                                    have c172b1 : (t393 != t363) = false := bne_eq_false_iff_eq.mpr c172
                                    clear c172
                                    obtain rfl := Option.some.inj H
                                    have hnb173 := NB340_288.out
                                    have hnc173 := NB288_340.out
                                    have hnb174 := NB340_314.out
                                    have hnc174 := NB314_340.out
                                    have hnb175 := NB340_325.out
                                    have hnc175 := NB325_340.out
                                    have hnb176 := NB340_391.out
                                    have hnc176 := NB391_340.out
                                    obtain ⟨hcz177_0, hcz177_1, hcz177_2, hcz177_3, hcz177_4, hcz177_5, hfz177_0, hfz177_1, hfz177_2, hfz177_3, hfz177_4, hfz177_5⟩ := Fix.d6 BK340.out
                                    go_wp2_with (first | ((with_reducible refine gate_callee (f := 21) rfl ?_); refine goesL_ (some 111) rfl rfl Try.func21 (by kernel_rfl) rfl #[.agg #[.int .i64 t329, .int .i64 t330, .slice Ao50 t364.length co50, .slice Ao51 t365.length co51, .int .i64 t337, .bool t338], .int .i64 1] rfl Fix.uA ?_; (with_reducible refine (laws_heldLine.calls kj120 t329 t330 _ _ t364 _ _ t365 t337 t338 1 t393 _ ?side1 ?side2 ?side3 ?side4 A170.out).mono ?_); (case side1 => exact Fix.uC (Kd.Q_reads' HO_341002.out).2.2); (case side2 => exact (Kd.Q_reads' HO_341002.out).2.1); (case side3 => exact Fix.uC (Kd.Q_reads' HO_341003.out).2.2); (case side4 => exact (Kd.Q_reads' HO_341003.out).2.1); rintro e w178 ⟨rfl, hb⟩; refine ⟨_, rfl, ?_⟩; have n0_ := Aside0.mk (Kd.Q_below (Fix.uQ HO_315002.out) hb); have n1_ := Aside0.mk (Kd.R_below (Fix.uR HO_315003.out) hb); have n2_ := Aside0.mk (Kd.Q_below (Fix.uQ HO_326002.out) hb); have n3_ := Aside0.mk (Kd.Q_below (Fix.uQ HO_326003.out) hb); have n4_ := Aside0.mk (Kd.Q_below (Fix.uQ HO_341002.out) hb); have n5_ := Aside0.mk (Kd.Q_below (Fix.uQ HO_341003.out) hb); have n6_ := Aside0.mk (Kd.Q_below (Fix.uQ HO_392002.out) hb); have n7_ := Aside0.mk (Kd.R_below (Fix.uR HO_392003.out) hb); have n8_ := Aside0.mk (blk_below (g := gb288) (o := .cells #[.int .i64 a0_0, .int .i64 a0_1, .slice A0_2 l0_2.length c0_2, .slice A0_3 l0_3.length c0_3, .int .i64 a0_4, .bool a0_5] 38 (0, 0)) (Fix.uK BK288.out) hb); have n9_ := Aside0.mk (blk_below (g := gb314) (o := .cells #[.int .i64 t303, .int .i64 t304, .slice Ao30 t305.length co30, .slice Ao31 t308.length co31, .int .i64 t311, .bool t312] 28 (0, 0)) (Fix.uK BK314.out) hb); have n10_ := Aside0.mk (blk_below (g := gb325) (o := .cells #[.int .i64 t315, .int .i64 t316, .slice Ao39 t358.length co39, .slice Ao40 t359.length co40, .int .i64 t323, .bool t324] 28 (0, 0)) (Fix.uK BK325.out) hb); have n11_ := Aside0.mk (blk_below (g := gb340) (o := .cells #[.int .i64 t329, .int .i64 t330, .slice Ao50 t364.length co50, .slice Ao51 t365.length co51, .int .i64 t337, .bool t338] 28 (0, 0)) (Fix.uK BK340.out) hb); have n12_ := Aside0.mk (blk_below (g := gb391) (o := .cells #[.int .i64 t380, .int .i64 t381, .slice Ao144 t382.length co144, .slice Ao145 t385.length co145, .int .i64 t388, .bool t389] 28 (0, 0)) (Fix.uK BK391.out) hb); have n13_ := Aside0.mk (below_step Fix.uB hb); clear HO_315002; clear HO_315003; clear HO_326002; clear HO_326003; clear HO_341002; clear HO_341003; clear HO_392002; clear HO_392003; clear BK288; clear BK314; clear BK325; clear BK340; clear BK391; clear HB; have HO_315002 := n0_; have HO_315003 := n1_; have HO_326002 := n2_; have HO_326003 := n3_; have HO_341002 := n4_; have HO_341003 := n5_; have HO_392002 := n6_; have HO_392003 := n7_; have BK288 := n8_; have BK314 := n9_; have BK325 := n10_; have BK340 := n11_; have BK391 := n12_; have HB := n13_; clear n0_ n1_ n2_ n3_ n4_ n5_ n6_ n7_ n8_ n9_ n10_ n11_ n12_ n13_; (try clear hb); (try clear hb2); (try clear hk); (try clear hi)))
                                    go_ret
                                    exact ⟨by first | rfl | (simp [errW_none, errW_some] <;> rfl) | (simp [*, errW_none, errW_some] <;> rfl), Fix.uB⟩
                                  · rw [if_neg c172] at H
                                    have c172b0 : (t393 == t363) = false := beq_eq_false_iff_ne.mpr c172
                                    have c172b1 : (t393 != t363) = true := bne_iff_ne.mpr c172
                                    exact absurd (hT.out ▸ H) (by simp)
                        · rw [if_neg c117] at H
                          have c117b0 : (t366 == t363) = false := beq_eq_false_iff_ne.mpr c117
                          have c117b1 : (t366 != t363) = true := bne_iff_ne.mpr c117
                          exact absurd (hT.out ▸ H) (by simp)
              · replace c77 := Bool.eq_false_iff.mpr c77
                subst c77
                have H1 : (some false) = some r := by rw [if_neg (show ¬ (false = true) by decide)] at H; exact H
                clear H
                have H := H1
                clear H1
                exact absurd (hT.out ▸ H) (by simp)
            · replace c74 := Bool.eq_false_iff.mpr c74
              subst c74
              have H1 : (some false) = some r := by rw [if_neg (show ¬ (false = true) by decide)] at H; exact H
              clear H
              have H := H1
              clear H1
              exact absurd (hT.out ▸ H) (by simp)

end Go.Proofs.Ytomhhbnnmjgcgaa.PFnExactRunLine
