/- FnFinishes: the functions that the law reaches, each as a plain Lean function, and that a call does what it says. Made by a program of this work (wip/mp.py) out of the kit's print. No condition. -/
import Derived.Test.YtjkhjfladhppkaaQFnFinishes0
import Derived.Test.YtjkhjfladhppkaaQFnFinishes1
namespace Go.Proofs.Ytjkhjfladhppkaa.PFnFinishes
open Go.RowKit Go.Proofs.YtjkhjfladhppkaaW.PrintWords Go.Proofs.YtjkhjfladhppkaaW.PrintLast Go.Proofs.YtjkhjfladhppkaaW.PrintMore
attribute [local go_sem] max2_int min2_int max_two min_two max_three min_three max_four min_four
attribute [local go_sem] Fix.isSome_setCell
set_option linter.unusedVariables false
set_option linter.unusedSimpArgs false

/-! ### laws_FnFinishes: function 11 -/
mutual
def laws_FnFinishes.j0 : Nat → Int → Int → Bool → List Int → List Int → Bool → Option (Bool)
  | 0, _, _, _, _, _, _ => none
  | k + 1, x4, x5, x6, x7, x8, x56 => if x56 = true then (some false) else (laws_FnFinishes.l0 k x4 x5 x6 x7 x8 0)
def laws_FnFinishes.l0 : Nat → Int → Int → Bool → List Int → List Int → Int → Option (Bool)
  | 0, _, _, _, _, _, _ => none
  | k + 1, x4, x5, x6, x7, x8, x9 => if x9 < x4 then (if 0 ≤ x9 then (if x9 < (x8.length : Int) then (if (rd x8 x9) = x5 then (laws_FnFinishes.l0 k x4 x5 x6 x7 x8 (wrap64 (x9 + 1))) else (some false)) else (none)) else (none)) else ((impl_CountStep.f k x7 1).bind fun t162 => (if x6 = true then (if x5 ≥ 2 then (if ((t162 == x4) == (decide (x5 ≤ 10))) = true then ((impl_CountStep.f k x7 2).bind fun t163 => (some ((wrap64 (t162 + t163)) == x4))) else (some false)) else (if ((t162 == x4) == false) = true then ((impl_CountStep.f k x7 2).bind fun t164 => (some ((wrap64 (t162 + t164)) == x4))) else (some false))) else (if ((t162 == x4) == false) = true then ((impl_CountStep.f k x7 2).bind fun t165 => (some ((wrap64 (t162 + t165)) == x4))) else (some false))))
end
def laws_FnFinishes.f (k : Nat) (l0 : List Int) : Option (Bool) := (laws_big.f l0).bind fun t147 => (if t147 = true then (some true) else ((spec_DrawPlaces.f k l0).bind fun t148 => (if 0 < (t148.length : Int) then (if 1 < (t148.length : Int) then (if 2 < (t148.length : Int) then ((impl_FinishSteps.f k (wrap64 (1 + (Int.tmod (rd t148 0) 20))) (wrap64 (1 + (Int.tmod (rd t148 1) 64))) ((Int.tmod (rd t148 2) 2) == 0)).bind fun t154 => ((impl_SplitCopies.f k t154).bind fun t157 => (if (t154.length : Int) = (wrap64 ((wrap64 (1 + (Int.tmod (rd t148 0) 20))) * (wrap64 ((wrap64 (1 + (Int.tmod (rd t148 1) 64))) + 1)))) then (if (t157.length : Int) = (wrap64 (1 + (Int.tmod (rd t148 0) 20))) then ((impl_CountStep.f k t154 0).bind fun t160 => (laws_FnFinishes.j0 k (wrap64 (1 + (Int.tmod (rd t148 0) 20))) (wrap64 (1 + (Int.tmod (rd t148 1) 64))) ((Int.tmod (rd t148 2) 2) == 0) t154 t157 (t160 != (wrap64 ((wrap64 (1 + (Int.tmod (rd t148 0) 20))) * (wrap64 (1 + (Int.tmod (rd t148 1) 64)))))))) else (laws_FnFinishes.j0 k (wrap64 (1 + (Int.tmod (rd t148 0) 20))) (wrap64 (1 + (Int.tmod (rd t148 1) 64))) ((Int.tmod (rd t148 2) 2) == 0) t154 t157 true)) else (laws_FnFinishes.j0 k (wrap64 (1 + (Int.tmod (rd t148 0) 20))) (wrap64 (1 + (Int.tmod (rd t148 1) 64))) ((Int.tmod (rd t148 2) 2) == 0) t154 t157 true)))) else (none)) else (none)) else (none))))
theorem laws_FnFinishes.mono_l : ∀ k, (∀ y0 y1 y2 y3 y4 y5, LeO (laws_FnFinishes.j0 k y0 y1 y2 y3 y4 y5) (laws_FnFinishes.j0 (k + 1) y0 y1 y2 y3 y4 y5)) ∧ (∀ y0 y1 y2 y3 y4 y5, LeO (laws_FnFinishes.l0 k y0 y1 y2 y3 y4 y5) (laws_FnFinishes.l0 (k + 1) y0 y1 y2 y3 y4 y5))
  | 0 => ⟨fun _ _ _ _ _ _ r h => by simp [laws_FnFinishes.j0] at h, fun _ _ _ _ _ _ r h => by simp [laws_FnFinishes.l0] at h⟩
  | k + 1 => by
    obtain ⟨ih0, ih1⟩ := laws_FnFinishes.mono_l k
    refine ⟨?_, ?_⟩
    · intro y0 y1 y2 y3 y4 y5
      unfold laws_FnFinishes.j0
      repeat' first
      | (with_reducible exact ih0 _ _ _ _ _ _)
      | (with_reducible exact ih1 _ _ _ _ _ _)
      | (with_reducible exact impl_CountStep.mono _ _ _)
      | (with_reducible exact impl_FinishSteps.mono _ _ _ _)
      | (with_reducible exact impl_SplitCopies.mono _ _)
      | (with_reducible exact spec_DrawPlaces.mono _ _)
      | (with_reducible exact LeO.refl _)
      | (with_reducible exact LeO.none _)
      | (with_reducible refine LeO.ite ?_ ?_)
      | (with_reducible refine LeO.bind ?_ (fun _ => ?_))
      | exact ih0 _ _ _ _ _ _
      | exact ih1 _ _ _ _ _ _
      | exact impl_CountStep.mono _ _ _
      | exact impl_FinishSteps.mono _ _ _ _
      | exact impl_SplitCopies.mono _ _
      | exact spec_DrawPlaces.mono _ _
      | exact LeO.none _
      | refine LeO.ite ?_ ?_
      | refine LeO.bind ?_ (fun _ => ?_)
    · intro y0 y1 y2 y3 y4 y5
      unfold laws_FnFinishes.l0
      repeat' first
      | (with_reducible exact ih0 _ _ _ _ _ _)
      | (with_reducible exact ih1 _ _ _ _ _ _)
      | (with_reducible exact impl_CountStep.mono _ _ _)
      | (with_reducible exact impl_FinishSteps.mono _ _ _ _)
      | (with_reducible exact impl_SplitCopies.mono _ _)
      | (with_reducible exact spec_DrawPlaces.mono _ _)
      | (with_reducible exact LeO.refl _)
      | (with_reducible exact LeO.none _)
      | (with_reducible refine LeO.ite ?_ ?_)
      | (with_reducible refine LeO.bind ?_ (fun _ => ?_))
      | exact ih0 _ _ _ _ _ _
      | exact ih1 _ _ _ _ _ _
      | exact impl_CountStep.mono _ _ _
      | exact impl_FinishSteps.mono _ _ _ _
      | exact impl_SplitCopies.mono _ _
      | exact spec_DrawPlaces.mono _ _
      | exact LeO.none _
      | refine LeO.ite ?_ ?_
      | refine LeO.bind ?_ (fun _ => ?_)
theorem laws_FnFinishes.mono : ∀ a0 k, LeO (laws_FnFinishes.f k a0) (laws_FnFinishes.f (k + 1) a0) := by
  intro a0 k
  obtain ⟨ih0, ih1⟩ := laws_FnFinishes.mono_l k
  unfold laws_FnFinishes.f
  repeat' first
      | (with_reducible exact ih0 _ _ _ _ _ _)
      | (with_reducible exact ih1 _ _ _ _ _ _)
      | (with_reducible exact impl_CountStep.mono _ _ _)
      | (with_reducible exact impl_FinishSteps.mono _ _ _ _)
      | (with_reducible exact impl_SplitCopies.mono _ _)
      | (with_reducible exact spec_DrawPlaces.mono _ _)
      | (with_reducible exact LeO.refl _)
      | (with_reducible exact LeO.none _)
      | (with_reducible refine LeO.ite ?_ ?_)
      | (with_reducible refine LeO.bind ?_ (fun _ => ?_))
      | exact ih0 _ _ _ _ _ _
      | exact ih1 _ _ _ _ _ _
      | exact impl_CountStep.mono _ _ _
      | exact impl_FinishSteps.mono _ _ _ _
      | exact impl_SplitCopies.mono _ _
      | exact spec_DrawPlaces.mono _ _
      | exact LeO.none _
      | refine LeO.ite ?_ ?_
      | refine LeO.bind ?_ (fun _ => ?_)
set_option maxHeartbeats 8000000 in
set_option maxRecDepth 100000 in
theorem laws_FnFinishes.calls (k : Nat) (A0 : Option Addr) (c0 : Nat) (l0 : List Int) (r : Bool) (w : World) (hr0 : Kd.C (Kd.int .u8) w A0 l0.length l0) (hc0 : l0.length ≤ c0) (hT : r = true) (h : laws_FnFinishes.f k l0 = some r) :
    Calls Try.prog 11 #[.slice A0 l0.length c0] w fun e w' => e = .returned (.bool r) ∧ Below w.heap.size w w' := by
  have HR0 := Aside0.mk hr0
  have HC0 := Aside0.mk hc0
  clear hr0 hc0
  replace hT := Aside0.mk hT
  have HB := Aside0.mk (Below.refl w.heap.size w)
  have H : ((laws_big.f l0).bind fun t147 => (if t147 = true then (some true) else ((spec_DrawPlaces.f k l0).bind fun t148 => (if 0 < (t148.length : Int) then (if 1 < (t148.length : Int) then (if 2 < (t148.length : Int) then ((impl_FinishSteps.f k (wrap64 (1 + (Int.tmod (rd t148 0) 20))) (wrap64 (1 + (Int.tmod (rd t148 1) 64))) ((Int.tmod (rd t148 2) 2) == 0)).bind fun t154 => ((impl_SplitCopies.f k t154).bind fun t157 => (if (t154.length : Int) = (wrap64 ((wrap64 (1 + (Int.tmod (rd t148 0) 20))) * (wrap64 ((wrap64 (1 + (Int.tmod (rd t148 1) 64))) + 1)))) then (if (t157.length : Int) = (wrap64 (1 + (Int.tmod (rd t148 0) 20))) then ((impl_CountStep.f k t154 0).bind fun t160 => (laws_FnFinishes.j0 k (wrap64 (1 + (Int.tmod (rd t148 0) 20))) (wrap64 (1 + (Int.tmod (rd t148 1) 64))) ((Int.tmod (rd t148 2) 2) == 0) t154 t157 (t160 != (wrap64 ((wrap64 (1 + (Int.tmod (rd t148 0) 20))) * (wrap64 (1 + (Int.tmod (rd t148 1) 64)))))))) else (laws_FnFinishes.j0 k (wrap64 (1 + (Int.tmod (rd t148 0) 20))) (wrap64 (1 + (Int.tmod (rd t148 1) 64))) ((Int.tmod (rd t148 2) 2) == 0) t154 t157 true)) else (laws_FnFinishes.j0 k (wrap64 (1 + (Int.tmod (rd t148 0) 20))) (wrap64 (1 + (Int.tmod (rd t148 1) 64))) ((Int.tmod (rd t148 2) 2) == 0) t154 t157 true)))) else (none)) else (none)) else (none))))) = some r := h
  clear h
  replace H := Option.bind_eq_some_iff.mp H
  obtain ⟨t147, A20, H⟩ := H
  replace H : (if t147 = true then (some true) else ((spec_DrawPlaces.f k l0).bind fun t148 => (if 0 < (t148.length : Int) then (if 1 < (t148.length : Int) then (if 2 < (t148.length : Int) then ((impl_FinishSteps.f k (wrap64 (1 + (Int.tmod (rd t148 0) 20))) (wrap64 (1 + (Int.tmod (rd t148 1) 64))) ((Int.tmod (rd t148 2) 2) == 0)).bind fun t154 => ((impl_SplitCopies.f k t154).bind fun t157 => (if (t154.length : Int) = (wrap64 ((wrap64 (1 + (Int.tmod (rd t148 0) 20))) * (wrap64 ((wrap64 (1 + (Int.tmod (rd t148 1) 64))) + 1)))) then (if (t157.length : Int) = (wrap64 (1 + (Int.tmod (rd t148 0) 20))) then ((impl_CountStep.f k t154 0).bind fun t160 => (laws_FnFinishes.j0 k (wrap64 (1 + (Int.tmod (rd t148 0) 20))) (wrap64 (1 + (Int.tmod (rd t148 1) 64))) ((Int.tmod (rd t148 2) 2) == 0) t154 t157 (t160 != (wrap64 ((wrap64 (1 + (Int.tmod (rd t148 0) 20))) * (wrap64 (1 + (Int.tmod (rd t148 1) 64)))))))) else (laws_FnFinishes.j0 k (wrap64 (1 + (Int.tmod (rd t148 0) 20))) (wrap64 (1 + (Int.tmod (rd t148 1) 64))) ((Int.tmod (rd t148 2) 2) == 0) t154 t157 true)) else (laws_FnFinishes.j0 k (wrap64 (1 + (Int.tmod (rd t148 0) 20))) (wrap64 (1 + (Int.tmod (rd t148 1) 64))) ((Int.tmod (rd t148 2) 2) == 0) t154 t157 true)))) else (none)) else (none)) else (none)))) = some r := H
  have A2 := Aside0.mk A20
  clear A20
  by_cases c3 : t147 = true
  · subst c3
    have H1 : (some true) = some r := by rw [if_pos rfl] at H; exact H
    clear H
    have H := H1
    clear H1
    obtain rfl := Option.some.inj H
    go_enter Try.func11, Try.ntmps11
    go_wp2_with (first | ((with_reducible refine gate_callee (f := 35) rfl ?_); refine goesL_ (some 12) rfl rfl Try.func35 (by kernel_rfl) rfl #[.slice A0 l0.length c0] rfl (by (try simp only [List.map_toArray, List.map_cons, List.map_nil]); first | done | rfl | (simp only [List.length_drop, List.length_take]; rfl)) ?_; (with_reducible refine (laws_big.calls _ _ l0 true _ ?side1 ?side2 A2.out).mono ?_); (case side1 => repeat (first | exact HR0.out | (with_reducible refine Kd.C_alloc ?_ _) | (with_reducible refine Kd.C_drewN ?_ _) | (with_reducible refine Kd.C_drew ?_))); (case side2 => exact HC0.out); rintro e w' ⟨rfl, ⟨nd, rfl⟩⟩; refine ⟨_, rfl, ?_⟩))
    go_ret
    exact ⟨by first | rfl | (simp [errW_none, errW_some] <;> rfl) | (simp [*, errW_none, errW_some] <;> rfl), by repeat (first | (with_reducible first | exact HB.out | apply below_alloc | apply pw_below_drewN | apply below_drew1) | exact HB.out)⟩
  · replace c3 := Bool.eq_false_iff.mpr c3
    subst c3
    have H1 : ((spec_DrawPlaces.f k l0).bind fun t148 => (if 0 < (t148.length : Int) then (if 1 < (t148.length : Int) then (if 2 < (t148.length : Int) then ((impl_FinishSteps.f k (wrap64 (1 + (Int.tmod (rd t148 0) 20))) (wrap64 (1 + (Int.tmod (rd t148 1) 64))) ((Int.tmod (rd t148 2) 2) == 0)).bind fun t154 => ((impl_SplitCopies.f k t154).bind fun t157 => (if (t154.length : Int) = (wrap64 ((wrap64 (1 + (Int.tmod (rd t148 0) 20))) * (wrap64 ((wrap64 (1 + (Int.tmod (rd t148 1) 64))) + 1)))) then (if (t157.length : Int) = (wrap64 (1 + (Int.tmod (rd t148 0) 20))) then ((impl_CountStep.f k t154 0).bind fun t160 => (laws_FnFinishes.j0 k (wrap64 (1 + (Int.tmod (rd t148 0) 20))) (wrap64 (1 + (Int.tmod (rd t148 1) 64))) ((Int.tmod (rd t148 2) 2) == 0) t154 t157 (t160 != (wrap64 ((wrap64 (1 + (Int.tmod (rd t148 0) 20))) * (wrap64 (1 + (Int.tmod (rd t148 1) 64)))))))) else (laws_FnFinishes.j0 k (wrap64 (1 + (Int.tmod (rd t148 0) 20))) (wrap64 (1 + (Int.tmod (rd t148 1) 64))) ((Int.tmod (rd t148 2) 2) == 0) t154 t157 true)) else (laws_FnFinishes.j0 k (wrap64 (1 + (Int.tmod (rd t148 0) 20))) (wrap64 (1 + (Int.tmod (rd t148 1) 64))) ((Int.tmod (rd t148 2) 2) == 0) t154 t157 true)))) else (none)) else (none)) else (none))) = some r := by rw [if_neg (show ¬ (false = true) by decide)] at H; exact H
    clear H
    have H := H1
    clear H1
    replace H := Option.bind_eq_some_iff.mp H
    obtain ⟨t148, A40, H⟩ := H
    replace H : (if 0 < (t148.length : Int) then (if 1 < (t148.length : Int) then (if 2 < (t148.length : Int) then ((impl_FinishSteps.f k (wrap64 (1 + (Int.tmod (rd t148 0) 20))) (wrap64 (1 + (Int.tmod (rd t148 1) 64))) ((Int.tmod (rd t148 2) 2) == 0)).bind fun t154 => ((impl_SplitCopies.f k t154).bind fun t157 => (if (t154.length : Int) = (wrap64 ((wrap64 (1 + (Int.tmod (rd t148 0) 20))) * (wrap64 ((wrap64 (1 + (Int.tmod (rd t148 1) 64))) + 1)))) then (if (t157.length : Int) = (wrap64 (1 + (Int.tmod (rd t148 0) 20))) then ((impl_CountStep.f k t154 0).bind fun t160 => (laws_FnFinishes.j0 k (wrap64 (1 + (Int.tmod (rd t148 0) 20))) (wrap64 (1 + (Int.tmod (rd t148 1) 64))) ((Int.tmod (rd t148 2) 2) == 0) t154 t157 (t160 != (wrap64 ((wrap64 (1 + (Int.tmod (rd t148 0) 20))) * (wrap64 (1 + (Int.tmod (rd t148 1) 64)))))))) else (laws_FnFinishes.j0 k (wrap64 (1 + (Int.tmod (rd t148 0) 20))) (wrap64 (1 + (Int.tmod (rd t148 1) 64))) ((Int.tmod (rd t148 2) 2) == 0) t154 t157 true)) else (laws_FnFinishes.j0 k (wrap64 (1 + (Int.tmod (rd t148 0) 20))) (wrap64 (1 + (Int.tmod (rd t148 1) 64))) ((Int.tmod (rd t148 2) 2) == 0) t154 t157 true)))) else (none)) else (none)) else (none)) = some r := H
    have A4 := Aside0.mk A40
    clear A40
    by_cases c5 : 0 < (t148.length : Int)
    · rw [if_pos c5] at H
      have c5b0 : decide (0 < (t148.length : Int)) = true := decide_eq_true c5
      have c5b1 : decide (0 < t148.length) = true := decide_eq_true (by omega)
      clear c5
      by_cases c6 : 1 < (t148.length : Int)
      · rw [if_pos c6] at H
        have c6b0 : decide (1 < (t148.length : Int)) = true := decide_eq_true c6
        have c6b1 : decide (1 < t148.length) = true := decide_eq_true (by omega)
        clear c6
        by_cases c7 : 2 < (t148.length : Int)
        · rw [if_pos c7] at H
          have c7b0 : decide (2 < (t148.length : Int)) = true := decide_eq_true c7
          have c7b1 : decide (2 < t148.length) = true := decide_eq_true (by omega)
          clear c7
          replace H := Option.bind_eq_some_iff.mp H
          obtain ⟨t154, A80, H⟩ := H
          replace H : ((impl_SplitCopies.f k t154).bind fun t157 => (if (t154.length : Int) = (wrap64 ((wrap64 (1 + (Int.tmod (rd t148 0) 20))) * (wrap64 ((wrap64 (1 + (Int.tmod (rd t148 1) 64))) + 1)))) then (if (t157.length : Int) = (wrap64 (1 + (Int.tmod (rd t148 0) 20))) then ((impl_CountStep.f k t154 0).bind fun t160 => (laws_FnFinishes.j0 k (wrap64 (1 + (Int.tmod (rd t148 0) 20))) (wrap64 (1 + (Int.tmod (rd t148 1) 64))) ((Int.tmod (rd t148 2) 2) == 0) t154 t157 (t160 != (wrap64 ((wrap64 (1 + (Int.tmod (rd t148 0) 20))) * (wrap64 (1 + (Int.tmod (rd t148 1) 64)))))))) else (laws_FnFinishes.j0 k (wrap64 (1 + (Int.tmod (rd t148 0) 20))) (wrap64 (1 + (Int.tmod (rd t148 1) 64))) ((Int.tmod (rd t148 2) 2) == 0) t154 t157 true)) else (laws_FnFinishes.j0 k (wrap64 (1 + (Int.tmod (rd t148 0) 20))) (wrap64 (1 + (Int.tmod (rd t148 1) 64))) ((Int.tmod (rd t148 2) 2) == 0) t154 t157 true))) = some r := H
          have A8 := Aside0.mk A80
          clear A80
          replace H := Option.bind_eq_some_iff.mp H
          obtain ⟨t157, A90, H⟩ := H
          replace H : (if (t154.length : Int) = (wrap64 ((wrap64 (1 + (Int.tmod (rd t148 0) 20))) * (wrap64 ((wrap64 (1 + (Int.tmod (rd t148 1) 64))) + 1)))) then (if (t157.length : Int) = (wrap64 (1 + (Int.tmod (rd t148 0) 20))) then ((impl_CountStep.f k t154 0).bind fun t160 => (laws_FnFinishes.j0 k (wrap64 (1 + (Int.tmod (rd t148 0) 20))) (wrap64 (1 + (Int.tmod (rd t148 1) 64))) ((Int.tmod (rd t148 2) 2) == 0) t154 t157 (t160 != (wrap64 ((wrap64 (1 + (Int.tmod (rd t148 0) 20))) * (wrap64 (1 + (Int.tmod (rd t148 1) 64)))))))) else (laws_FnFinishes.j0 k (wrap64 (1 + (Int.tmod (rd t148 0) 20))) (wrap64 (1 + (Int.tmod (rd t148 1) 64))) ((Int.tmod (rd t148 2) 2) == 0) t154 t157 true)) else (laws_FnFinishes.j0 k (wrap64 (1 + (Int.tmod (rd t148 0) 20))) (wrap64 (1 + (Int.tmod (rd t148 1) 64))) ((Int.tmod (rd t148 2) 2) == 0) t154 t157 true)) = some r := H
          have A9 := Aside0.mk A90
          clear A90
          have HC10 := Aside0.mk H
          clear H
          go_enter Try.func11, Try.ntmps11
          go_upto_region 9 with (first | ((with_reducible refine gate_callee (f := 35) rfl ?_); refine goesL_ (some 12) rfl rfl Try.func35 (by kernel_rfl) rfl #[.slice A0 l0.length c0] rfl (by (try simp only [List.map_toArray, List.map_cons, List.map_nil]); first | done | rfl | (simp only [List.length_drop, List.length_take]; rfl)) ?_; (with_reducible refine (laws_big.calls _ _ l0 false _ ?side1 ?side2 A2.out).mono ?_); (case side1 => repeat (first | exact HR0.out | (with_reducible refine Kd.C_alloc ?_ _) | (with_reducible refine Kd.C_drewN ?_ _) | (with_reducible refine Kd.C_drew ?_))); (case side2 => exact HC0.out); rintro e w' ⟨rfl, ⟨nd, rfl⟩⟩; refine ⟨_, rfl, ?_⟩) | ((with_reducible refine gate_callee (f := 36) rfl ?_); refine goesL_ (some 14) rfl rfl Try.func36 (by kernel_rfl) rfl #[.slice A0 l0.length c0] rfl (by (try simp only [List.map_toArray, List.map_cons, List.map_nil]); first | done | rfl | (simp only [List.length_drop, List.length_take]; rfl)) ?_; (with_reducible refine (spec_DrawPlaces.calls k _ _ l0 t148 _ ?side1 ?side2 A4.out).mono ?_); (case side1 => repeat (first | exact HR0.out | (with_reducible refine Kd.C_alloc ?_ _) | (with_reducible refine Kd.C_drewN ?_ _) | (with_reducible refine Kd.C_drew ?_))); (case side2 => exact HC0.out); rintro e w11 ⟨v149, rfl, ho0, hb⟩; refine ⟨_, rfl, ?_⟩; have n0_ := Aside0.mk (Kd.R_lower ho0 (below_size (by repeat (first | (with_reducible first | exact HB.out | apply below_alloc | apply pw_below_drewN | apply below_drew1) | exact HB.out)))); have n1_ := Aside0.mk (below_step (by repeat (first | (with_reducible first | exact HB.out | apply below_alloc | apply pw_below_drewN | apply below_drew1) | exact HB.out)) hb); clear HB; have HO150 := n0_; have HB := n1_; clear n0_ n1_; (try clear hb); (try clear hb2); (try clear hk); (try clear hi); (try clear ho0); obtain ⟨Ao12, co12, eo12⟩ := Kd.R_slice HO150.out; subst eo12; have p151 : 0 ≤ (0 : Int) := (by omega); have q151 : 0 < (t148.length : Int) := of_decide_eq_true (by first | (with_reducible assumption) | assumption); obtain ⟨ad151, e151, hx151_0⟩ := Kd.at_int (Kd.R_reads' HO150.out).2.2 0 p151 q151; cases e151; have qi151 : (0 < t148.length) = True := eq_true (by omega); (try rw [show ((0 : Int)).toNat = 0 from rfl] at hx151_0); (try rw [Addr.add_zero'] at hx151_0); replace p151 := eq_true p151; replace q151 := eq_true q151; have p152 : 0 ≤ (1 : Int) := (by omega); have q152 : 1 < (t148.length : Int) := of_decide_eq_true (by first | (with_reducible assumption) | assumption); obtain ⟨ad152, e152, hx152_0⟩ := Kd.at_int (Kd.R_reads' HO150.out).2.2 1 p152 q152; obtain rfl : ad151 = ad152 := (by injection e152); (try simp only [show (1 : Int).toNat = 1 from rfl, Nat.reduceMul, Nat.reduceEqDiff, Go.Addr.add, ↓reduceIte] at hx152_0); have qi152 : (1 < t148.length) = True := eq_true (by omega); (try rw [show ((1 : Int)).toNat = 1 from rfl] at hx152_0); replace p152 := eq_true p152; replace q152 := eq_true q152; have p153 : 0 ≤ (2 : Int) := (by omega); have q153 : 2 < (t148.length : Int) := of_decide_eq_true (by first | (with_reducible assumption) | assumption); obtain ⟨ad153, e153, hx153_0⟩ := Kd.at_int (Kd.R_reads' HO150.out).2.2 2 p153 q153; obtain rfl : ad151 = ad153 := (by injection e153); (try simp only [show (2 : Int).toNat = 2 from rfl, Nat.reduceMul, Nat.reduceEqDiff, Go.Addr.add, ↓reduceIte] at hx153_0); have qi153 : (2 < t148.length) = True := eq_true (by omega); (try rw [show ((2 : Int)).toNat = 2 from rfl] at hx153_0); replace p153 := eq_true p153; replace q153 := eq_true q153) | ((with_reducible refine gate_callee (f := 32) rfl ?_); refine goesL_ (some 33) rfl rfl Try.func32 (by kernel_rfl) rfl #[.int .i64 (wrap64 (1 + (Int.tmod (rd t148 0) 20))), .int .i64 (wrap64 (1 + (Int.tmod (rd t148 1) 64))), .bool ((Int.tmod (rd t148 2) 2) == 0)] rfl (by (try simp only [List.map_toArray, List.map_cons, List.map_nil]); first | done | rfl | (simp only [List.length_drop, List.length_take]; rfl)) ?_; (with_reducible refine (impl_FinishSteps.calls k (wrap64 (1 + (Int.tmod (rd t148 0) 20))) (wrap64 (1 + (Int.tmod (rd t148 1) 64))) ((Int.tmod (rd t148 2) 2) == 0) t154 _ A8.out).mono ?_); rintro e w13 ⟨v155, rfl, ho0, hb⟩; refine ⟨_, rfl, ?_⟩; have n0_ := Aside0.mk (Kd.R_elder' (by (with_reducible repeat (first | apply Kd.R_alloc | apply Kd.R_drewN | apply Kd.R_drew)); exact HO150.out) (Kd.R_base ho0) hb); have n1_ := Aside0.mk (Kd.R_lower (Kd.R_new' ho0 (Kd.R_lt (by (with_reducible repeat (first | apply Kd.R_alloc | apply Kd.R_drewN | apply Kd.R_drew)); exact HO150.out))) (below_size (by repeat (first | (with_reducible first | exact HB.out | apply below_alloc | apply pw_below_drewN | apply below_drew1) | exact HB.out)))); have n2_ := Aside0.mk (below_step (by repeat (first | (with_reducible first | exact HB.out | apply below_alloc | apply pw_below_drewN | apply below_drew1) | exact HB.out)) hb); clear HO150; clear HB; have HO150 := n0_; have HO156 := n1_; have HB := n2_; clear n0_ n1_ n2_; (try clear hb); (try clear hb2); (try clear hk); (try clear hi); (try clear ho0); obtain ⟨Ao14, co14, eo14⟩ := Kd.R_slice HO156.out; subst eo14) | ((with_reducible refine gate_callee (f := 28) rfl ?_); refine goesL_ (some 35) rfl rfl Try.func28 (by kernel_rfl) rfl #[.slice Ao14 t154.length co14] rfl (by (try simp only [List.map_toArray, List.map_cons, List.map_nil]); first | done | rfl | (simp only [List.length_drop, List.length_take]; rfl)) ?_; (with_reducible refine (impl_SplitCopies.calls k _ _ t154 t157 _ ?side1 ?side2 A9.out).mono ?_); (case side1 => repeat (first | exact (Kd.R_reads' HO156.out).2.2 | (with_reducible refine Kd.C_alloc ?_ _) | (with_reducible refine Kd.C_drewN ?_ _) | (with_reducible refine Kd.C_drew ?_))); (case side2 => exact (Kd.R_reads' HO156.out).2.1); rintro e w15 ⟨v158, rfl, ho0, hb⟩; refine ⟨_, rfl, ?_⟩; have n0_ := Aside0.mk (Kd.R_elder' (by (with_reducible repeat (first | apply Kd.R_alloc | apply Kd.R_drewN | apply Kd.R_drew)); exact HO150.out) (Kd.R_base ho0) hb); have n1_ := Aside0.mk (Kd.R_elder' (by (with_reducible repeat (first | apply Kd.R_alloc | apply Kd.R_drewN | apply Kd.R_drew)); exact HO156.out) (Kd.R_base ho0) hb); have n2_ := Aside0.mk (Kd.R_lower (Kd.R_new' (Kd.R_new' ho0 (Kd.R_lt (by (with_reducible repeat (first | apply Kd.R_alloc | apply Kd.R_drewN | apply Kd.R_drew)); exact HO150.out))) (Kd.R_lt (by (with_reducible repeat (first | apply Kd.R_alloc | apply Kd.R_drewN | apply Kd.R_drew)); exact HO156.out))) (below_size (by repeat (first | (with_reducible first | exact HB.out | apply below_alloc | apply pw_below_drewN | apply below_drew1) | exact HB.out)))); have n3_ := Aside0.mk (below_step (by repeat (first | (with_reducible first | exact HB.out | apply below_alloc | apply pw_below_drewN | apply below_drew1) | exact HB.out)) hb); clear HO150; clear HO156; clear HB; have HO150 := n0_; have HO156 := n1_; have HO159 := n2_; have HB := n3_; clear n0_ n1_ n2_ n3_; (try clear hb); (try clear hb2); (try clear hk); (try clear hi); (try clear ho0)))
          (try simp only [Act.put, List.setIfInBounds_toArray, List.set_cons_zero, List.set_cons_succ])
          go_cut [56] (fun v56 wc => ∃ (kq : Nat) (x56_9 : Bool), v56 = .bool x56_9 ∧ Aside0 (laws_FnFinishes.j0 kq (wrap64 (1 + (Int.tmod (rd t148 0) 20))) (wrap64 (1 + (Int.tmod (rd t148 1) 64))) ((Int.tmod (rd t148 2) 2) == 0) t154 t157 x56_9 = some r) ∧ Aside0 (kq ≤ k) ∧ Aside0 (Kd.R (Kd.int .i64) 3 wc w.heap.size (fun k_ => some k_ ≠ (v158 : Value).ownBlock) (.slice Ao14 t154.length co14) t154) ∧ Aside0 (Kd.R (Kd.int .i64) 3 wc w.heap.size (fun k_ => some k_ ≠ ((.slice Ao14 t154.length co14) : Value).ownBlock) v158 t157) ∧ Aside0 (Below w.heap.size w wc))
          case first =>
            have H := HC10.out
            clear HC10
            by_cases c16 : (t154.length : Int) = (wrap64 ((wrap64 (1 + (Int.tmod (rd t148 0) 20))) * (wrap64 ((wrap64 (1 + (Int.tmod (rd t148 1) 64))) + 1))))
            · rw [if_pos c16] at H
              have c16b0 : ((t154.length : Int) == (wrap64 ((wrap64 (1 + (Int.tmod (rd t148 0) 20))) * (wrap64 ((wrap64 (1 + (Int.tmod (rd t148 1) 64))) + 1))))) = true := beq_iff_eq.mpr c16
              have c16b1 : ((t154.length : Int) != (wrap64 ((wrap64 (1 + (Int.tmod (rd t148 0) 20))) * (wrap64 ((wrap64 (1 + (Int.tmod (rd t148 1) 64))) + 1))))) = false := bne_eq_false_iff_eq.mpr c16
              clear c16
              (first | rw [c16b0] | (simp only [i64_w, i32_w]; rw [c16b0]) | skip)
              by_cases c17 : (t157.length : Int) = (wrap64 (1 + (Int.tmod (rd t148 0) 20)))
              · rw [if_pos c17] at H
                have c17b0 : ((t157.length : Int) == (wrap64 (1 + (Int.tmod (rd t148 0) 20)))) = true := beq_iff_eq.mpr c17
                have c17b1 : ((t157.length : Int) != (wrap64 (1 + (Int.tmod (rd t148 0) 20)))) = false := bne_eq_false_iff_eq.mpr c17
                clear c17
                replace H := Option.bind_eq_some_iff.mp H
                obtain ⟨t160, A180, H⟩ := H
                replace H : (laws_FnFinishes.j0 k (wrap64 (1 + (Int.tmod (rd t148 0) 20))) (wrap64 (1 + (Int.tmod (rd t148 1) 64))) ((Int.tmod (rd t148 2) 2) == 0) t154 t157 (t160 != (wrap64 ((wrap64 (1 + (Int.tmod (rd t148 0) 20))) * (wrap64 (1 + (Int.tmod (rd t148 1) 64))))))) = some r := H
                have A18 := Aside0.mk A180
                clear A180
                have H' := Aside0.mk H
                clear H
                obtain ⟨Ao19, co19, eo19⟩ := Kd.R_slice HO159.out
                subst eo19
                go_wp2_with (first | (go_at_call 17; (with_reducible refine (impl_CountStep.calls k _ _ t154 0 t160 _ ?side1 ?side2 A18.out).mono ?_); (case side1 => repeat (first | exact (Kd.R_reads' HO156.out).2.2 | (with_reducible refine Kd.C_alloc ?_ _) | (with_reducible refine Kd.C_drewN ?_ _) | (with_reducible refine Kd.C_drew ?_))); (case side2 => exact (Kd.R_reads' HO156.out).2.1); rintro e w' ⟨rfl, ⟨nd, rfl⟩⟩))
                go_meet
                case rel => exact ⟨_, ((t160 != (wrap64 ((wrap64 (1 + (Int.tmod (rd t148 0) 20))) * (wrap64 (1 + (Int.tmod (rd t148 1) 64))))))), (by first | rfl | (simp; done) | (simp [*]; done)), H', ⟨by first | omega | exact Nat.le_refl _⟩, ⟨by (with_reducible repeat (first | apply Kd.R_alloc | apply Kd.R_drewN | apply Kd.R_drew)); exact Kd.R_mono HO156.out (fun _ hk => hk.2)⟩, ⟨by (with_reducible repeat (first | apply Kd.R_alloc | apply Kd.R_drewN | apply Kd.R_drew)); exact Kd.R_mono HO159.out (fun _ hk => hk.2)⟩, ⟨by repeat (first | (with_reducible first | exact HB.out | apply below_alloc | apply pw_below_drewN | apply below_drew1) | exact HB.out)⟩⟩
              · rw [if_neg c17] at H
                have c17b0 : ((t157.length : Int) == (wrap64 (1 + (Int.tmod (rd t148 0) 20)))) = false := beq_eq_false_iff_ne.mpr c17
                have c17b1 : ((t157.length : Int) != (wrap64 (1 + (Int.tmod (rd t148 0) 20)))) = true := bne_iff_ne.mpr c17
                have H' := Aside0.mk H
                clear H
                obtain ⟨Ao20, co20, eo20⟩ := Kd.R_slice HO159.out
                subst eo20
                go_wp2
                go_meet
                case rel => exact ⟨_, (true), (by first | rfl | (simp; done) | (simp [*]; done)), H', ⟨by first | omega | exact Nat.le_refl _⟩, ⟨by (with_reducible repeat (first | apply Kd.R_alloc | apply Kd.R_drewN | apply Kd.R_drew)); exact Kd.R_mono HO156.out (fun _ hk => hk.2)⟩, ⟨by (with_reducible repeat (first | apply Kd.R_alloc | apply Kd.R_drewN | apply Kd.R_drew)); exact Kd.R_mono HO159.out (fun _ hk => hk.2)⟩, ⟨by repeat (first | (with_reducible first | exact HB.out | apply below_alloc | apply pw_below_drewN | apply below_drew1) | exact HB.out)⟩⟩
            · rw [if_neg c16] at H
              have c16b0 : ((t154.length : Int) == (wrap64 ((wrap64 (1 + (Int.tmod (rd t148 0) 20))) * (wrap64 ((wrap64 (1 + (Int.tmod (rd t148 1) 64))) + 1))))) = false := beq_eq_false_iff_ne.mpr c16
              have c16b1 : ((t154.length : Int) != (wrap64 ((wrap64 (1 + (Int.tmod (rd t148 0) 20))) * (wrap64 ((wrap64 (1 + (Int.tmod (rd t148 1) 64))) + 1))))) = true := bne_iff_ne.mpr c16
              (first | rw [c16b0] | (simp only [i64_w, i32_w]; rw [c16b0]) | skip)
              have H' := Aside0.mk H
              clear H
              go_wp2
              go_meet
              case rel => exact ⟨_, (true), (by first | rfl | (simp; done) | (simp [*]; done)), H', ⟨by first | omega | exact Nat.le_refl _⟩, ⟨by (with_reducible repeat (first | apply Kd.R_alloc | apply Kd.R_drewN | apply Kd.R_drew)); exact Kd.R_mono HO156.out (fun _ hk => hk.2)⟩, ⟨by (with_reducible repeat (first | apply Kd.R_alloc | apply Kd.R_drewN | apply Kd.R_drew)); exact Kd.R_mono HO159.out (fun _ hk => hk.2)⟩, ⟨by repeat (first | (with_reducible first | exact HB.out | apply below_alloc | apply pw_below_drewN | apply below_drew1) | exact HB.out)⟩⟩
          case rest =>
            clear HC10
            try clear c1
            try clear p1
            try clear q1
            try clear hx1
            try clear qi1
            try clear c2
            try clear p2
            try clear c3
            try clear c5
            try clear c5b0
            try clear c5b1
            try clear c6
            try clear c6b0
            try clear c6b1
            try clear p6
            try clear c7
            try clear c7b0
            try clear c7b1
            try clear c11
            try clear p15
            try clear q15
            try clear hx15
            try clear qi15
            try clear c16
            try clear c16b0
            try clear c16b1
            try clear c17
            try clear c17b0
            try clear c17b1
            try clear hx151_0
            try clear hx152_0
            try clear hx153_0
            try clear p151
            try clear p152
            try clear p153
            try clear q151
            try clear q152
            try clear q153
            obtain ⟨kq, x56_9, rfl, HA, HJ9, HO_7, HO_8, HB⟩ := hcut
            cases kq with
            | zero => exact absurd HA.out (by simp [laws_FnFinishes.j0])
            | succ kj9 =>
              have H := HA.out
              clear HA
              simp only [laws_FnFinishes.j0] at H
              by_cases c21 : x56_9 = true
              · subst c21
                have H1 : (some false) = some r := by rw [if_pos rfl] at H; exact H
                clear H
                have H := H1
                clear H1
                exact absurd (hT.out ▸ H) (by simp)
              · replace c21 := Bool.eq_false_iff.mpr c21
                subst c21
                have H1 : (laws_FnFinishes.l0 kj9 (wrap64 (1 + (Int.tmod (rd t148 0) 20))) (wrap64 (1 + (Int.tmod (rd t148 1) 64))) ((Int.tmod (rd t148 2) 2) == 0) t154 t157 0) = some r := by rw [if_neg (show ¬ (false = true) by decide)] at H; exact H
                clear H
                have H := H1
                clear H1
                have H' := Aside0.mk H
                clear H
                go_wp2
                go_loopg [9] kj9 (fun kq v9 w' => ∃ (x9_2 : Int), v9 = .int .i64 x9_2 ∧ Aside0 (laws_FnFinishes.l0 kq (wrap64 (1 + (Int.tmod (rd t148 0) 20))) (wrap64 (1 + (Int.tmod (rd t148 1) 64))) ((Int.tmod (rd t148 2) 2) == 0) t154 t157 x9_2 = some r) ∧ Aside0 (kq ≤ kj9) ∧ Aside0 (Kd.R (Kd.int .i64) 3 w' w.heap.size (fun k_ => some k_ ≠ (v158 : Value).ownBlock) (.slice Ao14 t154.length co14) t154) ∧ Aside0 (Kd.R (Kd.int .i64) 3 w' w.heap.size (fun k_ => some k_ ≠ ((.slice Ao14 t154.length co14) : Value).ownBlock) v158 t157) ∧ Aside0 (Below w.heap.size w w'))
                case atStart => exact ⟨(0), (by first | rfl | (simp; done) | (simp [*]; done)), H', ⟨Nat.le_refl _⟩, ⟨by (with_reducible repeat (first | apply Kd.R_alloc | apply Kd.R_drewN | apply Kd.R_drew)); exact HO_7.out⟩, ⟨by (with_reducible repeat (first | apply Kd.R_alloc | apply Kd.R_drewN | apply Kd.R_drew)); exact HO_8.out⟩, ⟨by repeat (first | (with_reducible first | exact HB.out | apply below_alloc | apply pw_below_drewN | apply below_drew1) | exact HB.out)⟩⟩
                case round =>
                  clear H'
                  try clear c1
                  try clear p1
                  try clear q1
                  try clear hx1
                  try clear qi1
                  try clear c2
                  try clear p2
                  try clear c3
                  try clear c5
                  try clear c5b0
                  try clear c5b1
                  try clear c6
                  try clear c6b0
                  try clear c6b1
                  try clear p6
                  try clear c7
                  try clear c7b0
                  try clear c7b1
                  try clear c11
                  try clear p15
                  try clear q15
                  try clear hx15
                  try clear qi15
                  try clear c16
                  try clear c16b0
                  try clear c16b1
                  try clear c17
                  try clear c17b0
                  try clear c17b1
                  try clear c21
                  try clear hx151_0
                  try clear hx152_0
                  try clear hx153_0
                  try clear p1
                  try clear p15
                  try clear p151
                  try clear p152
                  try clear p153
                  try clear p2
                  try clear p6
                  try clear q1
                  try clear q15
                  try clear q151
                  try clear q152
                  try clear q153
                  obtain ⟨x9_2, rfl, HA, HK2, HO_7, HO_8, HB⟩ := hrel
                  cases gk with
                  | zero => exact absurd HA.out (by simp [laws_FnFinishes.l0])
                  | succ k2 =>
                    have H := HA.out
                    clear HA
                    simp only [laws_FnFinishes.l0] at H
                    by_cases c22 : x9_2 < (wrap64 (1 + (Int.tmod (rd t148 0) 20)))
                    · rw [if_pos c22] at H
                      have c22b0 : decide (x9_2 < (wrap64 (1 + (Int.tmod (rd t148 0) 20)))) = true := decide_eq_true c22
                      clear c22
                      by_cases c23 : 0 ≤ x9_2
                      · rw [if_pos c23] at H
                        have c23b0 : decide (0 ≤ x9_2) = true := decide_eq_true c23
                        clear c23
                        by_cases c24 : x9_2 < (t157.length : Int)
                        · rw [if_pos c24] at H
                          have c24b0 : decide (x9_2 < (t157.length : Int)) = true := decide_eq_true c24
                          clear c24
                          by_cases c25 : (rd t157 x9_2) = (wrap64 (1 + (Int.tmod (rd t148 1) 64)))
                          · rw [if_pos c25] at H
                            have c25b0 : ((rd t157 x9_2) == (wrap64 (1 + (Int.tmod (rd t148 1) 64)))) = true := beq_iff_eq.mpr c25
                            have c25b1 : ((rd t157 x9_2) != (wrap64 (1 + (Int.tmod (rd t148 1) 64)))) = false := bne_eq_false_iff_eq.mpr c25
                            clear c25
                            have H' := Aside0.mk H
                            clear H
                            obtain ⟨Ao26, co26, eo26⟩ := Kd.R_slice HO_8.out
                            subst eo26
                            have p161 : 0 ≤ (x9_2 : Int) := of_decide_eq_true (by first | (with_reducible assumption) | assumption)
                            have q161 : x9_2 < (t157.length : Int) := of_decide_eq_true (by first | (with_reducible assumption) | assumption)
                            obtain ⟨ad161, e161, hx161_0⟩ := Kd.at_int (Kd.R_reads' HO_8.out).2.2 x9_2 p161 q161
                            cases e161
                            replace p161 := eq_true p161
                            replace q161 := eq_true q161
                            go_wp2
                            go_roundg k2
                            case measure => have := HJ9.out; have := HK2.out; omega
                            case rel => exact ⟨(wrap64 (x9_2 + 1)), (by first | rfl | (simp; done) | (simp [*]; done)), H', ⟨by have := HJ9.out; have := HK2.out; omega⟩, ⟨by (with_reducible repeat (first | apply Kd.R_alloc | apply Kd.R_drewN | apply Kd.R_drew)); exact HO_7.out⟩, ⟨by (with_reducible repeat (first | apply Kd.R_alloc | apply Kd.R_drewN | apply Kd.R_drew)); exact HO_8.out⟩, ⟨by repeat (first | (with_reducible first | exact HB.out | apply below_alloc | apply pw_below_drewN | apply below_drew1) | exact HB.out)⟩⟩
                          · rw [if_neg c25] at H
                            have c25b0 : ((rd t157 x9_2) == (wrap64 (1 + (Int.tmod (rd t148 1) 64)))) = false := beq_eq_false_iff_ne.mpr c25
                            have c25b1 : ((rd t157 x9_2) != (wrap64 (1 + (Int.tmod (rd t148 1) 64)))) = true := bne_iff_ne.mpr c25
                            exact absurd (hT.out ▸ H) (by simp)
                        · rw [if_neg c24] at H
                          exact absurd H (by simp)
                      · rw [if_neg c23] at H
                        exact absurd H (by simp)
                    · rw [if_neg c22] at H
                      have c22b0 : decide (x9_2 < (wrap64 (1 + (Int.tmod (rd t148 0) 20)))) = false := decide_eq_false c22
                      clear c22
                      replace H := Option.bind_eq_some_iff.mp H
                      obtain ⟨t162, A270, H⟩ := H
                      replace H : (if ((Int.tmod (rd t148 2) 2) == 0) = true then (if (wrap64 (1 + (Int.tmod (rd t148 1) 64))) ≥ 2 then (if ((t162 == (wrap64 (1 + (Int.tmod (rd t148 0) 20)))) == (decide ((wrap64 (1 + (Int.tmod (rd t148 1) 64))) ≤ 10))) = true then ((impl_CountStep.f k2 t154 2).bind fun t163 => (some ((wrap64 (t162 + t163)) == (wrap64 (1 + (Int.tmod (rd t148 0) 20)))))) else (some false)) else (if ((t162 == (wrap64 (1 + (Int.tmod (rd t148 0) 20)))) == false) = true then ((impl_CountStep.f k2 t154 2).bind fun t164 => (some ((wrap64 (t162 + t164)) == (wrap64 (1 + (Int.tmod (rd t148 0) 20)))))) else (some false))) else (if ((t162 == (wrap64 (1 + (Int.tmod (rd t148 0) 20)))) == false) = true then ((impl_CountStep.f k2 t154 2).bind fun t165 => (some ((wrap64 (t162 + t165)) == (wrap64 (1 + (Int.tmod (rd t148 0) 20)))))) else (some false))) = some r := H
                      have A27 := Aside0.mk A270
                      clear A270
                      by_cases c28 : ((Int.tmod (rd t148 2) 2) == 0) = true
                      · rw [if_pos c28] at H
                        have c28b0 : ((Int.tmod (rd t148 2) 2) == 0) = true := c28
                        (try (have c28b1 : decide ((Int.tmod (rd t148 2) 2) = 0) = true := by simpa using c28))
                        (try (have c28b2 : ((Int.tmod (rd t148 2) 2) == 0) = true := by simpa using c28))
                        clear c28
                        by_cases c29 : (wrap64 (1 + (Int.tmod (rd t148 1) 64))) ≥ 2
                        · rw [if_pos c29] at H
                          have c29b0 : decide (2 ≤ (wrap64 (1 + (Int.tmod (rd t148 1) 64)))) = true := decide_eq_true c29
                          clear c29
                          by_cases c30 : ((t162 == (wrap64 (1 + (Int.tmod (rd t148 0) 20)))) == (decide ((wrap64 (1 + (Int.tmod (rd t148 1) 64))) ≤ 10))) = true
                          · rw [if_pos c30] at H
                            have c30b0 : ((t162 == (wrap64 (1 + (Int.tmod (rd t148 0) 20)))) == (decide ((wrap64 (1 + (Int.tmod (rd t148 1) 64))) ≤ 10))) = true := c30
                            (try (have c30b1 : decide ((t162 == (wrap64 (1 + (Int.tmod (rd t148 0) 20)))) = (decide ((wrap64 (1 + (Int.tmod (rd t148 1) 64))) ≤ 10))) = true := by simpa using c30))
                            (try (have c30b2 : ((t162 == (wrap64 (1 + (Int.tmod (rd t148 0) 20)))) == (decide ((wrap64 (1 + (Int.tmod (rd t148 1) 64))) ≤ 10))) = true := by simpa using c30))
                            clear c30
                            replace H := Option.bind_eq_some_iff.mp H
                            obtain ⟨t163, A310, H⟩ := H
                            replace H : (some ((wrap64 (t162 + t163)) == (wrap64 (1 + (Int.tmod (rd t148 0) 20))))) = some r := H
                            have A31 := Aside0.mk A310
                            clear A310
                            obtain rfl := Option.some.inj H
                            go_wp2_with (first | ((with_reducible refine gate_callee (f := 17) rfl ?_); refine goesL_ (some 69) rfl rfl Try.func17 (by kernel_rfl) rfl #[.slice Ao14 t154.length co14, .int .i64 1] rfl (by (try simp only [List.map_toArray, List.map_cons, List.map_nil]); first | done | rfl | (simp only [List.length_drop, List.length_take]; rfl)) ?_; (with_reducible refine (impl_CountStep.calls k2 _ _ t154 1 t162 _ ?side1 ?side2 A27.out).mono ?_); (case side1 => repeat (first | exact (Kd.R_reads' HO_7.out).2.2 | (with_reducible refine Kd.C_alloc ?_ _) | (with_reducible refine Kd.C_drewN ?_ _) | (with_reducible refine Kd.C_drew ?_))); (case side2 => exact (Kd.R_reads' HO_7.out).2.1); rintro e w' ⟨rfl, ⟨nd, rfl⟩⟩; refine ⟨_, rfl, ?_⟩) | (go_at_call 17; (with_reducible refine (impl_CountStep.calls k2 _ _ t154 2 t163 _ ?side1 ?side2 A31.out).mono ?_); (case side1 => repeat (first | exact (Kd.R_reads' HO_7.out).2.2 | (with_reducible refine Kd.C_alloc ?_ _) | (with_reducible refine Kd.C_drewN ?_ _) | (with_reducible refine Kd.C_drew ?_))); (case side2 => exact (Kd.R_reads' HO_7.out).2.1); rintro e w' ⟨rfl, ⟨nd, rfl⟩⟩))
                            go_ret
                            exact ⟨by first | rfl | (simp [errW_none, errW_some] <;> rfl) | (simp [*, errW_none, errW_some] <;> rfl), by repeat (first | (with_reducible first | exact HB.out | apply below_alloc | apply pw_below_drewN | apply below_drew1) | exact HB.out)⟩
                          · rw [if_neg c30] at H
                            have c30b0 : ((t162 == (wrap64 (1 + (Int.tmod (rd t148 0) 20)))) == (decide ((wrap64 (1 + (Int.tmod (rd t148 1) 64))) ≤ 10))) = false := by simpa using c30
                            (try (have c30b1 : decide ((t162 == (wrap64 (1 + (Int.tmod (rd t148 0) 20)))) = (decide ((wrap64 (1 + (Int.tmod (rd t148 1) 64))) ≤ 10))) = false := by simpa using c30))
                            (try (have c30b2 : ((t162 == (wrap64 (1 + (Int.tmod (rd t148 0) 20)))) == (decide ((wrap64 (1 + (Int.tmod (rd t148 1) 64))) ≤ 10))) = false := by simpa using c30))
                            (try (have c30b3 : ¬ ((t162 == (wrap64 (1 + (Int.tmod (rd t148 0) 20)))) = (decide ((wrap64 (1 + (Int.tmod (rd t148 1) 64))) ≤ 10))) := by simpa using c30))
                            clear c30
                            exact absurd (hT.out ▸ H) (by simp)
                        · rw [if_neg c29] at H
                          have c29b0 : decide (2 ≤ (wrap64 (1 + (Int.tmod (rd t148 1) 64)))) = false := decide_eq_false c29
                          clear c29
                          by_cases c32 : ((t162 == (wrap64 (1 + (Int.tmod (rd t148 0) 20)))) == false) = true
                          · rw [if_pos c32] at H
                            have c32b0 : ((t162 == (wrap64 (1 + (Int.tmod (rd t148 0) 20)))) == false) = true := c32
                            (try (have c32b1 : decide ((t162 == (wrap64 (1 + (Int.tmod (rd t148 0) 20)))) = false) = true := by simpa using c32))
                            (try (have c32b2 : ((t162 == (wrap64 (1 + (Int.tmod (rd t148 0) 20)))) == false) = true := by simpa using c32))
                            clear c32
                            replace H := Option.bind_eq_some_iff.mp H
                            obtain ⟨t164, A330, H⟩ := H
                            replace H : (some ((wrap64 (t162 + t164)) == (wrap64 (1 + (Int.tmod (rd t148 0) 20))))) = some r := H
                            have A33 := Aside0.mk A330
                            clear A330
                            obtain rfl := Option.some.inj H
                            go_wp2_with (first | ((with_reducible refine gate_callee (f := 17) rfl ?_); refine goesL_ (some 69) rfl rfl Try.func17 (by kernel_rfl) rfl #[.slice Ao14 t154.length co14, .int .i64 1] rfl (by (try simp only [List.map_toArray, List.map_cons, List.map_nil]); first | done | rfl | (simp only [List.length_drop, List.length_take]; rfl)) ?_; (with_reducible refine (impl_CountStep.calls k2 _ _ t154 1 t162 _ ?side1 ?side2 A27.out).mono ?_); (case side1 => repeat (first | exact (Kd.R_reads' HO_7.out).2.2 | (with_reducible refine Kd.C_alloc ?_ _) | (with_reducible refine Kd.C_drewN ?_ _) | (with_reducible refine Kd.C_drew ?_))); (case side2 => exact (Kd.R_reads' HO_7.out).2.1); rintro e w' ⟨rfl, ⟨nd, rfl⟩⟩; refine ⟨_, rfl, ?_⟩) | (go_at_call 17; (with_reducible refine (impl_CountStep.calls k2 _ _ t154 2 t164 _ ?side1 ?side2 A33.out).mono ?_); (case side1 => repeat (first | exact (Kd.R_reads' HO_7.out).2.2 | (with_reducible refine Kd.C_alloc ?_ _) | (with_reducible refine Kd.C_drewN ?_ _) | (with_reducible refine Kd.C_drew ?_))); (case side2 => exact (Kd.R_reads' HO_7.out).2.1); rintro e w' ⟨rfl, ⟨nd, rfl⟩⟩))
                            go_ret
                            exact ⟨by first | rfl | (simp [errW_none, errW_some] <;> rfl) | (simp [*, errW_none, errW_some] <;> rfl), by repeat (first | (with_reducible first | exact HB.out | apply below_alloc | apply pw_below_drewN | apply below_drew1) | exact HB.out)⟩
                          · rw [if_neg c32] at H
                            have c32b0 : ((t162 == (wrap64 (1 + (Int.tmod (rd t148 0) 20)))) == false) = false := by simpa using c32
                            (try (have c32b1 : decide ((t162 == (wrap64 (1 + (Int.tmod (rd t148 0) 20)))) = false) = false := by simpa using c32))
                            (try (have c32b2 : ((t162 == (wrap64 (1 + (Int.tmod (rd t148 0) 20)))) == false) = false := by simpa using c32))
                            (try (have c32b3 : ¬ ((t162 == (wrap64 (1 + (Int.tmod (rd t148 0) 20)))) = false) := by simpa using c32))
                            clear c32
                            exact absurd (hT.out ▸ H) (by simp)
                      · rw [if_neg c28] at H
                        have c28b0 : ((Int.tmod (rd t148 2) 2) == 0) = false := by simpa using c28
                        (try (have c28b1 : decide ((Int.tmod (rd t148 2) 2) = 0) = false := by simpa using c28))
                        (try (have c28b2 : ((Int.tmod (rd t148 2) 2) == 0) = false := by simpa using c28))
                        (try (have c28b3 : ¬ ((Int.tmod (rd t148 2) 2) = 0) := by simpa using c28))
                        clear c28
                        by_cases c34 : ((t162 == (wrap64 (1 + (Int.tmod (rd t148 0) 20)))) == false) = true
                        · rw [if_pos c34] at H
                          have c34b0 : ((t162 == (wrap64 (1 + (Int.tmod (rd t148 0) 20)))) == false) = true := c34
                          (try (have c34b1 : decide ((t162 == (wrap64 (1 + (Int.tmod (rd t148 0) 20)))) = false) = true := by simpa using c34))
                          (try (have c34b2 : ((t162 == (wrap64 (1 + (Int.tmod (rd t148 0) 20)))) == false) = true := by simpa using c34))
                          clear c34
                          replace H := Option.bind_eq_some_iff.mp H
                          obtain ⟨t165, A350, H⟩ := H
                          replace H : (some ((wrap64 (t162 + t165)) == (wrap64 (1 + (Int.tmod (rd t148 0) 20))))) = some r := H
                          have A35 := Aside0.mk A350
                          clear A350
                          obtain rfl := Option.some.inj H
                          go_wp2_with (first | ((with_reducible refine gate_callee (f := 17) rfl ?_); refine goesL_ (some 69) rfl rfl Try.func17 (by kernel_rfl) rfl #[.slice Ao14 t154.length co14, .int .i64 1] rfl (by (try simp only [List.map_toArray, List.map_cons, List.map_nil]); first | done | rfl | (simp only [List.length_drop, List.length_take]; rfl)) ?_; (with_reducible refine (impl_CountStep.calls k2 _ _ t154 1 t162 _ ?side1 ?side2 A27.out).mono ?_); (case side1 => repeat (first | exact (Kd.R_reads' HO_7.out).2.2 | (with_reducible refine Kd.C_alloc ?_ _) | (with_reducible refine Kd.C_drewN ?_ _) | (with_reducible refine Kd.C_drew ?_))); (case side2 => exact (Kd.R_reads' HO_7.out).2.1); rintro e w' ⟨rfl, ⟨nd, rfl⟩⟩; refine ⟨_, rfl, ?_⟩) | (go_at_call 17; (with_reducible refine (impl_CountStep.calls k2 _ _ t154 2 t165 _ ?side1 ?side2 A35.out).mono ?_); (case side1 => repeat (first | exact (Kd.R_reads' HO_7.out).2.2 | (with_reducible refine Kd.C_alloc ?_ _) | (with_reducible refine Kd.C_drewN ?_ _) | (with_reducible refine Kd.C_drew ?_))); (case side2 => exact (Kd.R_reads' HO_7.out).2.1); rintro e w' ⟨rfl, ⟨nd, rfl⟩⟩))
                          go_ret
                          exact ⟨by first | rfl | (simp [errW_none, errW_some] <;> rfl) | (simp [*, errW_none, errW_some] <;> rfl), by repeat (first | (with_reducible first | exact HB.out | apply below_alloc | apply pw_below_drewN | apply below_drew1) | exact HB.out)⟩
                        · rw [if_neg c34] at H
                          have c34b0 : ((t162 == (wrap64 (1 + (Int.tmod (rd t148 0) 20)))) == false) = false := by simpa using c34
                          (try (have c34b1 : decide ((t162 == (wrap64 (1 + (Int.tmod (rd t148 0) 20)))) = false) = false := by simpa using c34))
                          (try (have c34b2 : ((t162 == (wrap64 (1 + (Int.tmod (rd t148 0) 20)))) == false) = false := by simpa using c34))
                          (try (have c34b3 : ¬ ((t162 == (wrap64 (1 + (Int.tmod (rd t148 0) 20)))) = false) := by simpa using c34))
                          clear c34
                          exact absurd (hT.out ▸ H) (by simp)
        · rw [if_neg c7] at H
          exact absurd H (by simp)
      · rw [if_neg c6] at H
        exact absurd H (by simp)
    · rw [if_neg c5] at H
      exact absurd H (by simp)

end Go.Proofs.Ytjkhjfladhppkaa.PFnFinishes
