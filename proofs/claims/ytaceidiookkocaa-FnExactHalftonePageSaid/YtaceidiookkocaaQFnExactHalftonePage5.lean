/- FnExactHalftonePage: the functions that the law reaches, each as a plain Lean function, and that a call does what it says. Made by a program of this work (wip/mp.py) out of the kit's print. No condition. -/
import Derived.Test.YtaceidiookkocaaQFnExactHalftonePage0
import Derived.Test.YtaceidiookkocaaQFnExactHalftonePage3
import Derived.Test.YtaceidiookkocaaQFnExactHalftonePage4
namespace Go.Proofs.Ytaceidiookkocaa.PFnExactHalftonePage
open Go.RowKit Go.Proofs.YtaceidiookkocaaW.PrintWords Go.Proofs.YtaceidiookkocaaW.PrintLast Go.Proofs.YtaceidiookkocaaW.PrintMore
attribute [local go_sem] max2_int min2_int max_two min_two max_three min_three max_four min_four
attribute [local go_sem] Fix.isSome_setCell
set_option linter.unusedVariables false
set_option linter.unusedSimpArgs false

/-! ### spec_DiffuseRow: function 84 -/
mutual
def spec_DiffuseRow.j0 : Nat → List Int → List Int → Bool → Option (List Int × List Int × Bool)
  | 0, _, _, _ => none
  | k + 1, x0, x1, x22 => if x22 = true then (some (([] : List Int), ([] : List Int), false)) else (if 32 ≤ 35184372088832 then (spec_DiffuseRow.l0 k x0 x1 0 0 ([] : List Int) (List.replicate 32 0)) else (none))
def spec_DiffuseRow.l0 : Nat → List Int → List Int → Int → Int → List Int → List Int → Option (List Int × List Int × Bool)
  | 0, _, _, _, _, _, _ => none
  | k + 1, x0, x1, x7, x8, x258000, x258001 => if x8 < 32 then (if 0 ≤ x8 then (if x8 < (x0.length : Int) then (if x8 < (x1.length : Int) then (if (wrap64 ((wrap64 ((rd x0 x8) + (rd x1 x8))) + x7)) ≥ 128 then ((spec_l21Part.f (wrap64 ((wrap64 ((wrap64 ((rd x0 x8) + (rd x1 x8))) + x7)) - (255 * 1))) 3).bind fun t262 => ((spec_l21Part.f (wrap64 ((wrap64 ((wrap64 ((rd x0 x8) + (rd x1 x8))) + x7)) - (255 * 1))) 5).bind fun t263 => ((spec_l21Part.f (wrap64 ((wrap64 ((wrap64 ((rd x0 x8) + (rd x1 x8))) + x7)) - (255 * 1))) 1).bind fun t264 => (if x258000.length < 17592186044416 then (if 0 ≤ (mx 0 (wrap64 (x8 - 1))) then (if (mx 0 (wrap64 (x8 - 1))) < (x258001.length : Int) then ((some (x258001.set ((mx 0 (wrap64 (x8 - 1))) : Int).toNat (wrap64 ((rd x258001 (mx 0 (wrap64 (x8 - 1)))) + t262)) : List Int)).bind fun y269 => (if x8 < (x258001.length : Int) then ((some (y269.set (x8 : Int).toNat (wrap64 ((rd y269 x8) + t263)) : List Int)).bind fun y271 => (if 0 ≤ (mn 31 (wrap64 (x8 + 1))) then (if (mn 31 (wrap64 (x8 + 1))) < (x258001.length : Int) then (spec_DiffuseRow.l0 k x0 x1 (wrap64 ((wrap64 ((wrap64 ((wrap64 ((wrap64 ((wrap64 ((rd x0 x8) + (rd x1 x8))) + x7)) - (255 * 1))) - t262)) - t263)) - t264)) (wrap64 (x8 + 1)) (x258000 ++ [1]) (y271.set ((mn 31 (wrap64 (x8 + 1))) : Int).toNat (wrap64 ((rd y271 (mn 31 (wrap64 (x8 + 1)))) + t264)))) else (none)) else (none))) else (none))) else (none)) else (none)) else (none))))) else ((spec_l21Part.f (wrap64 ((wrap64 ((wrap64 ((rd x0 x8) + (rd x1 x8))) + x7)) - (255 * 0))) 3).bind fun t274 => ((spec_l21Part.f (wrap64 ((wrap64 ((wrap64 ((rd x0 x8) + (rd x1 x8))) + x7)) - (255 * 0))) 5).bind fun t275 => ((spec_l21Part.f (wrap64 ((wrap64 ((wrap64 ((rd x0 x8) + (rd x1 x8))) + x7)) - (255 * 0))) 1).bind fun t276 => (if x258000.length < 17592186044416 then (if 0 ≤ (mx 0 (wrap64 (x8 - 1))) then (if (mx 0 (wrap64 (x8 - 1))) < (x258001.length : Int) then ((some (x258001.set ((mx 0 (wrap64 (x8 - 1))) : Int).toNat (wrap64 ((rd x258001 (mx 0 (wrap64 (x8 - 1)))) + t274)) : List Int)).bind fun y281 => (if x8 < (x258001.length : Int) then ((some (y281.set (x8 : Int).toNat (wrap64 ((rd y281 x8) + t275)) : List Int)).bind fun y283 => (if 0 ≤ (mn 31 (wrap64 (x8 + 1))) then (if (mn 31 (wrap64 (x8 + 1))) < (x258001.length : Int) then (spec_DiffuseRow.l0 k x0 x1 (wrap64 ((wrap64 ((wrap64 ((wrap64 ((wrap64 ((wrap64 ((rd x0 x8) + (rd x1 x8))) + x7)) - (255 * 0))) - t274)) - t275)) - t276)) (wrap64 (x8 + 1)) (x258000 ++ [0]) (y283.set ((mn 31 (wrap64 (x8 + 1))) : Int).toNat (wrap64 ((rd y283 (mn 31 (wrap64 (x8 + 1)))) + t276)))) else (none)) else (none))) else (none))) else (none)) else (none)) else (none)))))) else (none)) else (none)) else (none)) else (if 31 < (x258001.length : Int) then (some (x258000, (x258001.set (31 : Int).toNat (wrap64 ((rd x258001 31) + x7))), true)) else (none))
end
def spec_DiffuseRow.f (k : Nat) (l0 : List Int) (l1 : List Int) : Option (List Int × List Int × Bool) := (spec_CarryOk.f k l1).bind fun t252 => (if t252 = true then ((spec_l11Row.f k l0).bind fun t253 => (spec_DiffuseRow.j0 k l0 l1 (!t253))) else (spec_DiffuseRow.j0 k l0 l1 true))
theorem spec_DiffuseRow.mono_l : ∀ k, (∀ y0 y1 y2, LeO (spec_DiffuseRow.j0 k y0 y1 y2) (spec_DiffuseRow.j0 (k + 1) y0 y1 y2)) ∧ (∀ y0 y1 y2 y3 y4 y5, LeO (spec_DiffuseRow.l0 k y0 y1 y2 y3 y4 y5) (spec_DiffuseRow.l0 (k + 1) y0 y1 y2 y3 y4 y5))
  | 0 => ⟨fun _ _ _ r h => by simp [spec_DiffuseRow.j0] at h, fun _ _ _ _ _ _ r h => by simp [spec_DiffuseRow.l0] at h⟩
  | k + 1 => by
    obtain ⟨ih0, ih1⟩ := spec_DiffuseRow.mono_l k
    refine ⟨?_, ?_⟩
    · intro y0 y1 y2
      unfold spec_DiffuseRow.j0
      repeat' first
      | (with_reducible exact ih0 _ _ _)
      | (with_reducible exact ih1 _ _ _ _ _ _)
      | (with_reducible exact spec_CarryOk.mono _ _)
      | (with_reducible exact spec_l11Row.mono _ _)
      | (with_reducible exact LeO.refl _)
      | (with_reducible exact LeO.none _)
      | (with_reducible refine LeO.ite ?_ ?_)
      | (with_reducible refine LeO.bind ?_ (fun _ => ?_))
      | exact ih0 _ _ _
      | exact ih1 _ _ _ _ _ _
      | exact spec_CarryOk.mono _ _
      | exact spec_l11Row.mono _ _
      | exact LeO.none _
      | refine LeO.ite ?_ ?_
      | refine LeO.bind ?_ (fun _ => ?_)
    · intro y0 y1 y2 y3 y4 y5
      unfold spec_DiffuseRow.l0
      repeat' first
      | (with_reducible exact ih0 _ _ _)
      | (with_reducible exact ih1 _ _ _ _ _ _)
      | (with_reducible exact spec_CarryOk.mono _ _)
      | (with_reducible exact spec_l11Row.mono _ _)
      | (with_reducible exact LeO.refl _)
      | (with_reducible exact LeO.none _)
      | (with_reducible refine LeO.ite ?_ ?_)
      | (with_reducible refine LeO.bind ?_ (fun _ => ?_))
      | exact ih0 _ _ _
      | exact ih1 _ _ _ _ _ _
      | exact spec_CarryOk.mono _ _
      | exact spec_l11Row.mono _ _
      | exact LeO.none _
      | refine LeO.ite ?_ ?_
      | refine LeO.bind ?_ (fun _ => ?_)
theorem spec_DiffuseRow.mono : ∀ a0 a1 k, LeO (spec_DiffuseRow.f k a0 a1) (spec_DiffuseRow.f (k + 1) a0 a1) := by
  intro a0 a1 k
  obtain ⟨ih0, ih1⟩ := spec_DiffuseRow.mono_l k
  unfold spec_DiffuseRow.f
  repeat' first
      | (with_reducible exact ih0 _ _ _)
      | (with_reducible exact ih1 _ _ _ _ _ _)
      | (with_reducible exact spec_CarryOk.mono _ _)
      | (with_reducible exact spec_l11Row.mono _ _)
      | (with_reducible exact LeO.refl _)
      | (with_reducible exact LeO.none _)
      | (with_reducible refine LeO.ite ?_ ?_)
      | (with_reducible refine LeO.bind ?_ (fun _ => ?_))
      | exact ih0 _ _ _
      | exact ih1 _ _ _ _ _ _
      | exact spec_CarryOk.mono _ _
      | exact spec_l11Row.mono _ _
      | exact LeO.none _
      | refine LeO.ite ?_ ?_
      | refine LeO.bind ?_ (fun _ => ?_)
def spec_DiffuseRow.T8 : Bool × List (List Nat × List Nat) := (true, [([], []), ([], []), ([0, 1], [0, 1]), ([2], [2]), ([], []), ([], []), ([4, 5], [4, 5]), ([6], [6]), ([3, 7], [3, 7]), ([], []), ([8, 9], [8, 9]), ([10, 0, 1, 2, 3, 4, 5, 6, 7, 8, 9, 10], [10])])
def spec_DiffuseRow.B8 : List Nat := [0, 0, 3, 7, 0, 0, 48, 112, 255, 0, 1023, 2047]
theorem spec_DiffuseRow.tab8 : rtab .any (opsOf Try.f84 8) = spec_DiffuseRow.T8 := by kernel_rfl
theorem spec_DiffuseRow.bits8 : waitsOk spec_DiffuseRow.T8.2 spec_DiffuseRow.B8 = true := by kernel_rfl
def spec_DiffuseRow.T18 : Bool × List (List Nat × List Nat) := (true, [([], []), ([0], [0]), ([], []), ([2], [2]), ([3], [3]), ([], []), ([5], [5]), ([], []), ([7], [7]), ([8], [8]), ([6, 9], [6, 9]), ([10], [10]), ([], []), ([11, 12], [11, 12]), ([1, 4, 0, 1, 2, 3, 4, 5, 6, 7, 8, 9, 10, 11, 12, 13], [1, 4]), ([14, 13, 0, 1, 2, 3, 4, 5, 6, 7, 8, 9, 10, 11, 12, 13], [13, 14])])
def spec_DiffuseRow.B18 : List Nat := [0, 1, 0, 4, 12, 0, 32, 0, 128, 384, 992, 2016, 0, 8160, 16383, 32767]
theorem spec_DiffuseRow.tab18 : rtab .any (opsOf Try.f84 18) = spec_DiffuseRow.T18 := by kernel_rfl
theorem spec_DiffuseRow.bits18 : waitsOk spec_DiffuseRow.T18.2 spec_DiffuseRow.B18 = true := by kernel_rfl
def spec_DiffuseRow.T19 : Bool × List (List Nat × List Nat) := (true, [([], []), ([0], [0]), ([], []), ([], []), ([3], [3]), ([], []), ([4, 5], [4, 5]), ([6], [6]), ([], []), ([7, 8], [7, 8]), ([1, 2, 0, 1, 2, 3, 4, 5, 6, 7, 8, 9], [1, 2]), ([10, 9, 0, 1, 2, 3, 4, 5, 6, 7, 8, 9], [9, 10])])
def spec_DiffuseRow.B19 : List Nat := [0, 1, 0, 0, 8, 0, 56, 120, 0, 504, 1023, 2047]
theorem spec_DiffuseRow.tab19 : rtab .any (opsOf Try.f84 19) = spec_DiffuseRow.T19 := by kernel_rfl
theorem spec_DiffuseRow.bits19 : waitsOk spec_DiffuseRow.T19.2 spec_DiffuseRow.B19 = true := by kernel_rfl
def spec_DiffuseRow.T20 : Bool × List (List Nat × List Nat) := (true, [([], []), ([0], [0]), ([], []), ([2], [2]), ([3], [3]), ([], []), ([5], [5]), ([], []), ([7], [7]), ([8], [8]), ([6, 9], [6, 9]), ([10], [10]), ([], []), ([11, 12], [11, 12]), ([1, 4, 0, 1, 2, 3, 4, 5, 6, 7, 8, 9, 10, 11, 12, 13], [1, 4]), ([14, 13, 0, 1, 2, 3, 4, 5, 6, 7, 8, 9, 10, 11, 12, 13], [13, 14])])
def spec_DiffuseRow.B20 : List Nat := [0, 1, 0, 4, 12, 0, 32, 0, 128, 384, 992, 2016, 0, 8160, 16383, 32767]
theorem spec_DiffuseRow.tab20 : rtab .any (opsOf Try.f84 20) = spec_DiffuseRow.T20 := by kernel_rfl
theorem spec_DiffuseRow.bits20 : waitsOk spec_DiffuseRow.T20.2 spec_DiffuseRow.B20 = true := by kernel_rfl
def spec_DiffuseRow.T21 : Bool × List (List Nat × List Nat) := (true, [([], []), ([0], [0]), ([], []), ([2], [2]), ([3], [3]), ([4], [4]), ([], []), ([5, 6], [5, 6]), ([1, 0, 1, 2, 3, 4, 5, 6, 7], [1]), ([8, 7, 0, 1, 2, 3, 4, 5, 6, 7], [7, 8])])
def spec_DiffuseRow.B21 : List Nat := [0, 1, 0, 4, 12, 28, 0, 124, 255, 511]
theorem spec_DiffuseRow.tab21 : rtab .any (opsOf Try.f84 21) = spec_DiffuseRow.T21 := by kernel_rfl
theorem spec_DiffuseRow.bits21 : waitsOk spec_DiffuseRow.T21.2 spec_DiffuseRow.B21 = true := by kernel_rfl
set_option maxHeartbeats 8000000 in
set_option maxRecDepth 100000 in
theorem spec_DiffuseRow.calls (k : Nat) (A0 : Option Addr) (c0 : Nat) (l0 : List Int) (A1 : Option Addr) (c1 : Nat) (l1 : List Int) (r1 : List Int) (r2 : List Int) (r3 : Bool) (w : World) (hr0 : Kd.C (Kd.int .i64) w A0 l0.length l0) (hc0 : l0.length ≤ c0) (hr1 : Kd.C (Kd.int .i64) w A1 l1.length l1) (hc1 : l1.length ≤ c1) (h : spec_DiffuseRow.f k l0 l1 = some (r1, r2, r3)) :
    Calls Try.prog 84 #[.slice A0 l0.length c0, .slice A1 l1.length c1] w fun e w' => ∃ v0_ v1_ : Value, e = .returned (.tuple #[.agg #[v0_, v1_], .bool r3]) ∧ Kd.R (Kd.int .i64) 3 w' w.heap.size (fun k_ => some k_ ≠ (v1_ : Value).ownBlock) v0_ r1 ∧ Kd.R (Kd.int .i64) 3 w' w.heap.size (fun k_ => some k_ ≠ (v0_ : Value).ownBlock) v1_ r2 ∧ Below w.heap.size w w' := by
  have hu92 := Try.underlying92
  have HR0 := Aside0.mk hr0
  have HC0 := Aside0.mk hc0
  (try clear hr0); (try clear hc0)
  have HR1 := Aside0.mk hr1
  have HC1 := Aside0.mk hc1
  (try clear hr1); (try clear hc1)
  have HB := Aside0.mk (Below.refl w.heap.size w)
  have H : ((spec_CarryOk.f k l1).bind fun t252 => (if t252 = true then ((spec_l11Row.f k l0).bind fun t253 => (spec_DiffuseRow.j0 k l0 l1 (!t253))) else (spec_DiffuseRow.j0 k l0 l1 true))) = some (r1, r2, r3) := h
  clear h
  have HC3 := Aside0.mk H
  clear H
  go_enter Try.func84, Try.ntmps84
  go_upto_region 1 with (first | ((with_reducible refine gate_dst (N := 4) rfl ?_); refine box_event ?hg (N := 4) ?hd (cs := #[.slice none 0 0, .slice none 0 0]) (t := 92) ?hr ?_; (case hd => rfl); (case hg => rfl); (case hr => first | (go_simp; done) | (go_simp; rfl)); intro gb251 hg w4 hbox hb; have n0_ := Aside0.mk (below_step Fix.uB hb); have n1_ := Aside0.mk (hbox); have n2_ := Aside0.mk ((by rw [hg]; exact (below_size Fix.uB) : w.heap.size ≤ gb251)); have n3_ := Aside0.mk ((by rw [hg]; exact (below_size Fix.uB) : w.heap.size ≤ gb251)); clear HB; have HB := n0_; have BK251 := n1_; have GW251 := n2_; have GE251 := n3_; clear n0_ n1_ n2_ n3_; clear hb hbox hg))
  (try simp only [Act.put, List.setIfInBounds_toArray, List.set_cons_zero, List.set_cons_succ])
  go_cut [22] (fun v22 wc => ∃ (kq : Nat) (x22_2 : Bool), v22 = .bool x22_2 ∧ Aside0 (spec_DiffuseRow.j0 kq l0 l1 x22_2 = some (r1, r2, r3)) ∧ Aside0 (kq ≤ k) ∧ Aside0 (wc.heap[gb251]? = some (.cells #[(.slice none 0 0), (.slice none 0 0)] 92 (0, 0))) ∧ Aside0 (Below w.heap.size w wc))
  case first =>
    have H := HC3.out
    clear HC3
    replace H := Option.bind_eq_some_iff.mp H
    obtain ⟨t252, A50, H⟩ := H
    replace H : (if t252 = true then ((spec_l11Row.f k l0).bind fun t253 => (spec_DiffuseRow.j0 k l0 l1 (!t253))) else (spec_DiffuseRow.j0 k l0 l1 true)) = some (r1, r2, r3) := H
    have A5 := Aside0.mk A50
    clear A50
    by_cases c6 : t252 = true
    · subst c6
      have H1 : ((spec_l11Row.f k l0).bind fun t253 => (spec_DiffuseRow.j0 k l0 l1 (!t253))) = some (r1, r2, r3) := by rw [if_pos rfl] at H; exact H
      clear H
      have H := H1
      clear H1
      replace H := Option.bind_eq_some_iff.mp H
      obtain ⟨t253, A70, H⟩ := H
      replace H : (spec_DiffuseRow.j0 k l0 l1 (!t253)) = some (r1, r2, r3) := H
      have A7 := Aside0.mk A70
      clear A70
      have H' := Aside0.mk H
      clear H
      go_wp2_with (first | ((with_reducible refine gate_callee (f := 103) rfl ?_); refine goesL_ (some 16) rfl rfl Try.func103 (by kernel_rfl) rfl #[.slice A1 l1.length c1] rfl Fix.uA ?_; (with_reducible refine (spec_CarryOk.calls k _ _ l1 true _ ?side1 ?side2 A5.out).mono ?_); (case side1 => exact Fix.uC (Kd.C_below HR1.out HB.out)); (case side2 => exact HC1.out); rintro e w' ⟨rfl, ⟨nd, rfl⟩⟩; refine ⟨_, rfl, ?_⟩) | (go_at_call 81; (with_reducible refine (spec_l11Row.calls k _ _ l0 t253 _ ?side1 ?side2 A7.out).mono ?_); (case side1 => exact Fix.uC (Kd.C_below HR0.out Fix.uB)); (case side2 => exact HC0.out); rintro e w' ⟨rfl, ⟨nd, rfl⟩⟩))
      go_meet
      case rel => exact ⟨_, (!t253), (by first | rfl | (simp; done) | (simp [*]; done)), H', ⟨by first | omega | exact Nat.le_refl _⟩, ⟨by (with_reducible repeat (first | refine Fix.kN ?_ _ | refine Fix.kD ?_ | refine Fix.kA ?_ _)); exact BK251.out⟩, ⟨Fix.uB⟩⟩
    · replace c6 := Bool.eq_false_iff.mpr c6
      subst c6
      have H1 : (spec_DiffuseRow.j0 k l0 l1 true) = some (r1, r2, r3) := by rw [if_neg (show ¬ (false = true) by decide)] at H; exact H
      clear H
      have H := H1
      clear H1
      have H' := Aside0.mk H
      clear H
      go_wp2_with (first | ((with_reducible refine gate_callee (f := 103) rfl ?_); refine goesL_ (some 16) rfl rfl Try.func103 (by kernel_rfl) rfl #[.slice A1 l1.length c1] rfl Fix.uA ?_; (with_reducible refine (spec_CarryOk.calls k _ _ l1 false _ ?side1 ?side2 A5.out).mono ?_); (case side1 => exact Fix.uC (Kd.C_below HR1.out HB.out)); (case side2 => exact HC1.out); rintro e w' ⟨rfl, ⟨nd, rfl⟩⟩; refine ⟨_, rfl, ?_⟩))
      go_meet
      case rel => exact ⟨_, (true), (by first | rfl | (simp; done) | (simp [*]; done)), H', ⟨by first | omega | exact Nat.le_refl _⟩, ⟨by (with_reducible repeat (first | refine Fix.kN ?_ _ | refine Fix.kD ?_ | refine Fix.kA ?_ _)); exact BK251.out⟩, ⟨Fix.uB⟩⟩
  case rest =>
    clear HC3
    try clear c1
    try clear p2
    try clear c6
    obtain ⟨kq, x22_2, rfl, HA, HJ2, BK251, HB⟩ := hcut
    cases kq with
    | zero => exact absurd HA.out (by simp [spec_DiffuseRow.j0])
    | succ kj2 =>
      have H := HA.out
      clear HA
      simp only [spec_DiffuseRow.j0] at H
      by_cases c8 : x22_2 = true
      · subst c8
        have H1 : (some (([] : List Int), ([] : List Int), false)) = some (r1, r2, r3) := by rw [if_pos rfl] at H; exact H
        clear H
        have H := H1
        clear H1
        simp only [Option.some.injEq, Prod.mk.injEq] at H
        obtain ⟨rfl, rfl, rfl⟩ := H
        have hcz9_0 : wc.cell? ⟨gb251, 0, none⟩ = some (.slice none 0 0) := (blk_cell BK251.out 0).trans rfl
        have hcz9_1 : wc.cell? ⟨gb251, 1, none⟩ = some (.slice none 0 0) := (blk_cell BK251.out 1).trans rfl
        have hfz9_0 := blk_frozen BK251.out 0
        have hfz9_1 := blk_frozen BK251.out 1
        go_wp2
        refine bodyPost_ret (results_ct rfl _ _ gb251 92 #[.slice none 0 0, .slice none 0 0] (0, 0) _ rfl (by (with_reducible repeat (first | refine Fix.kN ?_ _ | refine Fix.kD ?_ | refine Fix.kA ?_ _)); refine blk_put (cs := #[.slice none 0 0, .slice none 0 0]) ?_ 1 _ rfl; (with_reducible repeat (first | refine Fix.kN ?_ _ | refine Fix.kD ?_ | refine Fix.kA ?_ _)); refine blk_put (cs := #[.slice none 0 0, .slice none 0 0]) ?_ 0 _ rfl; (with_reducible repeat (first | refine Fix.kN ?_ _ | refine Fix.kD ?_ | refine Fix.kA ?_ _)); exact BK251.out) Try.underlying92 rfl (by kernel_rfl)) rfl ?_
        exact ⟨_, _, by first | rfl | (simp [errW_none, errW_some] <;> rfl) | (simp [*, errW_none, errW_some] <;> rfl), by first | exact Kd.R_nil _ _ _ _ _ | exact Kd.N_nil _ _ _ _ _ | exact Kd.V_nil _ _ _ _ _ | exact Kd.Q_nil _ _ _ _ _ | exact Kd.S_nil _ _ _ _ _, by first | exact Kd.R_nil _ _ _ _ _ | exact Kd.N_nil _ _ _ _ _ | exact Kd.V_nil _ _ _ _ _ | exact Kd.Q_nil _ _ _ _ _ | exact Kd.S_nil _ _ _ _ _, Fix.uB⟩
      · replace c8 := Bool.eq_false_iff.mpr c8
        subst c8
        have H1 : (if 32 ≤ 35184372088832 then (spec_DiffuseRow.l0 kj2 l0 l1 0 0 ([] : List Int) (List.replicate 32 0)) else (none)) = some (r1, r2, r3) := by rw [if_neg (show ¬ (false = true) by decide)] at H; exact H
        clear H
        have H := H1
        clear H1
        by_cases c10 : 32 ≤ 35184372088832
        · rw [if_pos c10] at H
          have c10b0 := eq_true c10
          have c10b1 : decide (32 ≤ 35184372088832) = true := decide_eq_true c10
          clear c10
          obtain ⟨y254, hy254⟩ : ∃ y_ : List Int, y_ = (List.replicate 32 0) := ⟨_, rfl⟩
          replace H : (spec_DiffuseRow.l0 kj2 l0 l1 0 0 ([] : List Int) y254) = some (r1, r2, r3) := by first | (rw [hy254]; with_reducible exact H) | (have H2_ := (Option.bind_some _ _).symm.trans H; rw [hy254]; with_reducible exact H2_) | (have H2_ := (Option.bind_some _ _).symm.trans H; with_reducible exact H2_) | with_reducible exact H | (rw [hy254]; exact H) | exact H
          have Ny254 := Aside0.mk hy254
          clear hy254
          have H' := Aside0.mk H
          clear H
          go_wp2_with (first | ((with_reducible refine gate_dst (N := 24) rfl ?_); refine Kd.R_make (Kd.int .i64) _ 3 rfl (N := 24) rfl 39 _ _ rfl 32 rfl rfl Try.underlying39 (.int .i64 0) 8 info3 rfl (by decide) (by omega) 0 (ok := fun _ => True) (okp := fun _ => True) rfl (fun _ hk => hk) trivial (by omega) (by omega) (Below.refl _ _) (Nat.le_refl _) ?_; intro v255 w11 ho12 hb hg_ hnew_; clear hg_ hnew_; (first | rw [← Ny254.out] at ho12 | (simp only [Int.reduceToNat] at ho12; rw [← Ny254.out] at ho12)); have n0_ := Aside0.mk (Kd.R_lower ho12 (below_size Fix.uB)); have n1_ := Aside0.mk (blk_below (g := gb251) (o := .cells #[.slice none 0 0, .slice none 0 0] 92 (0, 0)) (Fix.uK BK251.out) hb); have n2_ := Aside0.mk (below_step Fix.uB hb); clear BK251; clear HB; have HO256 := n0_; have BK251 := n1_; have HB := n2_; clear n0_ n1_ n2_; clear hb ho12; obtain ⟨Ao13, co13, eo13⟩ := Kd.R_slice HO256.out; subst eo13) | ((with_reducible refine gate_dst (N := 6) rfl ?_); refine box_event ?hg (N := 6) ?hd (cs := #[.slice none 0 0, .slice none 0 0]) (t := 92) ?hr ?_; (case hd => rfl); (case hg => rfl); (case hr => first | (go_simp; done) | (go_simp; rfl)); intro gb257 hg w14 hbox hb; have n0_ := Aside0.mk (Kd.R_below (Fix.uR HO256.out) hb); have n1_ := Aside0.mk (blk_below (g := gb251) (o := .cells #[.slice none 0 0, .slice none 0 0] 92 (0, 0)) (Fix.uK BK251.out) hb); have n2_ := Aside0.mk (below_step Fix.uB hb); have n3_ := Aside0.mk (hbox); have n4_ := Aside0.mk ((by rw [hg]; exact (below_size Fix.uB) : w.heap.size ≤ gb257)); have n5_ := Aside0.mk ((by rw [hg]; exact (below_size Fix.uB) : w.heap.size ≤ gb257)); have n6_ := Aside0.mk ((by rw [hg]; exact Nat.ne_of_lt (blk_lt (g := gb251) (o := .cells #[.slice none 0 0, .slice none 0 0] 92 (0, 0)) (Fix.uK BK251.out)) : gb251 ≠ gb257)); have n7_ := Aside0.mk ((by rw [hg]; exact Nat.ne_of_gt (blk_lt (g := gb251) (o := .cells #[.slice none 0 0, .slice none 0 0] 92 (0, 0)) (Fix.uK BK251.out)) : gb257 ≠ gb251)); clear HO256; clear BK251; clear HB; have HO256 := n0_; have BK251 := n1_; have HB := n2_; have BK257 := n3_; have GW257 := n4_; have GE257 := n5_; have NB251_257 := n6_; have NB257_251 := n7_; clear n0_ n1_ n2_ n3_ n4_ n5_ n6_ n7_; clear hb hbox hg; have hnb15 := NB257_251.out; have hnc15 := NB251_257.out; have hcz16_0 : w14.cell? ⟨gb257, 0, none⟩ = some (.slice none 0 0) := (blk_cell BK257.out 0).trans rfl; have hcz16_1 : w14.cell? ⟨gb257, 1, none⟩ = some (.slice none 0 0) := (blk_cell BK257.out 1).trans rfl; have hfz16_0 := blk_frozen BK257.out 0; have hfz16_1 := blk_frozen BK257.out 1))
          go_loopg [7, 8] kj2 (fun kq v7 v8 w' => ∃ (x7_2 : Int) (x8_2 : Int) (x258000_2 : List Int) (x258001_2 : List Int) (u258000 : Value) (u258001 : Value), v7 = .int .i64 x7_2 ∧ v8 = .int .i64 x8_2 ∧ Aside0 (spec_DiffuseRow.l0 kq l0 l1 x7_2 x8_2 x258000_2 x258001_2 = some (r1, r2, r3)) ∧ Aside0 (kq ≤ kj2) ∧ Aside0 (Kd.R (Kd.int .i64) 3 w' w.heap.size (fun k_ => some k_ ≠ (u258001 : Value).ownBlock) u258000 x258000_2) ∧ Aside0 (Kd.R (Kd.int .i64) 3 w' w.heap.size (fun k_ => some k_ ≠ (u258000 : Value).ownBlock) u258001 x258001_2) ∧ Aside0 (w'.heap[gb251]? = some (.cells #[(.slice none 0 0), (.slice none 0 0)] 92 (0, 0))) ∧ Aside0 (w'.heap[gb257]? = some (.cells #[u258000, u258001] 92 (0, 0))) ∧ Aside0 (Below w.heap.size w w'))
          case atStart => exact ⟨(0), (0), (([] : List Int)), (y254), (.slice none 0 0), (.slice Ao13 y254.length co13), (by first | rfl | (simp; done) | (simp [*]; done)), (by first | rfl | (simp; done) | (simp [*]; done)), H', ⟨Nat.le_refl _⟩, ⟨by first | exact Kd.R_nil _ _ _ _ _ | exact Kd.N_nil _ _ _ _ _ | exact Kd.V_nil _ _ _ _ _ | exact Kd.Q_nil _ _ _ _ _ | exact Kd.S_nil _ _ _ _ _⟩, ⟨by (with_reducible repeat (first | apply Kd.R_alloc | apply Kd.R_drewN | apply Kd.R_drew)); exact Kd.R_mono (Kd.R_far (p := ⟨gb257, 1, none⟩) (Kd.R_far (p := ⟨gb257, 0, none⟩) (Kd.R_types HO256.out BK257.out (by decide)) (fun _ hk => hk.2) (.slice none 0 0)) (fun _ hk => hk.2) (.slice Ao13 y254.length co13)) (fun _ hk => (by simp [Value.ownBlock]))⟩, ⟨by (with_reducible repeat (first | refine Fix.kN ?_ _ | refine Fix.kD ?_ | refine Fix.kA ?_ _)); refine blk_far ?_ NB251_257.out _; (with_reducible repeat (first | refine Fix.kN ?_ _ | refine Fix.kD ?_ | refine Fix.kA ?_ _)); refine blk_far ?_ NB251_257.out _; (with_reducible repeat (first | refine Fix.kN ?_ _ | refine Fix.kD ?_ | refine Fix.kA ?_ _)); exact BK251.out⟩, ⟨by (with_reducible repeat (first | refine Fix.kN ?_ _ | refine Fix.kD ?_ | refine Fix.kA ?_ _)); refine blk_put (cs := #[.slice none 0 0, .slice none 0 0]) ?_ 1 _ rfl; (with_reducible repeat (first | refine Fix.kN ?_ _ | refine Fix.kD ?_ | refine Fix.kA ?_ _)); refine blk_put (cs := #[.slice none 0 0, .slice none 0 0]) ?_ 0 _ rfl; (with_reducible repeat (first | refine Fix.kN ?_ _ | refine Fix.kD ?_ | refine Fix.kA ?_ _)); exact BK257.out⟩, ⟨Fix.uB⟩⟩
          case round =>
            clear H'
            try clear c1
            try clear p2
            try clear c6
            try clear c8
            try clear c10
            try clear c10b0
            try clear c10b1
            try clear c15
            try clear hcz16_0
            try clear hcz16_1
            try clear hcz9_0
            try clear hcz9_1
            try clear hfz16_0
            try clear hfz16_1
            try clear hfz9_0
            try clear hfz9_1
            try clear p2
            obtain ⟨x7_2, x8_2, x258000_2, x258001_2, u258000, u258001, rfl, rfl, HA, HK2, HO_258000, HO_258001, BK251, BK257, HB⟩ := hrel
            cases gk with
            | zero => exact absurd HA.out (by simp [spec_DiffuseRow.l0])
            | succ k2 =>
              have H := HA.out
              clear HA
              simp only [spec_DiffuseRow.l0] at H
              by_cases c17 : x8_2 < 32
              · rw [if_pos c17] at H
                have c17b0 : decide (x8_2 < 32) = true := decide_eq_true c17
                clear c17
                by_cases c18 : 0 ≤ x8_2
                · rw [if_pos c18] at H
                  have c18b0 : decide (0 ≤ x8_2) = true := decide_eq_true c18
                  clear c18
                  by_cases c19 : x8_2 < (l0.length : Int)
                  · rw [if_pos c19] at H
                    have c19b0 : decide (x8_2 < (l0.length : Int)) = true := decide_eq_true c19
                    clear c19
                    by_cases c20 : x8_2 < (l1.length : Int)
                    · rw [if_pos c20] at H
                      have c20b0 : decide (x8_2 < (l1.length : Int)) = true := decide_eq_true c20
                      clear c20
                      by_cases c21 : (wrap64 ((wrap64 ((rd l0 x8_2) + (rd l1 x8_2))) + x7_2)) ≥ 128
                      · rw [if_pos c21] at H
                        have c21b0 : decide (128 ≤ (wrap64 ((wrap64 ((rd l0 x8_2) + (rd l1 x8_2))) + x7_2))) = true := decide_eq_true c21
                        clear c21
                        replace H := Option.bind_eq_some_iff.mp H
                        obtain ⟨t262, A220, H⟩ := H
                        replace H : ((spec_l21Part.f (wrap64 ((wrap64 ((wrap64 ((rd l0 x8_2) + (rd l1 x8_2))) + x7_2)) - (255 * 1))) 5).bind fun t263 => ((spec_l21Part.f (wrap64 ((wrap64 ((wrap64 ((rd l0 x8_2) + (rd l1 x8_2))) + x7_2)) - (255 * 1))) 1).bind fun t264 => (if x258000_2.length < 17592186044416 then (if 0 ≤ (mx 0 (wrap64 (x8_2 - 1))) then (if (mx 0 (wrap64 (x8_2 - 1))) < (x258001_2.length : Int) then ((some (x258001_2.set ((mx 0 (wrap64 (x8_2 - 1))) : Int).toNat (wrap64 ((rd x258001_2 (mx 0 (wrap64 (x8_2 - 1)))) + t262)) : List Int)).bind fun y269 => (if x8_2 < (x258001_2.length : Int) then ((some (y269.set (x8_2 : Int).toNat (wrap64 ((rd y269 x8_2) + t263)) : List Int)).bind fun y271 => (if 0 ≤ (mn 31 (wrap64 (x8_2 + 1))) then (if (mn 31 (wrap64 (x8_2 + 1))) < (x258001_2.length : Int) then (spec_DiffuseRow.l0 k2 l0 l1 (wrap64 ((wrap64 ((wrap64 ((wrap64 ((wrap64 ((wrap64 ((rd l0 x8_2) + (rd l1 x8_2))) + x7_2)) - (255 * 1))) - t262)) - t263)) - t264)) (wrap64 (x8_2 + 1)) (x258000_2 ++ [1]) (y271.set ((mn 31 (wrap64 (x8_2 + 1))) : Int).toNat (wrap64 ((rd y271 (mn 31 (wrap64 (x8_2 + 1)))) + t264)))) else (none)) else (none))) else (none))) else (none)) else (none)) else (none)))) = some (r1, r2, r3) := H
                        have A22 := Aside0.mk A220
                        clear A220
                        replace H := Option.bind_eq_some_iff.mp H
                        obtain ⟨t263, A230, H⟩ := H
                        replace H : ((spec_l21Part.f (wrap64 ((wrap64 ((wrap64 ((rd l0 x8_2) + (rd l1 x8_2))) + x7_2)) - (255 * 1))) 1).bind fun t264 => (if x258000_2.length < 17592186044416 then (if 0 ≤ (mx 0 (wrap64 (x8_2 - 1))) then (if (mx 0 (wrap64 (x8_2 - 1))) < (x258001_2.length : Int) then ((some (x258001_2.set ((mx 0 (wrap64 (x8_2 - 1))) : Int).toNat (wrap64 ((rd x258001_2 (mx 0 (wrap64 (x8_2 - 1)))) + t262)) : List Int)).bind fun y269 => (if x8_2 < (x258001_2.length : Int) then ((some (y269.set (x8_2 : Int).toNat (wrap64 ((rd y269 x8_2) + t263)) : List Int)).bind fun y271 => (if 0 ≤ (mn 31 (wrap64 (x8_2 + 1))) then (if (mn 31 (wrap64 (x8_2 + 1))) < (x258001_2.length : Int) then (spec_DiffuseRow.l0 k2 l0 l1 (wrap64 ((wrap64 ((wrap64 ((wrap64 ((wrap64 ((wrap64 ((rd l0 x8_2) + (rd l1 x8_2))) + x7_2)) - (255 * 1))) - t262)) - t263)) - t264)) (wrap64 (x8_2 + 1)) (x258000_2 ++ [1]) (y271.set ((mn 31 (wrap64 (x8_2 + 1))) : Int).toNat (wrap64 ((rd y271 (mn 31 (wrap64 (x8_2 + 1)))) + t264)))) else (none)) else (none))) else (none))) else (none)) else (none)) else (none))) = some (r1, r2, r3) := H
                        have A23 := Aside0.mk A230
                        clear A230
                        replace H := Option.bind_eq_some_iff.mp H
                        obtain ⟨t264, A240, H⟩ := H
                        replace H : (if x258000_2.length < 17592186044416 then (if 0 ≤ (mx 0 (wrap64 (x8_2 - 1))) then (if (mx 0 (wrap64 (x8_2 - 1))) < (x258001_2.length : Int) then ((some (x258001_2.set ((mx 0 (wrap64 (x8_2 - 1))) : Int).toNat (wrap64 ((rd x258001_2 (mx 0 (wrap64 (x8_2 - 1)))) + t262)) : List Int)).bind fun y269 => (if x8_2 < (x258001_2.length : Int) then ((some (y269.set (x8_2 : Int).toNat (wrap64 ((rd y269 x8_2) + t263)) : List Int)).bind fun y271 => (if 0 ≤ (mn 31 (wrap64 (x8_2 + 1))) then (if (mn 31 (wrap64 (x8_2 + 1))) < (x258001_2.length : Int) then (spec_DiffuseRow.l0 k2 l0 l1 (wrap64 ((wrap64 ((wrap64 ((wrap64 ((wrap64 ((wrap64 ((rd l0 x8_2) + (rd l1 x8_2))) + x7_2)) - (255 * 1))) - t262)) - t263)) - t264)) (wrap64 (x8_2 + 1)) (x258000_2 ++ [1]) (y271.set ((mn 31 (wrap64 (x8_2 + 1))) : Int).toNat (wrap64 ((rd y271 (mn 31 (wrap64 (x8_2 + 1)))) + t264)))) else (none)) else (none))) else (none))) else (none)) else (none)) else (none)) = some (r1, r2, r3) := H
                        have A24 := Aside0.mk A240
                        clear A240
                        by_cases c25 : x258000_2.length < 17592186044416
                        · rw [if_pos c25] at H
                          have LMc25 := Aside0.mk c25
                          clear c25
                          obtain ⟨y265, hy265⟩ : ∃ y_ : List Int, y_ = (x258000_2 ++ [1]) := ⟨_, rfl⟩
                          replace H : (if 0 ≤ (mx 0 (wrap64 (x8_2 - 1))) then (if (mx 0 (wrap64 (x8_2 - 1))) < (x258001_2.length : Int) then ((some (x258001_2.set ((mx 0 (wrap64 (x8_2 - 1))) : Int).toNat (wrap64 ((rd x258001_2 (mx 0 (wrap64 (x8_2 - 1)))) + t262)) : List Int)).bind fun y269 => (if x8_2 < (x258001_2.length : Int) then ((some (y269.set (x8_2 : Int).toNat (wrap64 ((rd y269 x8_2) + t263)) : List Int)).bind fun y271 => (if 0 ≤ (mn 31 (wrap64 (x8_2 + 1))) then (if (mn 31 (wrap64 (x8_2 + 1))) < (x258001_2.length : Int) then (spec_DiffuseRow.l0 k2 l0 l1 (wrap64 ((wrap64 ((wrap64 ((wrap64 ((wrap64 ((wrap64 ((rd l0 x8_2) + (rd l1 x8_2))) + x7_2)) - (255 * 1))) - t262)) - t263)) - t264)) (wrap64 (x8_2 + 1)) y265 (y271.set ((mn 31 (wrap64 (x8_2 + 1))) : Int).toNat (wrap64 ((rd y271 (mn 31 (wrap64 (x8_2 + 1)))) + t264)))) else (none)) else (none))) else (none))) else (none)) else (none)) = some (r1, r2, r3) := by first | (rw [hy265]; with_reducible exact H) | (have H2_ := (Option.bind_some _ _).symm.trans H; rw [hy265]; with_reducible exact H2_) | (have H2_ := (Option.bind_some _ _).symm.trans H; with_reducible exact H2_) | with_reducible exact H | (rw [hy265]; exact H) | exact H
                          have Ny265 := Aside0.mk hy265
                          clear hy265
                          obtain ⟨ji26, hji26⟩ : ∃ j_ : Int, (mx 0 (wrap64 (x8_2 - 1))) = j_ := ⟨_, rfl⟩
                          replace H : (if 0 ≤ (ji26) then (if (ji26) < (x258001_2.length : Int) then ((some (x258001_2.set ((ji26) : Int).toNat (wrap64 ((rd x258001_2 (ji26)) + t262)) : List Int)).bind fun y269 => (if x8_2 < (x258001_2.length : Int) then ((some (y269.set (x8_2 : Int).toNat (wrap64 ((rd y269 x8_2) + t263)) : List Int)).bind fun y271 => (if 0 ≤ (mn 31 (wrap64 (x8_2 + 1))) then (if (mn 31 (wrap64 (x8_2 + 1))) < (x258001_2.length : Int) then (spec_DiffuseRow.l0 k2 l0 l1 (wrap64 ((wrap64 ((wrap64 ((wrap64 ((wrap64 ((wrap64 ((rd l0 x8_2) + (rd l1 x8_2))) + x7_2)) - (255 * 1))) - t262)) - t263)) - t264)) (wrap64 (x8_2 + 1)) y265 (y271.set ((mn 31 (wrap64 (x8_2 + 1))) : Int).toNat (wrap64 ((rd y271 (mn 31 (wrap64 (x8_2 + 1)))) + t264)))) else (none)) else (none))) else (none))) else (none)) else (none)) = some (r1, r2, r3) := by first | (rw [hji26] at H; exact H) | (simp only [hji26] at H ⊢; exact H)
                          (try rw [hji26] at A22)
                          (try rw [hji26] at A23)
                          (try rw [hji26] at A24)
                          have hji26_ : (if 0 < (wrap64 (x8_2 - 1)) then (wrap64 (x8_2 - 1)) else 0) = ji26 := hji26
                          by_cases c28 : 0 ≤ (ji26)
                          · rw [if_pos c28] at H
                            have c28b0 : decide (0 ≤ (ji26)) = true := decide_eq_true c28
                            clear c28
                            by_cases c29 : (ji26) < (x258001_2.length : Int)
                            · rw [if_pos c29] at H
                              have c29b0 : decide ((ji26) < (x258001_2.length : Int)) = true := decide_eq_true c29
                              clear c29
                              obtain ⟨y269, hy269⟩ : ∃ y_ : List Int, y_ = (x258001_2.set ((ji26) : Int).toNat (wrap64 ((rd x258001_2 (ji26)) + t262))) := ⟨_, rfl⟩
                              replace H : (if x8_2 < (x258001_2.length : Int) then ((some (y269.set (x8_2 : Int).toNat (wrap64 ((rd y269 x8_2) + t263)) : List Int)).bind fun y271 => (if 0 ≤ (mn 31 (wrap64 (x8_2 + 1))) then (if (mn 31 (wrap64 (x8_2 + 1))) < (x258001_2.length : Int) then (spec_DiffuseRow.l0 k2 l0 l1 (wrap64 ((wrap64 ((wrap64 ((wrap64 ((wrap64 ((wrap64 ((rd l0 x8_2) + (rd l1 x8_2))) + x7_2)) - (255 * 1))) - t262)) - t263)) - t264)) (wrap64 (x8_2 + 1)) y265 (y271.set ((mn 31 (wrap64 (x8_2 + 1))) : Int).toNat (wrap64 ((rd y271 (mn 31 (wrap64 (x8_2 + 1)))) + t264)))) else (none)) else (none))) else (none)) = some (r1, r2, r3) := by first | (rw [hy269]; with_reducible exact H) | (have H2_ := (Option.bind_some _ _).symm.trans H; rw [hy269]; with_reducible exact H2_) | (have H2_ := (Option.bind_some _ _).symm.trans H; with_reducible exact H2_) | with_reducible exact H | (rw [hy269]; exact H) | exact H
                              have Ny269 := Aside0.mk hy269
                              clear hy269
                              by_cases c31 : x8_2 < (x258001_2.length : Int)
                              · rw [if_pos c31] at H
                                have c31b0 : decide (x8_2 < (x258001_2.length : Int)) = true := decide_eq_true c31
                                clear c31
                                obtain ⟨y271, hy271⟩ : ∃ y_ : List Int, y_ = (y269.set (x8_2 : Int).toNat (wrap64 ((rd y269 x8_2) + t263))) := ⟨_, rfl⟩
                                replace H : (if 0 ≤ (mn 31 (wrap64 (x8_2 + 1))) then (if (mn 31 (wrap64 (x8_2 + 1))) < (x258001_2.length : Int) then (spec_DiffuseRow.l0 k2 l0 l1 (wrap64 ((wrap64 ((wrap64 ((wrap64 ((wrap64 ((wrap64 ((rd l0 x8_2) + (rd l1 x8_2))) + x7_2)) - (255 * 1))) - t262)) - t263)) - t264)) (wrap64 (x8_2 + 1)) y265 (y271.set ((mn 31 (wrap64 (x8_2 + 1))) : Int).toNat (wrap64 ((rd y271 (mn 31 (wrap64 (x8_2 + 1)))) + t264)))) else (none)) else (none)) = some (r1, r2, r3) := by first | (rw [hy271]; with_reducible exact H) | (have H2_ := (Option.bind_some _ _).symm.trans H; rw [hy271]; with_reducible exact H2_) | (have H2_ := (Option.bind_some _ _).symm.trans H; with_reducible exact H2_) | with_reducible exact H | (rw [hy271]; exact H) | exact H
                                have Ny271 := Aside0.mk hy271
                                clear hy271
                                obtain ⟨ji33, hji33⟩ : ∃ j_ : Int, (mn 31 (wrap64 (x8_2 + 1))) = j_ := ⟨_, rfl⟩
                                replace H : (if 0 ≤ (ji33) then (if (ji33) < (x258001_2.length : Int) then (spec_DiffuseRow.l0 k2 l0 l1 (wrap64 ((wrap64 ((wrap64 ((wrap64 ((wrap64 ((wrap64 ((rd l0 x8_2) + (rd l1 x8_2))) + x7_2)) - (255 * 1))) - t262)) - t263)) - t264)) (wrap64 (x8_2 + 1)) y265 (y271.set ((ji33) : Int).toNat (wrap64 ((rd y271 (ji33)) + t264)))) else (none)) else (none)) = some (r1, r2, r3) := by first | (rw [hji33] at H; exact H) | (simp only [hji33] at H ⊢; exact H)
                                (try rw [hji33] at A22)
                                (try rw [hji33] at A23)
                                (try rw [hji33] at A24)
                                have hji33_ : (if (wrap64 (x8_2 + 1)) < 31 then (wrap64 (x8_2 + 1)) else 31) = ji33 := hji33
                                by_cases c35 : 0 ≤ (ji33)
                                · rw [if_pos c35] at H
                                  have c35b0 : decide (0 ≤ (ji33)) = true := decide_eq_true c35
                                  clear c35
                                  by_cases c36 : (ji33) < (x258001_2.length : Int)
                                  · rw [if_pos c36] at H
                                    have c36b0 : decide ((ji33) < (x258001_2.length : Int)) = true := decide_eq_true c36
                                    clear c36
                                    obtain ⟨y273, hy273⟩ : ∃ y_ : List Int, y_ = (y271.set ((ji33) : Int).toNat (wrap64 ((rd y271 (ji33)) + t264))) := ⟨_, rfl⟩
                                    replace H : (spec_DiffuseRow.l0 k2 l0 l1 (wrap64 ((wrap64 ((wrap64 ((wrap64 ((wrap64 ((wrap64 ((rd l0 x8_2) + (rd l1 x8_2))) + x7_2)) - (255 * 1))) - t262)) - t263)) - t264)) (wrap64 (x8_2 + 1)) y265 y273) = some (r1, r2, r3) := by first | (rw [hy273]; with_reducible exact H) | (have H2_ := (Option.bind_some _ _).symm.trans H; rw [hy273]; with_reducible exact H2_) | (have H2_ := (Option.bind_some _ _).symm.trans H; with_reducible exact H2_) | with_reducible exact H | (rw [hy273]; exact H) | exact H
                                    have Ny273 := Aside0.mk hy273
                                    clear hy273
                                    have H' := Aside0.mk H
                                    clear H
                                    try go_wp2
                                    have n0_ := Aside0.mk (Kd.R_drew HO_258000.out)
                                    have n1_ := Aside0.mk (Kd.R_drew HO_258001.out)
                                    have n2_ := Aside0.mk (blk_drew BK251.out)
                                    have n3_ := Aside0.mk (blk_drew BK257.out)
                                    have n4_ := Aside0.mk (below_drew1 HB.out)
                                    clear HO_258000
                                    clear HO_258001
                                    clear BK251
                                    clear BK257
                                    clear HB
                                    have HO_258000 := n0_
                                    have HO_258001 := n1_
                                    have BK251 := n2_
                                    have BK257 := n3_
                                    have HB := n4_
                                    clear n0_ n1_ n2_ n3_ n4_
                                    have p260 : 0 ≤ (x8_2 : Int) := of_decide_eq_true (by first | (with_reducible assumption) | assumption)
                                    have q260 : x8_2 < (l0.length : Int) := of_decide_eq_true (by first | (with_reducible assumption) | assumption)
                                    obtain ⟨ad260, e260, hx260_0⟩ := Kd.at_int HR0.out x8_2 p260 q260
                                    have hw260_0 := hx260_0
                                    cases e260
                                    replace hx260_0 := (HB.out.cell (World.block_lt_of_cell? w _ hx260_0)).trans hx260_0
                                    replace p260 := eq_true p260
                                    replace q260 := eq_true q260
                                    have p261 : 0 ≤ (x8_2 : Int) := of_decide_eq_true (by first | (with_reducible assumption) | assumption)
                                    have q261 : x8_2 < (l1.length : Int) := of_decide_eq_true (by first | (with_reducible assumption) | assumption)
                                    obtain ⟨ad261, e261, hx261_0⟩ := Kd.at_int HR1.out x8_2 p261 q261
                                    have hw261_0 := hx261_0
                                    cases e261
                                    replace hx261_0 := (HB.out.cell (World.block_lt_of_cell? w _ hx261_0)).trans hx261_0
                                    replace p261 := eq_true p261
                                    replace q261 := eq_true q261
                                    refine start_ (n := 12) (S := fun w' => w'.cell? (ad260.add (x8_2).toNat) = some (.int .i64 (rd l0 x8_2)) ∧ w'.cell? (ad261.add (x8_2).toNat) = some (.int .i64 (rd l1 x8_2))) (ds := []) #[false, false, false, false, false, false, false, false, false, false, false, false] (by kernel_rfl) rfl rfl ⟨((HB.out.cell (World.block_lt_of_cell? w _ hw260_0)).trans hw260_0), ((HB.out.cell (World.block_lt_of_cell? w _ hw261_0)).trans hw261_0)⟩ (fun hHeld => ?_); refine with_tabW spec_DiffuseRow.tab8 spec_DiffuseRow.bits8 (fun HT_ HW_ => ?_)
                                    generalize wr.drew = w38 at HO_258000 HO_258001 BK251 BK257 HB hx260_0 hx261_0 hHeld ⊢
                                    refine pure_ (i := 0) (N := some 30) (v := ?_) (a' := ?_) #[true, false, false, false, false, false, false, false, false, false, false, false] rfl rfl (any_of HT_.out (by kernel_rfl)) (fun _ _ _ h => h) (Or.inl ⟨by rfl, ?_⟩) ?_ ?_
                                    rotate_left
                                    · intro w'
                                      go_simp
                                      with_reducible rfl
                                    rotate_left
                                    · simp only [Act.put, List.setIfInBounds_toArray, List.set_cons_zero, List.set_cons_succ, i64_w, i32_w]
                                      rfl
                                    refine pure_ (i := 1) (N := some 31) (v := ?_) (a' := ?_) #[true, true, false, false, false, false, false, false, false, false, false, false] rfl rfl (any_of HT_.out (by kernel_rfl)) (fun _ _ _ h => h) (Or.inl ⟨by rfl, ?_⟩) ?_ ?_
                                    rotate_left
                                    · intro w'
                                      go_simp
                                      with_reducible rfl
                                    rotate_left
                                    · simp only [Act.put, List.setIfInBounds_toArray, List.set_cons_zero, List.set_cons_succ, i64_w, i32_w]
                                      rfl
                                    refine pure_ (i := 2) (N := some 32) (v := ?_) (a' := ?_) #[true, true, true, false, false, false, false, false, false, false, false, false] rfl rfl (any_of HT_.out (by kernel_rfl)) (fun _ _ _ h => h) (Or.inl ⟨by rfl, ?_⟩) ?_ ?_
                                    rotate_left
                                    · intro w'
                                      go_simp
                                      with_reducible rfl
                                    rotate_left
                                    · simp only [Act.put, List.setIfInBounds_toArray, List.set_cons_zero, List.set_cons_succ, i64_w, i32_w]
                                      rfl
                                    refine pure_ (i := 4) (N := some 34) (v := ?_) (a' := ?_) #[true, true, true, false, true, false, false, false, false, false, false, false] rfl rfl (any_of HT_.out (by kernel_rfl)) (fun _ _ _ h => h) (Or.inl ⟨by rfl, ?_⟩) ?_ ?_
                                    rotate_left
                                    · intro w'
                                      go_simp
                                      with_reducible rfl
                                    rotate_left
                                    · simp only [Act.put, List.setIfInBounds_toArray, List.set_cons_zero, List.set_cons_succ, i64_w, i32_w]
                                      rfl
                                    refine pure_ (i := 5) (N := some 35) (v := ?_) (a' := ?_) #[true, true, true, false, true, true, false, false, false, false, false, false] rfl rfl (any_of HT_.out (by kernel_rfl)) (fun _ _ _ h => h) (Or.inl ⟨by rfl, ?_⟩) ?_ ?_
                                    rotate_left
                                    · intro w'
                                      go_simp
                                      with_reducible rfl
                                    rotate_left
                                    · simp only [Act.put, List.setIfInBounds_toArray, List.set_cons_zero, List.set_cons_succ, i64_w, i32_w]
                                      rfl
                                    refine pure_ (i := 6) (N := some 36) (v := ?_) (a' := ?_) #[true, true, true, false, true, true, true, false, false, false, false, false] rfl rfl (any_of HT_.out (by kernel_rfl)) (fun _ _ _ h => h) (Or.inl ⟨by rfl, ?_⟩) ?_ ?_
                                    rotate_left
                                    · intro w'
                                      go_simp
                                      with_reducible rfl
                                    rotate_left
                                    · simp only [Act.put, List.setIfInBounds_toArray, List.set_cons_zero, List.set_cons_succ, i64_w, i32_w]
                                      rfl
                                    refine pure_ (i := 9) (N := some 39) (v := ?_) (a' := ?_) #[true, true, true, false, true, true, true, false, false, true, false, false] rfl rfl (any_of HT_.out (by kernel_rfl)) (fun _ _ _ h => h) (Or.inl ⟨by rfl, ?_⟩) ?_ ?_
                                    rotate_left
                                    · intro w'
                                      go_simp
                                      with_reducible rfl
                                    rotate_left
                                    · simp only [Act.put, List.setIfInBounds_toArray, List.set_cons_zero, List.set_cons_succ, i64_w, i32_w]
                                      rfl
                                    refine take_ (i := 3) (N := some 33) (v := ?_) (a' := ?_) #[true, true, true, true, true, true, true, false, false, true, false, false] rfl rfl (take_ofW HT_.out HW_.out (by kernel_rfl)) (fun _ _ _ h => h) (Or.inl ⟨by rfl, ?_⟩) hHeld ?_ ?_
                                    rotate_left
                                    · rintro w' ⟨s0, s1⟩
                                      go_simp
                                      with_reducible rfl
                                    rotate_left
                                    · simp only [Act.put, List.setIfInBounds_toArray, List.set_cons_zero, List.set_cons_succ, i64_w, i32_w]
                                      rfl
                                    refine take_ (i := 7) (N := some 37) (v := ?_) (a' := ?_) #[true, true, true, true, true, true, true, true, false, true, false, false] rfl rfl (take_ofW HT_.out HW_.out (by kernel_rfl)) (fun _ _ _ h => h) (Or.inl ⟨by rfl, ?_⟩) hHeld ?_ ?_
                                    rotate_left
                                    · rintro w' ⟨s0, s1⟩
                                      go_simp
                                      with_reducible rfl
                                    rotate_left
                                    · simp only [Act.put, List.setIfInBounds_toArray, List.set_cons_zero, List.set_cons_succ, i64_w, i32_w]
                                      rfl
                                    refine pure_ (i := 8) (N := some 38) (v := ?_) (a' := ?_) #[true, true, true, true, true, true, true, true, true, true, false, false] rfl rfl (any_of HT_.out (by kernel_rfl)) (fun _ _ _ h => h) (Or.inl ⟨by rfl, ?_⟩) ?_ ?_
                                    rotate_left
                                    · intro w'
                                      go_simp
                                      with_reducible rfl
                                    rotate_left
                                    · simp only [Act.put, List.setIfInBounds_toArray, List.set_cons_zero, List.set_cons_succ, i64_w, i32_w]
                                      rfl
                                    refine pure_ (i := 10) (N := some 40) (v := ?_) (a' := ?_) #[true, true, true, true, true, true, true, true, true, true, true, false] rfl rfl (any_of HT_.out (by kernel_rfl)) (fun _ _ _ h => h) (Or.inl ⟨by rfl, ?_⟩) ?_ ?_
                                    rotate_left
                                    · intro w'
                                      go_simp
                                      with_reducible rfl
                                    rotate_left
                                    · simp only [Act.put, List.setIfInBounds_toArray, List.set_cons_zero, List.set_cons_succ, i64_w, i32_w]
                                      rfl
                                    refine pure_ (i := 11) (N := some 9) (v := ?_) (a' := ?_) #[true, true, true, true, true, true, true, true, true, true, true, true] rfl rfl (any_of HT_.out (by kernel_rfl)) (fun _ _ _ h => h) (Or.inl ⟨by rfl, ?_⟩) ?_ ?_
                                    rotate_left
                                    · intro w'
                                      go_simp
                                      with_reducible rfl
                                    rotate_left
                                    · simp only [Act.put, List.setIfInBounds_toArray, List.set_cons_zero, List.set_cons_succ, i64_w, i32_w]
                                      rfl
                                    refine done_ (done_of HT_.out (by kernel_rfl)) ?_
                                    try go_wp2_with (first | ((with_reducible refine gate_callee (f := 104) rfl ?_); refine goesL_ (some 48) rfl rfl Try.func104 (by kernel_rfl) rfl #[.int .i64 (wrap64 ((wrap64 ((wrap64 ((rd l0 x8_2) + (rd l1 x8_2))) + x7_2)) - (255 * 1))), .int .i64 3] rfl Fix.uA ?_; (with_reducible refine (spec_l21Part.calls (wrap64 ((wrap64 ((wrap64 ((rd l0 x8_2) + (rd l1 x8_2))) + x7_2)) - (255 * 1))) 3 t262 _ A22.out).mono ?_); rintro e w' ⟨rfl, ⟨nd, rfl⟩⟩; refine ⟨_, rfl, ?_⟩; (try (rw [drewN_self w38]; generalize hq_ : World.drewN w38 _ = w38; have n0_ : Aside0 (Kd.R (Kd.int .i64) 3 w38 w.heap.size (fun k_ => some k_ ≠ (u258001 : Value).ownBlock) u258000 x258000_2) := ⟨by rw [← hq_]; exact (Fix.uR HO_258000.out)⟩; have n1_ : Aside0 (Kd.R (Kd.int .i64) 3 w38 w.heap.size (fun k_ => some k_ ≠ (u258000 : Value).ownBlock) u258001 x258001_2) := ⟨by rw [← hq_]; exact (Fix.uR HO_258001.out)⟩; have n2_ : Aside0 (w38.heap[gb251]? = some (.cells #[.slice none 0 0, .slice none 0 0] 92 (0, 0))) := ⟨by rw [← hq_]; exact (Fix.uK BK251.out)⟩; have n3_ : Aside0 (w38.heap[gb257]? = some (.cells #[u258000, u258001] 92 (0, 0))) := ⟨by rw [← hq_]; exact (Fix.uK BK257.out)⟩; have n4_ : Aside0 (Below w.heap.size w w38) := ⟨by rw [← hq_]; exact Fix.uB⟩; clear HO_258000 HO_258001 BK251 BK257 HB hq_; have HO_258000 := n0_; have HO_258001 := n1_; have BK251 := n2_; have BK257 := n3_; have HB := n4_; clear n0_ n1_ n2_ n3_ n4_))) | ((with_reducible refine gate_callee (f := 104) rfl ?_); refine goesL_ (some 50) rfl rfl Try.func104 (by kernel_rfl) rfl #[.int .i64 (wrap64 ((wrap64 ((wrap64 ((rd l0 x8_2) + (rd l1 x8_2))) + x7_2)) - (255 * 1))), .int .i64 5] rfl Fix.uA ?_; (with_reducible refine (spec_l21Part.calls (wrap64 ((wrap64 ((wrap64 ((rd l0 x8_2) + (rd l1 x8_2))) + x7_2)) - (255 * 1))) 5 t263 _ A23.out).mono ?_); rintro e w' ⟨rfl, ⟨nd, rfl⟩⟩; refine ⟨_, rfl, ?_⟩; (try (rw [drewN_self w38]; generalize hq_ : World.drewN w38 _ = w38; have n0_ : Aside0 (Kd.R (Kd.int .i64) 3 w38 w.heap.size (fun k_ => some k_ ≠ (u258001 : Value).ownBlock) u258000 x258000_2) := ⟨by rw [← hq_]; exact (Fix.uR HO_258000.out)⟩; have n1_ : Aside0 (Kd.R (Kd.int .i64) 3 w38 w.heap.size (fun k_ => some k_ ≠ (u258000 : Value).ownBlock) u258001 x258001_2) := ⟨by rw [← hq_]; exact (Fix.uR HO_258001.out)⟩; have n2_ : Aside0 (w38.heap[gb251]? = some (.cells #[.slice none 0 0, .slice none 0 0] 92 (0, 0))) := ⟨by rw [← hq_]; exact (Fix.uK BK251.out)⟩; have n3_ : Aside0 (w38.heap[gb257]? = some (.cells #[u258000, u258001] 92 (0, 0))) := ⟨by rw [← hq_]; exact (Fix.uK BK257.out)⟩; have n4_ : Aside0 (Below w.heap.size w w38) := ⟨by rw [← hq_]; exact Fix.uB⟩; clear HO_258000 HO_258001 BK251 BK257 HB hq_; have HO_258000 := n0_; have HO_258001 := n1_; have BK251 := n2_; have BK257 := n3_; have HB := n4_; clear n0_ n1_ n2_ n3_ n4_))) | ((with_reducible refine gate_callee (f := 104) rfl ?_); refine goesL_ (some 52) rfl rfl Try.func104 (by kernel_rfl) rfl #[.int .i64 (wrap64 ((wrap64 ((wrap64 ((rd l0 x8_2) + (rd l1 x8_2))) + x7_2)) - (255 * 1))), .int .i64 1] rfl Fix.uA ?_; (with_reducible refine (spec_l21Part.calls (wrap64 ((wrap64 ((wrap64 ((rd l0 x8_2) + (rd l1 x8_2))) + x7_2)) - (255 * 1))) 1 t264 _ A24.out).mono ?_); rintro e w' ⟨rfl, ⟨nd, rfl⟩⟩; refine ⟨_, rfl, ?_⟩; (try (rw [drewN_self w38]; generalize hq_ : World.drewN w38 _ = w38; have n0_ : Aside0 (Kd.R (Kd.int .i64) 3 w38 w.heap.size (fun k_ => some k_ ≠ (u258001 : Value).ownBlock) u258000 x258000_2) := ⟨by rw [← hq_]; exact (Fix.uR HO_258000.out)⟩; have n1_ : Aside0 (Kd.R (Kd.int .i64) 3 w38 w.heap.size (fun k_ => some k_ ≠ (u258000 : Value).ownBlock) u258001 x258001_2) := ⟨by rw [← hq_]; exact (Fix.uR HO_258001.out)⟩; have n2_ : Aside0 (w38.heap[gb251]? = some (.cells #[.slice none 0 0, .slice none 0 0] 92 (0, 0))) := ⟨by rw [← hq_]; exact (Fix.uK BK251.out)⟩; have n3_ : Aside0 (w38.heap[gb257]? = some (.cells #[u258000, u258001] 92 (0, 0))) := ⟨by rw [← hq_]; exact (Fix.uK BK257.out)⟩; have n4_ : Aside0 (Below w.heap.size w w38) := ⟨by rw [← hq_]; exact Fix.uB⟩; clear HO_258000 HO_258001 BK251 BK257 HB hq_; have HO_258000 := n0_; have HO_258001 := n1_; have BK251 := n2_; have BK257 := n3_; have HB := n4_; clear n0_ n1_ n2_ n3_ n4_)); have hnb39 := NB257_251.out; have hnc39 := NB251_257.out; have hcz40_0 : w38.cell? ⟨gb257, 0, none⟩ = some (u258000) := (blk_cell BK257.out 0).trans rfl; have hcz40_1 : w38.cell? ⟨gb257, 1, none⟩ = some (u258001) := (blk_cell BK257.out 1).trans rfl; have hfz40_0 := blk_frozen BK257.out 0; have hfz40_1 := blk_frozen BK257.out 1) | ((with_reducible refine gate_builtin (b := .append) (xs := #[.tmp 61, .tmp 63]) rfl ?_); at_builtin; refine Kd.R_append (Kd.int .i64) (w0 := w) w.heap.size rfl (.tmp 61) (.tmp 63) 39 3 (.int .i64 0) 8 rfl Try.underlying39 info3 rfl (by decide) (by omega) u258000 x258000_2 1 [.int .i64 1] (fun k_ => some k_ ≠ (u258001 : Value).ownBlock) (fun _ => False) rfl rfl ?aP (fun _ hk => hk.elim) ?aF ?aO ?aB ?aS ?aL ?_; (case aP => exact rfl); (case aB => exact Fix.uB); (case aF => exact (fun k_ hk => Kd.fresh' (Kd.R_lt (Fix.uR HO_258001.out)) k_ hk)); (case aO => exact (Fix.uR HO_258000.out)); (case aS => exact (below_size Fix.uB)); (case aL => have := LMc25.out; omega); intro v266 w41 ho hb hg hat; rw [← Ny265.out] at ho; have n0_ := Aside0.mk (Kd.R_after (ok := (fun _ => True)) (by (with_reducible repeat (first | apply Kd.R_alloc | apply Kd.R_drewN | apply Kd.R_drew)); exact Kd.R_mono HO_258001.out (fun _ hk => ⟨trivial, hk⟩)) hg hat); have n1_ := Aside0.mk (blk_grown (g := gb251) (o := .cells #[.slice none 0 0, .slice none 0 0] 92 (0, 0)) (Fix.uK BK251.out) hg (Kd.R_ne HO_258000.out BK251.out (by decide))); have n2_ := Aside0.mk (blk_grown (g := gb257) (o := .cells #[u258000, u258001] 92 (0, 0)) (Fix.uK BK257.out) hg (Kd.R_ne HO_258000.out BK257.out (by decide))); have n3_ := Aside0.mk (hb); have n4_ := Aside0.mk (ho); clear HO_258001; clear BK251; clear BK257; clear HB; clear HO_258000; have HO_258001 := n0_; have BK251 := n1_; have BK257 := n2_; have HB := n3_; have HO267 := n4_; clear n0_ n1_ n2_ n3_ n4_; clear ho hb hg hat; obtain ⟨Ao42, co42, eo42⟩ := Kd.R_slice HO267.out; subst eo42; have hcz43_0 : w41.cell? ⟨gb257, 0, none⟩ = some (u258000) := (blk_cell BK257.out 0).trans rfl; have hcz43_1 : w41.cell? ⟨gb257, 1, none⟩ = some (u258001) := (blk_cell BK257.out 1).trans rfl; have hfz43_0 := blk_frozen BK257.out 0; have hfz43_1 := blk_frozen BK257.out 1))
                                    have n0_ : Aside0 (Kd.R (Kd.int .i64) 3 (w41.setCell ⟨gb257, 0, none⟩ (.slice Ao42 y265.length co42)) w.heap.size (fun k_ => some k_ ≠ (.slice Ao42 y265.length co42 : Value).ownBlock) u258001 x258001_2) := ⟨by (with_reducible repeat (first | apply Kd.R_alloc | apply Kd.R_drewN | apply Kd.R_drew)); exact Kd.R_mono (Kd.R_far (p := ⟨gb257, 0, none⟩) (Kd.R_types HO_258001.out BK257.out (by decide)) (fun _ hk => hk.2) (.slice Ao42 y265.length co42)) (fun _ hk => hk.1.2)⟩
                                    have n1_ : Aside0 (Kd.R (Kd.int .i64) 3 (w41.setCell ⟨gb257, 0, none⟩ (.slice Ao42 y265.length co42)) w.heap.size (fun k_ => some k_ ≠ (u258001 : Value).ownBlock) (.slice Ao42 y265.length co42) y265) := ⟨by (with_reducible repeat (first | apply Kd.R_alloc | apply Kd.R_drewN | apply Kd.R_drew)); exact Kd.R_mono (Kd.R_far (p := ⟨gb257, 0, none⟩) (Kd.R_types HO267.out BK257.out (by decide)) (fun _ hk => hk.2) (.slice Ao42 y265.length co42)) (fun _ hk => hk.1)⟩
                                    have n2_ : Aside0 ((w41.setCell ⟨gb257, 0, none⟩ (.slice Ao42 y265.length co42)).heap[gb251]? = some (.cells #[.slice none 0 0, .slice none 0 0] 92 (0, 0))) := ⟨by (with_reducible repeat (first | refine Fix.kN ?_ _ | refine Fix.kD ?_ | refine Fix.kA ?_ _)); refine blk_far ?_ NB251_257.out _; (with_reducible repeat (first | refine Fix.kN ?_ _ | refine Fix.kD ?_ | refine Fix.kA ?_ _)); exact BK251.out⟩
                                    have n3_ : Aside0 ((w41.setCell ⟨gb257, 0, none⟩ (.slice Ao42 y265.length co42)).heap[gb257]? = some (.cells #[.slice Ao42 y265.length co42, u258001] 92 (0, 0))) := ⟨by (with_reducible repeat (first | refine Fix.kN ?_ _ | refine Fix.kD ?_ | refine Fix.kA ?_ _)); refine blk_put (cs := #[u258000, u258001]) ?_ 0 _ rfl; (with_reducible repeat (first | refine Fix.kN ?_ _ | refine Fix.kD ?_ | refine Fix.kA ?_ _)); exact BK257.out⟩
                                    have n4_ : Aside0 (Below w.heap.size w (w41.setCell ⟨gb257, 0, none⟩ (.slice Ao42 y265.length co42))) := ⟨Fix.uB⟩
                                    (try clear HO_258001)
                                    (try clear HO267)
                                    (try clear BK251)
                                    (try clear BK257)
                                    (try clear HB)
                                    generalize (w41.setCell ⟨gb257, 0, none⟩ (.slice Ao42 y265.length co42)) = w44 at n0_ n1_ n2_ n3_ n4_ ⊢
                                    have HO_258001 := n0_
                                    have HO267 := n1_
                                    have BK251 := n2_
                                    have BK257 := n3_
                                    have HB := n4_
                                    clear n0_ n1_ n2_ n3_ n4_
                                    have n0_ := Aside0.mk (Kd.R_drew HO_258001.out)
                                    have n1_ := Aside0.mk (Kd.R_drew HO267.out)
                                    have n2_ := Aside0.mk (blk_drew BK251.out)
                                    have n3_ := Aside0.mk (blk_drew BK257.out)
                                    have n4_ := Aside0.mk (below_drew1 HB.out)
                                    clear HO_258001
                                    clear HO267
                                    clear BK251
                                    clear BK257
                                    clear HB
                                    have HO_258001 := n0_
                                    have HO267 := n1_
                                    have BK251 := n2_
                                    have BK257 := n3_
                                    have HB := n4_
                                    clear n0_ n1_ n2_ n3_ n4_
                                    obtain ⟨Ao46, co46, eo46⟩ := Kd.R_slice HO_258001.out
                                    (first | subst eo46 | (injection eo46 with f1_ f2_ f3_; have f4_ := f1_.symm; have f5_ := f3_.symm; clear f1_ f2_ f3_; subst f4_; subst f5_))
                                    have p268 : 0 ≤ ((ji26) : Int) := of_decide_eq_true (by first | (with_reducible assumption) | assumption)
                                    have q268 : (ji26) < (x258001_2.length : Int) := of_decide_eq_true (by first | (with_reducible assumption) | assumption)
                                    obtain ⟨ad268, e268, hx268_0⟩ := Kd.at_int (Kd.R_reads' HO_258001.out).2.2 (ji26) p268 q268
                                    cases e268
                                    replace p268 := eq_true p268
                                    replace q268 := eq_true q268
                                    have p30 : 0 ≤ ((ji26) : Int) := of_decide_eq_true (by first | (with_reducible assumption) | assumption)
                                    have q30 : ((ji26) : Int) < ((x258001_2.length : Int) : Int) := of_decide_eq_true (by first | (with_reducible assumption) | assumption)
                                    obtain ⟨go30, co30, eo30, gb30, gl30, cl30, HG30⟩ := Kd.R_form HO_258001.out (by omega)
                                    (first | cases eo30 | (injection eo30 with ea_ en_ ec_; (first | subst ea_ | (injection ea_ with ea_; subst ea_)); subst ec_; clear en_))
                                    have GB30 := Aside0.mk gb30
                                    have GG30 := Aside0.mk HG30
                                    clear gb30 gl30 HG30
                                    (first | simp only [add_plain] at hx268_0 | skip)
                                    obtain ⟨hx30_0, hf30_0⟩ := Kd.R_celln 0 HO_258001.out ((ji26) : Int) p30 q30
                                    replace p30 := eq_true p30
                                    replace q30 := eq_true q30
                                    have HP47 := Kd.R_putn HO_258001.out ((ji26) : Int) (wrap64 ((rd x258001_2 (ji26)) + t262))
                                    rw [← Ny269.out] at HP47
                                    have HQ47 := Aside0.mk HP47
                                    clear HP47
                                    refine start_ (n := 16) (S := fun w' => w'.cell? ⟨gb257, 0, none⟩ = some (.slice Ao42 y265.length co42) ∧ w'.cell? ⟨gb257, 1, none⟩ = some (.slice (some ⟨go30, 0, none⟩) x258001_2.length co46) ∧ w'.cell? ⟨go30, ((ji26)).toNat, none⟩ = some (.int .i64 (rd x258001_2 (ji26)))) (ds := [15]) #[false, false, false, false, false, false, false, false, false, false, false, false, false, false, false, false] (by kernel_rfl) rfl rfl ⟨(blk_cell BK257.out 0).trans rfl, (blk_cell BK257.out 1).trans rfl, hx268_0⟩ (fun hHeld => ?_); refine with_tabW spec_DiffuseRow.tab18 spec_DiffuseRow.bits18 (fun HT_ HW_ => ?_)
                                    generalize w44.drew = w45 at HO_258001 HO267 BK251 BK257 HB GG30 HQ47 hf30_0 hx268_0 hx30_0 hHeld ⊢
                                    refine pure_ (i := 0) (N := some 66) (v := ?_) (a' := ?_) #[true, false, false, false, false, false, false, false, false, false, false, false, false, false, false, false] rfl rfl (any_of HT_.out (by kernel_rfl)) (fun _ _ _ h => h) (Or.inl ⟨by rfl, ?_⟩) ?_ ?_
                                    rotate_left
                                    · intro w'
                                      go_simp
                                      with_reducible rfl
                                    rotate_left
                                    · simp only [Act.put, List.setIfInBounds_toArray, List.set_cons_zero, List.set_cons_succ, i64_w, i32_w]
                                      rfl
                                    refine pure_ (i := 2) (N := some 68) (v := ?_) (a' := ?_) #[true, false, true, false, false, false, false, false, false, false, false, false, false, false, false, false] rfl rfl (any_of HT_.out (by kernel_rfl)) (fun _ _ _ h => h) (Or.inl ⟨by rfl, ?_⟩) ?_ ?_
                                    rotate_left
                                    · intro w'
                                      go_simp
                                      with_reducible rfl
                                    rotate_left
                                    · simp only [Act.put, List.setIfInBounds_toArray, List.set_cons_zero, List.set_cons_succ, i64_w, i32_w]
                                      rfl
                                    refine pure_ (i := 3) (N := some 69) (v := ?_) (a' := ?_) #[true, false, true, true, false, false, false, false, false, false, false, false, false, false, false, false] rfl rfl (any_of HT_.out (by kernel_rfl)) (fun _ _ _ h => h) (Or.inl ⟨by rfl, ?_⟩) ?_ ?_
                                    rotate_left
                                    · intro w'
                                      go_simp
                                      with_reducible rfl
                                    rotate_left
                                    · simp only [Act.put, List.setIfInBounds_toArray, List.set_cons_zero, List.set_cons_succ, i64_w, i32_w]
                                      rfl
                                    refine pure_ (i := 4) (N := some 70) (v := ?_) (a' := ?_) #[true, false, true, true, true, false, false, false, false, false, false, false, false, false, false, false] rfl rfl (any_of HT_.out (by kernel_rfl)) (fun _ _ _ h => h) (Or.inl ⟨by rfl, ?_⟩) ?_ ?_
                                    rotate_left
                                    · intro w'
                                      go_simp
                                      with_reducible rfl
                                    rotate_left
                                    · simp only [Act.put, List.setIfInBounds_toArray, List.set_cons_zero, List.set_cons_succ, i64_w, i32_w]
                                      rfl
                                    refine pure_ (i := 5) (N := some 71) (v := ?_) (a' := ?_) #[true, false, true, true, true, true, false, false, false, false, false, false, false, false, false, false] rfl rfl (any_of HT_.out (by kernel_rfl)) (fun _ _ _ h => h) (Or.inl ⟨by rfl, ?_⟩) ?_ ?_
                                    rotate_left
                                    · intro w'
                                      go_simp
                                      with_reducible rfl
                                    rotate_left
                                    · simp only [Act.put, List.setIfInBounds_toArray, List.set_cons_zero, List.set_cons_succ, i64_w, i32_w]
                                      rfl
                                    refine pure_ (i := 7) (N := some 73) (v := ?_) (a' := ?_) #[true, false, true, true, true, true, false, true, false, false, false, false, false, false, false, false] rfl rfl (any_of HT_.out (by kernel_rfl)) (fun _ _ _ h => h) (Or.inl ⟨by rfl, ?_⟩) ?_ ?_
                                    rotate_left
                                    · intro w'
                                      go_simp
                                      with_reducible rfl
                                    rotate_left
                                    · simp only [Act.put, List.setIfInBounds_toArray, List.set_cons_zero, List.set_cons_succ, i64_w, i32_w]
                                      rfl
                                    refine pure_ (i := 8) (N := some 74) (v := ?_) (a' := ?_) #[true, false, true, true, true, true, false, true, true, false, false, false, false, false, false, false] rfl rfl (any_of HT_.out (by kernel_rfl)) (fun _ _ _ h => h) (Or.inl ⟨by rfl, ?_⟩) ?_ ?_
                                    rotate_left
                                    · intro w'
                                      go_simp
                                      with_reducible rfl
                                    rotate_left
                                    · simp only [Act.put, List.setIfInBounds_toArray, List.set_cons_zero, List.set_cons_succ, i64_w, i32_w]
                                      rfl
                                    refine pure_ (i := 9) (N := some 75) (v := ?_) (a' := ?_) #[true, false, true, true, true, true, false, true, true, true, false, false, false, false, false, false] rfl rfl (any_of HT_.out (by kernel_rfl)) (fun _ _ _ h => h) (Or.inl ⟨by rfl, ?_⟩) ?_ ?_
                                    rotate_left
                                    · intro w'
                                      go_simp
                                      with_reducible rfl
                                    rotate_left
                                    · simp only [Act.put, List.setIfInBounds_toArray, List.set_cons_zero, List.set_cons_succ, i64_w, i32_w]
                                      rfl
                                    refine pure_ (i := 12) (N := some 78) (v := ?_) (a' := ?_) #[true, false, true, true, true, true, false, true, true, true, false, false, true, false, false, false] rfl rfl (any_of HT_.out (by kernel_rfl)) (fun _ _ _ h => h) (Or.inl ⟨by rfl, ?_⟩) ?_ ?_
                                    rotate_left
                                    · intro w'
                                      go_simp
                                      with_reducible rfl
                                    rotate_left
                                    · simp only [Act.put, List.setIfInBounds_toArray, List.set_cons_zero, List.set_cons_succ, i64_w, i32_w]
                                      rfl
                                    refine take_ (i := 1) (N := some 67) (v := ?_) (a' := ?_) #[true, true, true, true, true, true, false, true, true, true, false, false, true, false, false, false] rfl rfl (take_ofW HT_.out HW_.out (by kernel_rfl)) (fun _ _ _ h => h) (Or.inl ⟨by rfl, ?_⟩) hHeld ?_ ?_
                                    rotate_left
                                    · rintro w' ⟨s0, s1, s2⟩
                                      go_simp
                                      with_reducible rfl
                                    rotate_left
                                    · simp only [Act.put, List.setIfInBounds_toArray, List.set_cons_zero, List.set_cons_succ, i64_w, i32_w]
                                      rfl
                                    refine take_ (i := 6) (N := some 72) (v := ?_) (a' := ?_) #[true, true, true, true, true, true, true, true, true, true, false, false, true, false, false, false] rfl rfl (take_ofW HT_.out HW_.out (by kernel_rfl)) (fun _ _ _ h => h) (Or.inl ⟨by rfl, ?_⟩) hHeld ?_ ?_
                                    rotate_left
                                    · rintro w' ⟨s0, s1, s2⟩
                                      go_simp
                                      with_reducible rfl
                                    rotate_left
                                    · simp only [Act.put, List.setIfInBounds_toArray, List.set_cons_zero, List.set_cons_succ, i64_w, i32_w]
                                      rfl
                                    refine pure_ (i := 10) (N := some 76) (v := ?_) (a' := ?_) #[true, true, true, true, true, true, true, true, true, true, true, false, true, false, false, false] rfl rfl (any_of HT_.out (by kernel_rfl)) (fun _ _ _ h => h) (Or.inl ⟨by rfl, ?_⟩) ?_ ?_
                                    rotate_left
                                    · intro w'
                                      go_simp
                                      with_reducible rfl
                                    rotate_left
                                    · simp only [Act.put, List.setIfInBounds_toArray, List.set_cons_zero, List.set_cons_succ, i64_w, i32_w]
                                      rfl
                                    refine take_ (i := 11) (N := some 77) (v := ?_) (a' := ?_) #[true, true, true, true, true, true, true, true, true, true, true, true, true, false, false, false] rfl rfl (take_ofW HT_.out HW_.out (by kernel_rfl)) (fun _ _ _ h => h) (Or.inl ⟨by rfl, ?_⟩) hHeld ?_ ?_
                                    rotate_left
                                    · rintro w' ⟨s0, s1, s2⟩
                                      go_simp
                                      with_reducible rfl
                                    rotate_left
                                    · simp only [Act.put, List.setIfInBounds_toArray, List.set_cons_zero, List.set_cons_succ, i64_w, i32_w]
                                      rfl
                                    refine pure_ (i := 13) (N := some 79) (v := ?_) (a' := ?_) #[true, true, true, true, true, true, true, true, true, true, true, true, true, true, false, false] rfl rfl (any_of HT_.out (by kernel_rfl)) (fun _ _ _ h => h) (Or.inl ⟨by rfl, ?_⟩) ?_ ?_
                                    rotate_left
                                    · intro w'
                                      go_simp
                                      with_reducible rfl
                                    rotate_left
                                    · simp only [Act.put, List.setIfInBounds_toArray, List.set_cons_zero, List.set_cons_succ, i64_w, i32_w]
                                      rfl
                                    refine pure_ (i := 14) (N := some 80) (v := ?_) (a' := ?_) #[true, true, true, true, true, true, true, true, true, true, true, true, true, true, true, false] rfl rfl (any_of HT_.out (by kernel_rfl)) (fun _ _ _ h => h) (Or.inl ⟨by rfl, ?_⟩) ?_ ?_
                                    rotate_left
                                    · intro w'
                                      go_simp
                                      with_reducible rfl
                                    rotate_left
                                    · simp only [Act.put, List.setIfInBounds_toArray, List.set_cons_zero, List.set_cons_succ, i64_w, i32_w]
                                      rfl
                                    refine last_ (i := 15) (N := none) #[true, true, true, true, true, true, true, true, true, true, true, true, true, true, true, true] rfl rfl (one_of HT_.out (by kernel_rfl)) (by decide) (fun K hK => ?_)
                                    refine skip_ (w1 := ?_) (by rfl) rfl ?_ ?_
                                    rotate_left
                                    · go_simp
                                      rfl
                                    refine hK.out _ _ ?_
                                    clear hK K
                                    refine done_ (done_of HT_.out (by kernel_rfl)) ?_
                                    try go_wp2
                                    have n0_ : Aside0 (Kd.R (Kd.int .i64) 3 (w45.setCell ⟨go30, ((ji26) : Int).toNat, none⟩ (.int .i64 (wrap64 ((rd x258001_2 (ji26)) + t262)))) w.heap.size (fun k_ => some k_ ≠ (.slice Ao42 y265.length co42 : Value).ownBlock) (.slice (some ⟨go30, 0, none⟩) x258001_2.length co46) y269) := ⟨by (with_reducible repeat (first | apply Kd.R_alloc | apply Kd.R_drewN | apply Kd.R_drew)); exact HQ47.out⟩
                                    have n1_ : Aside0 (Kd.R (Kd.int .i64) 3 (w45.setCell ⟨go30, ((ji26) : Int).toNat, none⟩ (.int .i64 (wrap64 ((rd x258001_2 (ji26)) + t262)))) w.heap.size (fun k_ => some k_ ≠ (.slice (some ⟨go30, 0, none⟩) x258001_2.length co46 : Value).ownBlock) (.slice Ao42 y265.length co42) y265) := ⟨by (with_reducible repeat (first | apply Kd.R_alloc | apply Kd.R_drewN | apply Kd.R_drew)); exact Kd.R_mono (Kd.R_far (p := ⟨go30, ((ji26) : Int).toNat, none⟩) (Kd.R_mono HO267.out (fun k_ hk => (⟨hk, fun e_ => hk (by rw [e_]; rfl)⟩ : _ ∧ k_ ≠ go30))) (fun _ hk => hk.2) (.int .i64 (wrap64 ((rd x258001_2 (ji26)) + t262)))) (fun _ hk => hk.1)⟩
                                    have n2_ : Aside0 ((w45.setCell ⟨go30, ((ji26) : Int).toNat, none⟩ (.int .i64 (wrap64 ((rd x258001_2 (ji26)) + t262)))).heap[gb251]? = some (.cells #[.slice none 0 0, .slice none 0 0] 92 (0, 0))) := ⟨by (with_reducible repeat (first | refine Fix.kN ?_ _ | refine Fix.kD ?_ | refine Fix.kA ?_ _)); refine blk_far ?_ (by have h_ := Kd.R_ne HO_258001.out BK251.out (by decide); intro e_; exact h_ (by rw [e_]; rfl)) _; (with_reducible repeat (first | refine Fix.kN ?_ _ | refine Fix.kD ?_ | refine Fix.kA ?_ _)); exact BK251.out⟩
                                    have n3_ : Aside0 ((w45.setCell ⟨go30, ((ji26) : Int).toNat, none⟩ (.int .i64 (wrap64 ((rd x258001_2 (ji26)) + t262)))).heap[gb257]? = some (.cells #[.slice Ao42 y265.length co42, .slice (some ⟨go30, 0, none⟩) x258001_2.length co46] 92 (0, 0))) := ⟨by (with_reducible repeat (first | refine Fix.kN ?_ _ | refine Fix.kD ?_ | refine Fix.kA ?_ _)); refine blk_far ?_ (by have h_ := Kd.R_ne HO_258001.out BK257.out (by decide); intro e_; exact h_ (by rw [e_]; rfl)) _; (with_reducible repeat (first | refine Fix.kN ?_ _ | refine Fix.kD ?_ | refine Fix.kA ?_ _)); exact BK257.out⟩
                                    have n4_ : Aside0 (Below w.heap.size w (w45.setCell ⟨go30, ((ji26) : Int).toNat, none⟩ (.int .i64 (wrap64 ((rd x258001_2 (ji26)) + t262))))) := ⟨by repeat (first | (with_reducible first | exact HB.out | apply Fix.bA | apply Fix.bN | apply Fix.b1 | refine below_set ?_ GB30.out | refine below_set ?_ GE251.out | refine below_set ?_ GE257.out) | exact HB.out)⟩
                                    (try clear HO_258001)
                                    (try clear HO267)
                                    (try clear BK251)
                                    (try clear BK257)
                                    (try clear HB)
                                    generalize (w45.setCell ⟨go30, ((ji26) : Int).toNat, none⟩ (.int .i64 (wrap64 ((rd x258001_2 (ji26)) + t262)))) = w48 at n0_ n1_ n2_ n3_ n4_ ⊢
                                    have HO_258001 := n0_
                                    have HO267 := n1_
                                    have BK251 := n2_
                                    have BK257 := n3_
                                    have HB := n4_
                                    clear n0_ n1_ n2_ n3_ n4_
                                    have n0_ := Aside0.mk (Kd.R_drew HO_258001.out)
                                    have n1_ := Aside0.mk (Kd.R_drew HO267.out)
                                    have n2_ := Aside0.mk (blk_drew BK251.out)
                                    have n3_ := Aside0.mk (blk_drew BK257.out)
                                    have n4_ := Aside0.mk (below_drew1 HB.out)
                                    clear HO_258001
                                    clear HO267
                                    clear BK251
                                    clear BK257
                                    clear HB
                                    have HO_258001 := n0_
                                    have HO267 := n1_
                                    have BK251 := n2_
                                    have BK257 := n3_
                                    have HB := n4_
                                    clear n0_ n1_ n2_ n3_ n4_
                                    have p270 : 0 ≤ (x8_2 : Int) := of_decide_eq_true (by first | (with_reducible assumption) | assumption)
                                    have q270 : x8_2 < (y269.length : Int) := (by have h_ : (x8_2 : Int) < ((x258001_2.length : Int) : Int) := of_decide_eq_true (by first | (with_reducible assumption) | assumption); first | (have e_ := (Kd.R_reads' HO_258001.out).1; omega) | simpa only [Ny269.out, List.length_set] using h_)
                                    have ql270 : ((x8_2 : Int) < ((x258001_2.length : Int) : Int)) = True := eq_true (of_decide_eq_true (by first | (with_reducible assumption) | assumption))
                                    obtain ⟨ad270, e270, hx270_0⟩ := Kd.at_int (Kd.R_reads' HO_258001.out).2.2 x8_2 p270 q270
                                    obtain rfl : (⟨go30, 0, none⟩ : Addr) = ad270 := (by injection e270)
                                    (first | simp only [add_plain] at hx270_0 | simp only [add_at] at hx270_0 | simp only [Addr.add, Nat.zero_add] at hx270_0 | skip)
                                    replace p270 := eq_true p270
                                    replace q270 := eq_true q270
                                    have p32 : 0 ≤ (x8_2 : Int) := of_decide_eq_true (by first | (with_reducible assumption) | assumption)
                                    have q32 : (x8_2 : Int) < ((x258001_2.length : Int) : Int) := of_decide_eq_true (by first | (with_reducible assumption) | assumption)
                                    obtain ⟨hx32_0, hf32_0⟩ := Kd.R_celln 0 HO_258001.out (x8_2 : Int) p32 q32
                                    replace p32 := eq_true p32
                                    replace q32 := eq_true q32
                                    have HP50 := Kd.R_putn HO_258001.out (x8_2 : Int) (wrap64 ((rd y269 x8_2) + t263))
                                    rw [← Ny271.out] at HP50
                                    have HQ50 := Aside0.mk HP50
                                    clear HP50
                                    refine start_ (n := 12) (S := fun w' => w'.cell? ⟨gb257, 0, none⟩ = some (.slice Ao42 y265.length co42) ∧ w'.cell? ⟨gb257, 1, none⟩ = some (.slice (some ⟨go30, 0, none⟩) x258001_2.length co46) ∧ w'.cell? ⟨go30, (x8_2).toNat, none⟩ = some (.int .i64 (rd y269 x8_2))) (ds := [11]) #[false, false, false, false, false, false, false, false, false, false, false, false] (by kernel_rfl) rfl rfl ⟨(blk_cell BK257.out 0).trans rfl, (blk_cell BK257.out 1).trans rfl, hx270_0⟩ (fun hHeld => ?_); refine with_tabW spec_DiffuseRow.tab19 spec_DiffuseRow.bits19 (fun HT_ HW_ => ?_)
                                    generalize w48.drew = w49 at HO_258001 HO267 BK251 BK257 HB HQ47 HQ50 hf32_0 hx270_0 hx32_0 hHeld ⊢
                                    refine pure_ (i := 0) (N := some 81) (v := ?_) (a' := ?_) #[true, false, false, false, false, false, false, false, false, false, false, false] rfl rfl (any_of HT_.out (by kernel_rfl)) (fun _ _ _ h => h) (Or.inl ⟨by rfl, ?_⟩) ?_ ?_
                                    rotate_left
                                    · intro w'
                                      go_simp
                                      with_reducible rfl
                                    rotate_left
                                    · simp only [Act.put, List.setIfInBounds_toArray, List.set_cons_zero, List.set_cons_succ, i64_w, i32_w]
                                      rfl
                                    refine pure_ (i := 2) (N := some 83) (v := ?_) (a' := ?_) #[true, false, true, false, false, false, false, false, false, false, false, false] rfl rfl (any_of HT_.out (by kernel_rfl)) (fun _ _ _ h => h) (Or.inl ⟨by rfl, ?_⟩) ?_ ?_
                                    rotate_left
                                    · intro w'
                                      go_simp
                                      with_reducible rfl
                                    rotate_left
                                    · simp only [Act.put, List.setIfInBounds_toArray, List.set_cons_zero, List.set_cons_succ, i64_w, i32_w]
                                      rfl
                                    refine pure_ (i := 3) (N := some 84) (v := ?_) (a' := ?_) #[true, false, true, true, false, false, false, false, false, false, false, false] rfl rfl (any_of HT_.out (by kernel_rfl)) (fun _ _ _ h => h) (Or.inl ⟨by rfl, ?_⟩) ?_ ?_
                                    rotate_left
                                    · intro w'
                                      go_simp
                                      with_reducible rfl
                                    rotate_left
                                    · simp only [Act.put, List.setIfInBounds_toArray, List.set_cons_zero, List.set_cons_succ, i64_w, i32_w]
                                      rfl
                                    refine pure_ (i := 5) (N := some 86) (v := ?_) (a' := ?_) #[true, false, true, true, false, true, false, false, false, false, false, false] rfl rfl (any_of HT_.out (by kernel_rfl)) (fun _ _ _ h => h) (Or.inl ⟨by rfl, ?_⟩) ?_ ?_
                                    rotate_left
                                    · intro w'
                                      go_simp
                                      with_reducible rfl
                                    rotate_left
                                    · simp only [Act.put, List.setIfInBounds_toArray, List.set_cons_zero, List.set_cons_succ, i64_w, i32_w]
                                      rfl
                                    refine pure_ (i := 8) (N := some 89) (v := ?_) (a' := ?_) #[true, false, true, true, false, true, false, false, true, false, false, false] rfl rfl (any_of HT_.out (by kernel_rfl)) (fun _ _ _ h => h) (Or.inl ⟨by rfl, ?_⟩) ?_ ?_
                                    rotate_left
                                    · intro w'
                                      go_simp
                                      with_reducible rfl
                                    rotate_left
                                    · simp only [Act.put, List.setIfInBounds_toArray, List.set_cons_zero, List.set_cons_succ, i64_w, i32_w]
                                      rfl
                                    refine take_ (i := 1) (N := some 82) (v := ?_) (a' := ?_) #[true, true, true, true, false, true, false, false, true, false, false, false] rfl rfl (take_ofW HT_.out HW_.out (by kernel_rfl)) (fun _ _ _ h => h) (Or.inl ⟨by rfl, ?_⟩) hHeld ?_ ?_
                                    rotate_left
                                    · rintro w' ⟨s0, s1, s2⟩
                                      go_simp
                                      with_reducible rfl
                                    rotate_left
                                    · simp only [Act.put, List.setIfInBounds_toArray, List.set_cons_zero, List.set_cons_succ, i64_w, i32_w]
                                      rfl
                                    refine take_ (i := 4) (N := some 85) (v := ?_) (a' := ?_) #[true, true, true, true, true, true, false, false, true, false, false, false] rfl rfl (take_ofW HT_.out HW_.out (by kernel_rfl)) (fun _ _ _ h => h) (Or.inl ⟨by rfl, ?_⟩) hHeld ?_ ?_
                                    rotate_left
                                    · rintro w' ⟨s0, s1, s2⟩
                                      go_simp
                                      with_reducible rfl
                                    rotate_left
                                    · simp only [Act.put, List.setIfInBounds_toArray, List.set_cons_zero, List.set_cons_succ, i64_w, i32_w]
                                      rfl
                                    refine pure_ (i := 6) (N := some 87) (v := ?_) (a' := ?_) #[true, true, true, true, true, true, true, false, true, false, false, false] rfl rfl (any_of HT_.out (by kernel_rfl)) (fun _ _ _ h => h) (Or.inl ⟨by rfl, ?_⟩) ?_ ?_
                                    rotate_left
                                    · intro w'
                                      go_simp
                                      with_reducible rfl
                                    rotate_left
                                    · simp only [Act.put, List.setIfInBounds_toArray, List.set_cons_zero, List.set_cons_succ, i64_w, i32_w]
                                      rfl
                                    refine take_ (i := 7) (N := some 88) (v := ?_) (a' := ?_) #[true, true, true, true, true, true, true, true, true, false, false, false] rfl rfl (take_ofW HT_.out HW_.out (by kernel_rfl)) (fun _ _ _ h => h) (Or.inl ⟨by rfl, ?_⟩) hHeld ?_ ?_
                                    rotate_left
                                    · rintro w' ⟨s0, s1, s2⟩
                                      go_simp
                                      with_reducible rfl
                                    rotate_left
                                    · simp only [Act.put, List.setIfInBounds_toArray, List.set_cons_zero, List.set_cons_succ, i64_w, i32_w]
                                      rfl
                                    refine pure_ (i := 9) (N := some 90) (v := ?_) (a' := ?_) #[true, true, true, true, true, true, true, true, true, true, false, false] rfl rfl (any_of HT_.out (by kernel_rfl)) (fun _ _ _ h => h) (Or.inl ⟨by rfl, ?_⟩) ?_ ?_
                                    rotate_left
                                    · intro w'
                                      go_simp
                                      with_reducible rfl
                                    rotate_left
                                    · simp only [Act.put, List.setIfInBounds_toArray, List.set_cons_zero, List.set_cons_succ, i64_w, i32_w]
                                      rfl
                                    refine pure_ (i := 10) (N := some 91) (v := ?_) (a' := ?_) #[true, true, true, true, true, true, true, true, true, true, true, false] rfl rfl (any_of HT_.out (by kernel_rfl)) (fun _ _ _ h => h) (Or.inl ⟨by rfl, ?_⟩) ?_ ?_
                                    rotate_left
                                    · intro w'
                                      go_simp
                                      with_reducible rfl
                                    rotate_left
                                    · simp only [Act.put, List.setIfInBounds_toArray, List.set_cons_zero, List.set_cons_succ, i64_w, i32_w]
                                      rfl
                                    refine last_ (i := 11) (N := none) #[true, true, true, true, true, true, true, true, true, true, true, true] rfl rfl (one_of HT_.out (by kernel_rfl)) (by decide) (fun K hK => ?_)
                                    refine skip_ (w1 := ?_) (by rfl) rfl ?_ ?_
                                    rotate_left
                                    · go_simp
                                      rfl
                                    refine hK.out _ _ ?_
                                    clear hK K
                                    refine done_ (done_of HT_.out (by kernel_rfl)) ?_
                                    try go_wp2
                                    have n0_ : Aside0 (Kd.R (Kd.int .i64) 3 (w49.setCell ⟨go30, (x8_2 : Int).toNat, none⟩ (.int .i64 (wrap64 ((rd y269 x8_2) + t263)))) w.heap.size (fun k_ => some k_ ≠ (.slice Ao42 y265.length co42 : Value).ownBlock) (.slice (some ⟨go30, 0, none⟩) x258001_2.length co46) y271) := ⟨by (with_reducible repeat (first | apply Kd.R_alloc | apply Kd.R_drewN | apply Kd.R_drew)); exact HQ50.out⟩
                                    have n1_ : Aside0 (Kd.R (Kd.int .i64) 3 (w49.setCell ⟨go30, (x8_2 : Int).toNat, none⟩ (.int .i64 (wrap64 ((rd y269 x8_2) + t263)))) w.heap.size (fun k_ => some k_ ≠ (.slice (some ⟨go30, 0, none⟩) x258001_2.length co46 : Value).ownBlock) (.slice Ao42 y265.length co42) y265) := ⟨by (with_reducible repeat (first | apply Kd.R_alloc | apply Kd.R_drewN | apply Kd.R_drew)); exact Kd.R_mono (Kd.R_far (p := ⟨go30, (x8_2 : Int).toNat, none⟩) (Kd.R_mono HO267.out (fun k_ hk => (⟨hk, fun e_ => hk (by rw [e_]; rfl)⟩ : _ ∧ k_ ≠ go30))) (fun _ hk => hk.2) (.int .i64 (wrap64 ((rd y269 x8_2) + t263)))) (fun _ hk => hk.1)⟩
                                    have n2_ : Aside0 ((w49.setCell ⟨go30, (x8_2 : Int).toNat, none⟩ (.int .i64 (wrap64 ((rd y269 x8_2) + t263)))).heap[gb251]? = some (.cells #[.slice none 0 0, .slice none 0 0] 92 (0, 0))) := ⟨by (with_reducible repeat (first | refine Fix.kN ?_ _ | refine Fix.kD ?_ | refine Fix.kA ?_ _)); refine blk_far ?_ (by have h_ := Kd.R_ne HO_258001.out BK251.out (by decide); intro e_; exact h_ (by rw [e_]; rfl)) _; (with_reducible repeat (first | refine Fix.kN ?_ _ | refine Fix.kD ?_ | refine Fix.kA ?_ _)); exact BK251.out⟩
                                    have n3_ : Aside0 ((w49.setCell ⟨go30, (x8_2 : Int).toNat, none⟩ (.int .i64 (wrap64 ((rd y269 x8_2) + t263)))).heap[gb257]? = some (.cells #[.slice Ao42 y265.length co42, .slice (some ⟨go30, 0, none⟩) x258001_2.length co46] 92 (0, 0))) := ⟨by (with_reducible repeat (first | refine Fix.kN ?_ _ | refine Fix.kD ?_ | refine Fix.kA ?_ _)); refine blk_far ?_ (by have h_ := Kd.R_ne HO_258001.out BK257.out (by decide); intro e_; exact h_ (by rw [e_]; rfl)) _; (with_reducible repeat (first | refine Fix.kN ?_ _ | refine Fix.kD ?_ | refine Fix.kA ?_ _)); exact BK257.out⟩
                                    have n4_ : Aside0 (Below w.heap.size w (w49.setCell ⟨go30, (x8_2 : Int).toNat, none⟩ (.int .i64 (wrap64 ((rd y269 x8_2) + t263))))) := ⟨by repeat (first | (with_reducible first | exact HB.out | apply Fix.bA | apply Fix.bN | apply Fix.b1 | refine below_set ?_ GB30.out | refine below_set ?_ GE251.out | refine below_set ?_ GE257.out) | exact HB.out)⟩
                                    (try clear HO_258001)
                                    (try clear HO267)
                                    (try clear BK251)
                                    (try clear BK257)
                                    (try clear HB)
                                    generalize (w49.setCell ⟨go30, (x8_2 : Int).toNat, none⟩ (.int .i64 (wrap64 ((rd y269 x8_2) + t263)))) = w51 at n0_ n1_ n2_ n3_ n4_ ⊢
                                    have HO_258001 := n0_
                                    have HO267 := n1_
                                    have BK251 := n2_
                                    have BK257 := n3_
                                    have HB := n4_
                                    clear n0_ n1_ n2_ n3_ n4_
                                    have n0_ := Aside0.mk (Kd.R_drew HO_258001.out)
                                    have n1_ := Aside0.mk (Kd.R_drew HO267.out)
                                    have n2_ := Aside0.mk (blk_drew BK251.out)
                                    have n3_ := Aside0.mk (blk_drew BK257.out)
                                    have n4_ := Aside0.mk (below_drew1 HB.out)
                                    clear HO_258001
                                    clear HO267
                                    clear BK251
                                    clear BK257
                                    clear HB
                                    have HO_258001 := n0_
                                    have HO267 := n1_
                                    have BK251 := n2_
                                    have BK257 := n3_
                                    have HB := n4_
                                    clear n0_ n1_ n2_ n3_ n4_
                                    have p272 : 0 ≤ ((ji33) : Int) := of_decide_eq_true (by first | (with_reducible assumption) | assumption)
                                    have q272 : (ji33) < (y271.length : Int) := (by have h_ : ((ji33) : Int) < ((x258001_2.length : Int) : Int) := of_decide_eq_true (by first | (with_reducible assumption) | assumption); first | (have e_ := (Kd.R_reads' HO_258001.out).1; omega) | simpa only [Ny269.out, Ny271.out, List.length_set] using h_)
                                    have ql272 : (((ji33) : Int) < ((x258001_2.length : Int) : Int)) = True := eq_true (of_decide_eq_true (by first | (with_reducible assumption) | assumption))
                                    obtain ⟨ad272, e272, hx272_0⟩ := Kd.at_int (Kd.R_reads' HO_258001.out).2.2 (ji33) p272 q272
                                    obtain rfl : (⟨go30, 0, none⟩ : Addr) = ad272 := (by injection e272)
                                    (first | simp only [add_plain] at hx272_0 | simp only [add_at] at hx272_0 | simp only [Addr.add, Nat.zero_add] at hx272_0 | skip)
                                    replace p272 := eq_true p272
                                    replace q272 := eq_true q272
                                    have p37 : 0 ≤ ((ji33) : Int) := of_decide_eq_true (by first | (with_reducible assumption) | assumption)
                                    have q37 : ((ji33) : Int) < ((x258001_2.length : Int) : Int) := of_decide_eq_true (by first | (with_reducible assumption) | assumption)
                                    obtain ⟨hx37_0, hf37_0⟩ := Kd.R_celln 0 HO_258001.out ((ji33) : Int) p37 q37
                                    replace p37 := eq_true p37
                                    replace q37 := eq_true q37
                                    have HP53 := Kd.R_putn HO_258001.out ((ji33) : Int) (wrap64 ((rd y271 (ji33)) + t264))
                                    rw [← Ny273.out] at HP53
                                    have HQ53 := Aside0.mk HP53
                                    clear HP53
                                    refine start_ (n := 16) (S := fun w' => w'.cell? ⟨gb257, 0, none⟩ = some (.slice Ao42 y265.length co42) ∧ w'.cell? ⟨gb257, 1, none⟩ = some (.slice (some ⟨go30, 0, none⟩) x258001_2.length co46) ∧ w'.cell? ⟨go30, ((ji33)).toNat, none⟩ = some (.int .i64 (rd y271 (ji33)))) (ds := [15]) #[false, false, false, false, false, false, false, false, false, false, false, false, false, false, false, false] (by kernel_rfl) rfl rfl ⟨(blk_cell BK257.out 0).trans rfl, (blk_cell BK257.out 1).trans rfl, hx272_0⟩ (fun hHeld => ?_); refine with_tabW spec_DiffuseRow.tab20 spec_DiffuseRow.bits20 (fun HT_ HW_ => ?_)
                                    generalize w51.drew = w52 at HO_258001 HO267 BK251 BK257 HB HQ50 HQ53 hf37_0 hx272_0 hx37_0 hHeld ⊢
                                    refine pure_ (i := 0) (N := some 92) (v := ?_) (a' := ?_) #[true, false, false, false, false, false, false, false, false, false, false, false, false, false, false, false] rfl rfl (any_of HT_.out (by kernel_rfl)) (fun _ _ _ h => h) (Or.inl ⟨by rfl, ?_⟩) ?_ ?_
                                    rotate_left
                                    · intro w'
                                      go_simp
                                      with_reducible rfl
                                    rotate_left
                                    · simp only [Act.put, List.setIfInBounds_toArray, List.set_cons_zero, List.set_cons_succ, i64_w, i32_w]
                                      rfl
                                    refine pure_ (i := 2) (N := some 94) (v := ?_) (a' := ?_) #[true, false, true, false, false, false, false, false, false, false, false, false, false, false, false, false] rfl rfl (any_of HT_.out (by kernel_rfl)) (fun _ _ _ h => h) (Or.inl ⟨by rfl, ?_⟩) ?_ ?_
                                    rotate_left
                                    · intro w'
                                      go_simp
                                      with_reducible rfl
                                    rotate_left
                                    · simp only [Act.put, List.setIfInBounds_toArray, List.set_cons_zero, List.set_cons_succ, i64_w, i32_w]
                                      rfl
                                    refine pure_ (i := 3) (N := some 95) (v := ?_) (a' := ?_) #[true, false, true, true, false, false, false, false, false, false, false, false, false, false, false, false] rfl rfl (any_of HT_.out (by kernel_rfl)) (fun _ _ _ h => h) (Or.inl ⟨by rfl, ?_⟩) ?_ ?_
                                    rotate_left
                                    · intro w'
                                      go_simp
                                      with_reducible rfl
                                    rotate_left
                                    · simp only [Act.put, List.setIfInBounds_toArray, List.set_cons_zero, List.set_cons_succ, i64_w, i32_w]
                                      rfl
                                    refine pure_ (i := 4) (N := some 96) (v := ?_) (a' := ?_) #[true, false, true, true, true, false, false, false, false, false, false, false, false, false, false, false] rfl rfl (any_of HT_.out (by kernel_rfl)) (fun _ _ _ h => h) (Or.inl ⟨by rfl, ?_⟩) ?_ ?_
                                    rotate_left
                                    · intro w'
                                      go_simp
                                      with_reducible rfl
                                    rotate_left
                                    · simp only [Act.put, List.setIfInBounds_toArray, List.set_cons_zero, List.set_cons_succ, i64_w, i32_w]
                                      rfl
                                    refine pure_ (i := 5) (N := some 97) (v := ?_) (a' := ?_) #[true, false, true, true, true, true, false, false, false, false, false, false, false, false, false, false] rfl rfl (any_of HT_.out (by kernel_rfl)) (fun _ _ _ h => h) (Or.inl ⟨by rfl, ?_⟩) ?_ ?_
                                    rotate_left
                                    · intro w'
                                      go_simp
                                      with_reducible rfl
                                    rotate_left
                                    · simp only [Act.put, List.setIfInBounds_toArray, List.set_cons_zero, List.set_cons_succ, i64_w, i32_w]
                                      rfl
                                    refine pure_ (i := 7) (N := some 99) (v := ?_) (a' := ?_) #[true, false, true, true, true, true, false, true, false, false, false, false, false, false, false, false] rfl rfl (any_of HT_.out (by kernel_rfl)) (fun _ _ _ h => h) (Or.inl ⟨by rfl, ?_⟩) ?_ ?_
                                    rotate_left
                                    · intro w'
                                      go_simp
                                      with_reducible rfl
                                    rotate_left
                                    · simp only [Act.put, List.setIfInBounds_toArray, List.set_cons_zero, List.set_cons_succ, i64_w, i32_w]
                                      rfl
                                    refine pure_ (i := 8) (N := some 100) (v := ?_) (a' := ?_) #[true, false, true, true, true, true, false, true, true, false, false, false, false, false, false, false] rfl rfl (any_of HT_.out (by kernel_rfl)) (fun _ _ _ h => h) (Or.inl ⟨by rfl, ?_⟩) ?_ ?_
                                    rotate_left
                                    · intro w'
                                      go_simp
                                      with_reducible rfl
                                    rotate_left
                                    · simp only [Act.put, List.setIfInBounds_toArray, List.set_cons_zero, List.set_cons_succ, i64_w, i32_w]
                                      rfl
                                    refine pure_ (i := 9) (N := some 101) (v := ?_) (a' := ?_) #[true, false, true, true, true, true, false, true, true, true, false, false, false, false, false, false] rfl rfl (any_of HT_.out (by kernel_rfl)) (fun _ _ _ h => h) (Or.inl ⟨by rfl, ?_⟩) ?_ ?_
                                    rotate_left
                                    · intro w'
                                      go_simp
                                      with_reducible rfl
                                    rotate_left
                                    · simp only [Act.put, List.setIfInBounds_toArray, List.set_cons_zero, List.set_cons_succ, i64_w, i32_w]
                                      rfl
                                    refine pure_ (i := 12) (N := some 104) (v := ?_) (a' := ?_) #[true, false, true, true, true, true, false, true, true, true, false, false, true, false, false, false] rfl rfl (any_of HT_.out (by kernel_rfl)) (fun _ _ _ h => h) (Or.inl ⟨by rfl, ?_⟩) ?_ ?_
                                    rotate_left
                                    · intro w'
                                      go_simp
                                      with_reducible rfl
                                    rotate_left
                                    · simp only [Act.put, List.setIfInBounds_toArray, List.set_cons_zero, List.set_cons_succ, i64_w, i32_w]
                                      rfl
                                    refine take_ (i := 1) (N := some 93) (v := ?_) (a' := ?_) #[true, true, true, true, true, true, false, true, true, true, false, false, true, false, false, false] rfl rfl (take_ofW HT_.out HW_.out (by kernel_rfl)) (fun _ _ _ h => h) (Or.inl ⟨by rfl, ?_⟩) hHeld ?_ ?_
                                    rotate_left
                                    · rintro w' ⟨s0, s1, s2⟩
                                      go_simp
                                      with_reducible rfl
                                    rotate_left
                                    · simp only [Act.put, List.setIfInBounds_toArray, List.set_cons_zero, List.set_cons_succ, i64_w, i32_w]
                                      rfl
                                    refine take_ (i := 6) (N := some 98) (v := ?_) (a' := ?_) #[true, true, true, true, true, true, true, true, true, true, false, false, true, false, false, false] rfl rfl (take_ofW HT_.out HW_.out (by kernel_rfl)) (fun _ _ _ h => h) (Or.inl ⟨by rfl, ?_⟩) hHeld ?_ ?_
                                    rotate_left
                                    · rintro w' ⟨s0, s1, s2⟩
                                      go_simp
                                      with_reducible rfl
                                    rotate_left
                                    · simp only [Act.put, List.setIfInBounds_toArray, List.set_cons_zero, List.set_cons_succ, i64_w, i32_w]
                                      rfl
                                    refine pure_ (i := 10) (N := some 102) (v := ?_) (a' := ?_) #[true, true, true, true, true, true, true, true, true, true, true, false, true, false, false, false] rfl rfl (any_of HT_.out (by kernel_rfl)) (fun _ _ _ h => h) (Or.inl ⟨by rfl, ?_⟩) ?_ ?_
                                    rotate_left
                                    · intro w'
                                      go_simp
                                      with_reducible rfl
                                    rotate_left
                                    · simp only [Act.put, List.setIfInBounds_toArray, List.set_cons_zero, List.set_cons_succ, i64_w, i32_w]
                                      rfl
                                    refine take_ (i := 11) (N := some 103) (v := ?_) (a' := ?_) #[true, true, true, true, true, true, true, true, true, true, true, true, true, false, false, false] rfl rfl (take_ofW HT_.out HW_.out (by kernel_rfl)) (fun _ _ _ h => h) (Or.inl ⟨by rfl, ?_⟩) hHeld ?_ ?_
                                    rotate_left
                                    · rintro w' ⟨s0, s1, s2⟩
                                      go_simp
                                      with_reducible rfl
                                    rotate_left
                                    · simp only [Act.put, List.setIfInBounds_toArray, List.set_cons_zero, List.set_cons_succ, i64_w, i32_w]
                                      rfl
                                    refine pure_ (i := 13) (N := some 105) (v := ?_) (a' := ?_) #[true, true, true, true, true, true, true, true, true, true, true, true, true, true, false, false] rfl rfl (any_of HT_.out (by kernel_rfl)) (fun _ _ _ h => h) (Or.inl ⟨by rfl, ?_⟩) ?_ ?_
                                    rotate_left
                                    · intro w'
                                      go_simp
                                      with_reducible rfl
                                    rotate_left
                                    · simp only [Act.put, List.setIfInBounds_toArray, List.set_cons_zero, List.set_cons_succ, i64_w, i32_w]
                                      rfl
                                    refine pure_ (i := 14) (N := some 106) (v := ?_) (a' := ?_) #[true, true, true, true, true, true, true, true, true, true, true, true, true, true, true, false] rfl rfl (any_of HT_.out (by kernel_rfl)) (fun _ _ _ h => h) (Or.inl ⟨by rfl, ?_⟩) ?_ ?_
                                    rotate_left
                                    · intro w'
                                      go_simp
                                      with_reducible rfl
                                    rotate_left
                                    · simp only [Act.put, List.setIfInBounds_toArray, List.set_cons_zero, List.set_cons_succ, i64_w, i32_w]
                                      rfl
                                    refine last_ (i := 15) (N := none) #[true, true, true, true, true, true, true, true, true, true, true, true, true, true, true, true] rfl rfl (one_of HT_.out (by kernel_rfl)) (by decide) (fun K hK => ?_)
                                    refine skip_ (w1 := ?_) (by rfl) rfl ?_ ?_
                                    rotate_left
                                    · go_simp
                                      rfl
                                    refine hK.out _ _ ?_
                                    clear hK K
                                    refine done_ (done_of HT_.out (by kernel_rfl)) ?_
                                    try go_wp2
                                    go_roundg k2
                                    case measure => have := HJ2.out; have := HK2.out; omega
                                    case rel => exact ⟨(wrap64 ((wrap64 ((wrap64 ((wrap64 ((wrap64 ((wrap64 ((rd l0 x8_2) + (rd l1 x8_2))) + x7_2)) - (255 * 1))) - t262)) - t263)) - t264)), (wrap64 (x8_2 + 1)), (y265), (y273), (.slice Ao42 y265.length co42), (.slice (some ⟨go30, 0, none⟩) x258001_2.length co46), (by first | rfl | (simp; done) | (simp [*]; done)), (by first | rfl | (simp; done) | (simp [*]; done)), H', ⟨by have := HJ2.out; have := HK2.out; omega⟩, ⟨by (with_reducible repeat (first | apply Kd.R_alloc | apply Kd.R_drewN | apply Kd.R_drew)); exact Kd.R_mono (Kd.R_far (p := ⟨go30, ((ji33) : Int).toNat, none⟩) (Kd.R_mono HO267.out (fun k_ hk => (⟨hk, fun e_ => hk (by rw [e_]; rfl)⟩ : _ ∧ k_ ≠ go30))) (fun _ hk => hk.2) (.int .i64 (wrap64 ((rd y271 (ji33)) + t264)))) (fun _ hk => hk.1)⟩, ⟨by (with_reducible repeat (first | apply Kd.R_alloc | apply Kd.R_drewN | apply Kd.R_drew)); exact HQ53.out⟩, ⟨by (with_reducible repeat (first | refine Fix.kN ?_ _ | refine Fix.kD ?_ | refine Fix.kA ?_ _)); refine blk_far ?_ (by have h_ := Kd.R_ne HO_258001.out BK251.out (by decide); intro e_; exact h_ (by rw [e_]; rfl)) _; (with_reducible repeat (first | refine Fix.kN ?_ _ | refine Fix.kD ?_ | refine Fix.kA ?_ _)); exact BK251.out⟩, ⟨by (with_reducible repeat (first | refine Fix.kN ?_ _ | refine Fix.kD ?_ | refine Fix.kA ?_ _)); refine blk_far ?_ (by have h_ := Kd.R_ne HO_258001.out BK257.out (by decide); intro e_; exact h_ (by rw [e_]; rfl)) _; (with_reducible repeat (first | refine Fix.kN ?_ _ | refine Fix.kD ?_ | refine Fix.kA ?_ _)); exact BK257.out⟩, ⟨by repeat (first | (with_reducible first | exact HB.out | apply Fix.bA | apply Fix.bN | apply Fix.b1 | refine below_set ?_ GB30.out | refine below_set ?_ GE251.out | refine below_set ?_ GE257.out) | exact HB.out)⟩⟩
                                  · rw [if_neg c36] at H
                                    exact absurd H (by simp)
                                · rw [if_neg c35] at H
                                  exact absurd H (by simp)
                              · rw [if_neg c31] at H
                                exact absurd H (by simp)
                            · rw [if_neg c29] at H
                              exact absurd H (by simp)
                          · rw [if_neg c28] at H
                            exact absurd H (by simp)
                        · rw [if_neg c25] at H
                          exact absurd H (by simp)
                      · rw [if_neg c21] at H
                        have c21b0 : decide (128 ≤ (wrap64 ((wrap64 ((rd l0 x8_2) + (rd l1 x8_2))) + x7_2))) = false := decide_eq_false c21
                        simp only [Int.mul_zero, Int.sub_zero] at H
                        clear c21
                        replace H := Option.bind_eq_some_iff.mp H
                        obtain ⟨t274, A540, H⟩ := H
                        replace H : ((spec_l21Part.f (wrap64 ((wrap64 ((wrap64 ((rd l0 x8_2) + (rd l1 x8_2))) + x7_2)))) 5).bind fun t275 => ((spec_l21Part.f (wrap64 ((wrap64 ((wrap64 ((rd l0 x8_2) + (rd l1 x8_2))) + x7_2)))) 1).bind fun t276 => (if x258000_2.length < 17592186044416 then (if 0 ≤ (mx 0 (wrap64 (x8_2 - 1))) then (if (mx 0 (wrap64 (x8_2 - 1))) < (x258001_2.length : Int) then ((some (x258001_2.set ((mx 0 (wrap64 (x8_2 - 1))) : Int).toNat (wrap64 ((rd x258001_2 (mx 0 (wrap64 (x8_2 - 1)))) + t274)) : List Int)).bind fun y281 => (if x8_2 < (x258001_2.length : Int) then ((some (y281.set (x8_2 : Int).toNat (wrap64 ((rd y281 x8_2) + t275)) : List Int)).bind fun y283 => (if 0 ≤ (mn 31 (wrap64 (x8_2 + 1))) then (if (mn 31 (wrap64 (x8_2 + 1))) < (x258001_2.length : Int) then (spec_DiffuseRow.l0 k2 l0 l1 (wrap64 ((wrap64 ((wrap64 ((wrap64 ((wrap64 ((wrap64 ((rd l0 x8_2) + (rd l1 x8_2))) + x7_2)))) - t274)) - t275)) - t276)) (wrap64 (x8_2 + 1)) (x258000_2 ++ [0]) (y283.set ((mn 31 (wrap64 (x8_2 + 1))) : Int).toNat (wrap64 ((rd y283 (mn 31 (wrap64 (x8_2 + 1)))) + t276)))) else (none)) else (none))) else (none))) else (none)) else (none)) else (none)))) = some (r1, r2, r3) := H
                        have A54 := Aside0.mk A540
                        clear A540
                        replace H := Option.bind_eq_some_iff.mp H
                        obtain ⟨t275, A550, H⟩ := H
                        replace H : ((spec_l21Part.f (wrap64 ((wrap64 ((wrap64 ((rd l0 x8_2) + (rd l1 x8_2))) + x7_2)))) 1).bind fun t276 => (if x258000_2.length < 17592186044416 then (if 0 ≤ (mx 0 (wrap64 (x8_2 - 1))) then (if (mx 0 (wrap64 (x8_2 - 1))) < (x258001_2.length : Int) then ((some (x258001_2.set ((mx 0 (wrap64 (x8_2 - 1))) : Int).toNat (wrap64 ((rd x258001_2 (mx 0 (wrap64 (x8_2 - 1)))) + t274)) : List Int)).bind fun y281 => (if x8_2 < (x258001_2.length : Int) then ((some (y281.set (x8_2 : Int).toNat (wrap64 ((rd y281 x8_2) + t275)) : List Int)).bind fun y283 => (if 0 ≤ (mn 31 (wrap64 (x8_2 + 1))) then (if (mn 31 (wrap64 (x8_2 + 1))) < (x258001_2.length : Int) then (spec_DiffuseRow.l0 k2 l0 l1 (wrap64 ((wrap64 ((wrap64 ((wrap64 ((wrap64 ((wrap64 ((rd l0 x8_2) + (rd l1 x8_2))) + x7_2)))) - t274)) - t275)) - t276)) (wrap64 (x8_2 + 1)) (x258000_2 ++ [0]) (y283.set ((mn 31 (wrap64 (x8_2 + 1))) : Int).toNat (wrap64 ((rd y283 (mn 31 (wrap64 (x8_2 + 1)))) + t276)))) else (none)) else (none))) else (none))) else (none)) else (none)) else (none))) = some (r1, r2, r3) := H
                        have A55 := Aside0.mk A550
                        clear A550
                        replace H := Option.bind_eq_some_iff.mp H
                        obtain ⟨t276, A560, H⟩ := H
                        replace H : (if x258000_2.length < 17592186044416 then (if 0 ≤ (mx 0 (wrap64 (x8_2 - 1))) then (if (mx 0 (wrap64 (x8_2 - 1))) < (x258001_2.length : Int) then ((some (x258001_2.set ((mx 0 (wrap64 (x8_2 - 1))) : Int).toNat (wrap64 ((rd x258001_2 (mx 0 (wrap64 (x8_2 - 1)))) + t274)) : List Int)).bind fun y281 => (if x8_2 < (x258001_2.length : Int) then ((some (y281.set (x8_2 : Int).toNat (wrap64 ((rd y281 x8_2) + t275)) : List Int)).bind fun y283 => (if 0 ≤ (mn 31 (wrap64 (x8_2 + 1))) then (if (mn 31 (wrap64 (x8_2 + 1))) < (x258001_2.length : Int) then (spec_DiffuseRow.l0 k2 l0 l1 (wrap64 ((wrap64 ((wrap64 ((wrap64 ((wrap64 ((wrap64 ((rd l0 x8_2) + (rd l1 x8_2))) + x7_2)))) - t274)) - t275)) - t276)) (wrap64 (x8_2 + 1)) (x258000_2 ++ [0]) (y283.set ((mn 31 (wrap64 (x8_2 + 1))) : Int).toNat (wrap64 ((rd y283 (mn 31 (wrap64 (x8_2 + 1)))) + t276)))) else (none)) else (none))) else (none))) else (none)) else (none)) else (none)) = some (r1, r2, r3) := H
                        have A56 := Aside0.mk A560
                        clear A560
                        by_cases c57 : x258000_2.length < 17592186044416
                        · rw [if_pos c57] at H
                          have LMc57 := Aside0.mk c57
                          clear c57
                          obtain ⟨y277, hy277⟩ : ∃ y_ : List Int, y_ = (x258000_2 ++ [0]) := ⟨_, rfl⟩
                          replace H : (if 0 ≤ (mx 0 (wrap64 (x8_2 - 1))) then (if (mx 0 (wrap64 (x8_2 - 1))) < (x258001_2.length : Int) then ((some (x258001_2.set ((mx 0 (wrap64 (x8_2 - 1))) : Int).toNat (wrap64 ((rd x258001_2 (mx 0 (wrap64 (x8_2 - 1)))) + t274)) : List Int)).bind fun y281 => (if x8_2 < (x258001_2.length : Int) then ((some (y281.set (x8_2 : Int).toNat (wrap64 ((rd y281 x8_2) + t275)) : List Int)).bind fun y283 => (if 0 ≤ (mn 31 (wrap64 (x8_2 + 1))) then (if (mn 31 (wrap64 (x8_2 + 1))) < (x258001_2.length : Int) then (spec_DiffuseRow.l0 k2 l0 l1 (wrap64 ((wrap64 ((wrap64 ((wrap64 ((wrap64 ((wrap64 ((rd l0 x8_2) + (rd l1 x8_2))) + x7_2)))) - t274)) - t275)) - t276)) (wrap64 (x8_2 + 1)) y277 (y283.set ((mn 31 (wrap64 (x8_2 + 1))) : Int).toNat (wrap64 ((rd y283 (mn 31 (wrap64 (x8_2 + 1)))) + t276)))) else (none)) else (none))) else (none))) else (none)) else (none)) = some (r1, r2, r3) := by first | (rw [hy277]; with_reducible exact H) | (have H2_ := (Option.bind_some _ _).symm.trans H; rw [hy277]; with_reducible exact H2_) | (have H2_ := (Option.bind_some _ _).symm.trans H; with_reducible exact H2_) | with_reducible exact H | (rw [hy277]; exact H) | exact H
                          have Ny277 := Aside0.mk hy277
                          clear hy277
                          obtain ⟨ji58, hji58⟩ : ∃ j_ : Int, (mx 0 (wrap64 (x8_2 - 1))) = j_ := ⟨_, rfl⟩
                          replace H : (if 0 ≤ (ji58) then (if (ji58) < (x258001_2.length : Int) then ((some (x258001_2.set ((ji58) : Int).toNat (wrap64 ((rd x258001_2 (ji58)) + t274)) : List Int)).bind fun y281 => (if x8_2 < (x258001_2.length : Int) then ((some (y281.set (x8_2 : Int).toNat (wrap64 ((rd y281 x8_2) + t275)) : List Int)).bind fun y283 => (if 0 ≤ (mn 31 (wrap64 (x8_2 + 1))) then (if (mn 31 (wrap64 (x8_2 + 1))) < (x258001_2.length : Int) then (spec_DiffuseRow.l0 k2 l0 l1 (wrap64 ((wrap64 ((wrap64 ((wrap64 ((wrap64 ((wrap64 ((rd l0 x8_2) + (rd l1 x8_2))) + x7_2)))) - t274)) - t275)) - t276)) (wrap64 (x8_2 + 1)) y277 (y283.set ((mn 31 (wrap64 (x8_2 + 1))) : Int).toNat (wrap64 ((rd y283 (mn 31 (wrap64 (x8_2 + 1)))) + t276)))) else (none)) else (none))) else (none))) else (none)) else (none)) = some (r1, r2, r3) := by first | (rw [hji58] at H; exact H) | (simp only [hji58] at H ⊢; exact H)
                          (try rw [hji58] at A54)
                          (try rw [hji58] at A55)
                          (try rw [hji58] at A56)
                          have hji58_ : (if 0 < (wrap64 (x8_2 - 1)) then (wrap64 (x8_2 - 1)) else 0) = ji58 := hji58
                          by_cases c60 : 0 ≤ (ji58)
                          · rw [if_pos c60] at H
                            have c60b0 : decide (0 ≤ (ji58)) = true := decide_eq_true c60
                            clear c60
                            by_cases c61 : (ji58) < (x258001_2.length : Int)
                            · rw [if_pos c61] at H
                              have c61b0 : decide ((ji58) < (x258001_2.length : Int)) = true := decide_eq_true c61
                              clear c61
                              obtain ⟨y281, hy281⟩ : ∃ y_ : List Int, y_ = (x258001_2.set ((ji58) : Int).toNat (wrap64 ((rd x258001_2 (ji58)) + t274))) := ⟨_, rfl⟩
                              replace H : (if x8_2 < (x258001_2.length : Int) then ((some (y281.set (x8_2 : Int).toNat (wrap64 ((rd y281 x8_2) + t275)) : List Int)).bind fun y283 => (if 0 ≤ (mn 31 (wrap64 (x8_2 + 1))) then (if (mn 31 (wrap64 (x8_2 + 1))) < (x258001_2.length : Int) then (spec_DiffuseRow.l0 k2 l0 l1 (wrap64 ((wrap64 ((wrap64 ((wrap64 ((wrap64 ((wrap64 ((rd l0 x8_2) + (rd l1 x8_2))) + x7_2)))) - t274)) - t275)) - t276)) (wrap64 (x8_2 + 1)) y277 (y283.set ((mn 31 (wrap64 (x8_2 + 1))) : Int).toNat (wrap64 ((rd y283 (mn 31 (wrap64 (x8_2 + 1)))) + t276)))) else (none)) else (none))) else (none)) = some (r1, r2, r3) := by first | (rw [hy281]; with_reducible exact H) | (have H2_ := (Option.bind_some _ _).symm.trans H; rw [hy281]; with_reducible exact H2_) | (have H2_ := (Option.bind_some _ _).symm.trans H; with_reducible exact H2_) | with_reducible exact H | (rw [hy281]; exact H) | exact H
                              have Ny281 := Aside0.mk hy281
                              clear hy281
                              by_cases c63 : x8_2 < (x258001_2.length : Int)
                              · rw [if_pos c63] at H
                                have c63b0 : decide (x8_2 < (x258001_2.length : Int)) = true := decide_eq_true c63
                                clear c63
                                obtain ⟨y283, hy283⟩ : ∃ y_ : List Int, y_ = (y281.set (x8_2 : Int).toNat (wrap64 ((rd y281 x8_2) + t275))) := ⟨_, rfl⟩
                                replace H : (if 0 ≤ (mn 31 (wrap64 (x8_2 + 1))) then (if (mn 31 (wrap64 (x8_2 + 1))) < (x258001_2.length : Int) then (spec_DiffuseRow.l0 k2 l0 l1 (wrap64 ((wrap64 ((wrap64 ((wrap64 ((wrap64 ((wrap64 ((rd l0 x8_2) + (rd l1 x8_2))) + x7_2)))) - t274)) - t275)) - t276)) (wrap64 (x8_2 + 1)) y277 (y283.set ((mn 31 (wrap64 (x8_2 + 1))) : Int).toNat (wrap64 ((rd y283 (mn 31 (wrap64 (x8_2 + 1)))) + t276)))) else (none)) else (none)) = some (r1, r2, r3) := by first | (rw [hy283]; with_reducible exact H) | (have H2_ := (Option.bind_some _ _).symm.trans H; rw [hy283]; with_reducible exact H2_) | (have H2_ := (Option.bind_some _ _).symm.trans H; with_reducible exact H2_) | with_reducible exact H | (rw [hy283]; exact H) | exact H
                                have Ny283 := Aside0.mk hy283
                                clear hy283
                                obtain ⟨ji65, hji65⟩ : ∃ j_ : Int, (mn 31 (wrap64 (x8_2 + 1))) = j_ := ⟨_, rfl⟩
                                replace H : (if 0 ≤ (ji65) then (if (ji65) < (x258001_2.length : Int) then (spec_DiffuseRow.l0 k2 l0 l1 (wrap64 ((wrap64 ((wrap64 ((wrap64 ((wrap64 ((wrap64 ((rd l0 x8_2) + (rd l1 x8_2))) + x7_2)))) - t274)) - t275)) - t276)) (wrap64 (x8_2 + 1)) y277 (y283.set ((ji65) : Int).toNat (wrap64 ((rd y283 (ji65)) + t276)))) else (none)) else (none)) = some (r1, r2, r3) := by first | (rw [hji65] at H; exact H) | (simp only [hji65] at H ⊢; exact H)
                                (try rw [hji65] at A54)
                                (try rw [hji65] at A55)
                                (try rw [hji65] at A56)
                                have hji65_ : (if (wrap64 (x8_2 + 1)) < 31 then (wrap64 (x8_2 + 1)) else 31) = ji65 := hji65
                                by_cases c67 : 0 ≤ (ji65)
                                · rw [if_pos c67] at H
                                  have c67b0 : decide (0 ≤ (ji65)) = true := decide_eq_true c67
                                  clear c67
                                  by_cases c68 : (ji65) < (x258001_2.length : Int)
                                  · rw [if_pos c68] at H
                                    have c68b0 : decide ((ji65) < (x258001_2.length : Int)) = true := decide_eq_true c68
                                    clear c68
                                    obtain ⟨y285, hy285⟩ : ∃ y_ : List Int, y_ = (y283.set ((ji65) : Int).toNat (wrap64 ((rd y283 (ji65)) + t276))) := ⟨_, rfl⟩
                                    replace H : (spec_DiffuseRow.l0 k2 l0 l1 (wrap64 ((wrap64 ((wrap64 ((wrap64 ((wrap64 ((wrap64 ((rd l0 x8_2) + (rd l1 x8_2))) + x7_2)))) - t274)) - t275)) - t276)) (wrap64 (x8_2 + 1)) y277 y285) = some (r1, r2, r3) := by first | (rw [hy285]; with_reducible exact H) | (have H2_ := (Option.bind_some _ _).symm.trans H; rw [hy285]; with_reducible exact H2_) | (have H2_ := (Option.bind_some _ _).symm.trans H; with_reducible exact H2_) | with_reducible exact H | (rw [hy285]; exact H) | exact H
                                    have Ny285 := Aside0.mk hy285
                                    clear hy285
                                    have H' := Aside0.mk H
                                    clear H
                                    try go_wp2
                                    have n0_ := Aside0.mk (Kd.R_drew HO_258000.out)
                                    have n1_ := Aside0.mk (Kd.R_drew HO_258001.out)
                                    have n2_ := Aside0.mk (blk_drew BK251.out)
                                    have n3_ := Aside0.mk (blk_drew BK257.out)
                                    have n4_ := Aside0.mk (below_drew1 HB.out)
                                    clear HO_258000
                                    clear HO_258001
                                    clear BK251
                                    clear BK257
                                    clear HB
                                    have HO_258000 := n0_
                                    have HO_258001 := n1_
                                    have BK251 := n2_
                                    have BK257 := n3_
                                    have HB := n4_
                                    clear n0_ n1_ n2_ n3_ n4_
                                    have p260 : 0 ≤ (x8_2 : Int) := of_decide_eq_true (by first | (with_reducible assumption) | assumption)
                                    have q260 : x8_2 < (l0.length : Int) := of_decide_eq_true (by first | (with_reducible assumption) | assumption)
                                    obtain ⟨ad260, e260, hx260_0⟩ := Kd.at_int HR0.out x8_2 p260 q260
                                    have hw260_0 := hx260_0
                                    cases e260
                                    replace hx260_0 := (HB.out.cell (World.block_lt_of_cell? w _ hx260_0)).trans hx260_0
                                    replace p260 := eq_true p260
                                    replace q260 := eq_true q260
                                    have p261 : 0 ≤ (x8_2 : Int) := of_decide_eq_true (by first | (with_reducible assumption) | assumption)
                                    have q261 : x8_2 < (l1.length : Int) := of_decide_eq_true (by first | (with_reducible assumption) | assumption)
                                    obtain ⟨ad261, e261, hx261_0⟩ := Kd.at_int HR1.out x8_2 p261 q261
                                    have hw261_0 := hx261_0
                                    cases e261
                                    replace hx261_0 := (HB.out.cell (World.block_lt_of_cell? w _ hx261_0)).trans hx261_0
                                    replace p261 := eq_true p261
                                    replace q261 := eq_true q261
                                    refine start_ (n := 12) (S := fun w' => w'.cell? (ad260.add (x8_2).toNat) = some (.int .i64 (rd l0 x8_2)) ∧ w'.cell? (ad261.add (x8_2).toNat) = some (.int .i64 (rd l1 x8_2))) (ds := []) #[false, false, false, false, false, false, false, false, false, false, false, false] (by kernel_rfl) rfl rfl ⟨((HB.out.cell (World.block_lt_of_cell? w _ hw260_0)).trans hw260_0), ((HB.out.cell (World.block_lt_of_cell? w _ hw261_0)).trans hw261_0)⟩ (fun hHeld => ?_); refine with_tabW spec_DiffuseRow.tab8 spec_DiffuseRow.bits8 (fun HT_ HW_ => ?_)
                                    generalize wr.drew = w70 at HO_258000 HO_258001 BK251 BK257 HB hx260_0 hx261_0 hHeld ⊢
                                    refine pure_ (i := 0) (N := some 30) (v := ?_) (a' := ?_) #[true, false, false, false, false, false, false, false, false, false, false, false] rfl rfl (any_of HT_.out (by kernel_rfl)) (fun _ _ _ h => h) (Or.inl ⟨by rfl, ?_⟩) ?_ ?_
                                    rotate_left
                                    · intro w'
                                      go_simp
                                      with_reducible rfl
                                    rotate_left
                                    · simp only [Act.put, List.setIfInBounds_toArray, List.set_cons_zero, List.set_cons_succ, i64_w, i32_w]
                                      rfl
                                    refine pure_ (i := 1) (N := some 31) (v := ?_) (a' := ?_) #[true, true, false, false, false, false, false, false, false, false, false, false] rfl rfl (any_of HT_.out (by kernel_rfl)) (fun _ _ _ h => h) (Or.inl ⟨by rfl, ?_⟩) ?_ ?_
                                    rotate_left
                                    · intro w'
                                      go_simp
                                      with_reducible rfl
                                    rotate_left
                                    · simp only [Act.put, List.setIfInBounds_toArray, List.set_cons_zero, List.set_cons_succ, i64_w, i32_w]
                                      rfl
                                    refine pure_ (i := 2) (N := some 32) (v := ?_) (a' := ?_) #[true, true, true, false, false, false, false, false, false, false, false, false] rfl rfl (any_of HT_.out (by kernel_rfl)) (fun _ _ _ h => h) (Or.inl ⟨by rfl, ?_⟩) ?_ ?_
                                    rotate_left
                                    · intro w'
                                      go_simp
                                      with_reducible rfl
                                    rotate_left
                                    · simp only [Act.put, List.setIfInBounds_toArray, List.set_cons_zero, List.set_cons_succ, i64_w, i32_w]
                                      rfl
                                    refine pure_ (i := 4) (N := some 34) (v := ?_) (a' := ?_) #[true, true, true, false, true, false, false, false, false, false, false, false] rfl rfl (any_of HT_.out (by kernel_rfl)) (fun _ _ _ h => h) (Or.inl ⟨by rfl, ?_⟩) ?_ ?_
                                    rotate_left
                                    · intro w'
                                      go_simp
                                      with_reducible rfl
                                    rotate_left
                                    · simp only [Act.put, List.setIfInBounds_toArray, List.set_cons_zero, List.set_cons_succ, i64_w, i32_w]
                                      rfl
                                    refine pure_ (i := 5) (N := some 35) (v := ?_) (a' := ?_) #[true, true, true, false, true, true, false, false, false, false, false, false] rfl rfl (any_of HT_.out (by kernel_rfl)) (fun _ _ _ h => h) (Or.inl ⟨by rfl, ?_⟩) ?_ ?_
                                    rotate_left
                                    · intro w'
                                      go_simp
                                      with_reducible rfl
                                    rotate_left
                                    · simp only [Act.put, List.setIfInBounds_toArray, List.set_cons_zero, List.set_cons_succ, i64_w, i32_w]
                                      rfl
                                    refine pure_ (i := 6) (N := some 36) (v := ?_) (a' := ?_) #[true, true, true, false, true, true, true, false, false, false, false, false] rfl rfl (any_of HT_.out (by kernel_rfl)) (fun _ _ _ h => h) (Or.inl ⟨by rfl, ?_⟩) ?_ ?_
                                    rotate_left
                                    · intro w'
                                      go_simp
                                      with_reducible rfl
                                    rotate_left
                                    · simp only [Act.put, List.setIfInBounds_toArray, List.set_cons_zero, List.set_cons_succ, i64_w, i32_w]
                                      rfl
                                    refine pure_ (i := 9) (N := some 39) (v := ?_) (a' := ?_) #[true, true, true, false, true, true, true, false, false, true, false, false] rfl rfl (any_of HT_.out (by kernel_rfl)) (fun _ _ _ h => h) (Or.inl ⟨by rfl, ?_⟩) ?_ ?_
                                    rotate_left
                                    · intro w'
                                      go_simp
                                      with_reducible rfl
                                    rotate_left
                                    · simp only [Act.put, List.setIfInBounds_toArray, List.set_cons_zero, List.set_cons_succ, i64_w, i32_w]
                                      rfl
                                    refine take_ (i := 3) (N := some 33) (v := ?_) (a' := ?_) #[true, true, true, true, true, true, true, false, false, true, false, false] rfl rfl (take_ofW HT_.out HW_.out (by kernel_rfl)) (fun _ _ _ h => h) (Or.inl ⟨by rfl, ?_⟩) hHeld ?_ ?_
                                    rotate_left
                                    · rintro w' ⟨s0, s1⟩
                                      go_simp
                                      with_reducible rfl
                                    rotate_left
                                    · simp only [Act.put, List.setIfInBounds_toArray, List.set_cons_zero, List.set_cons_succ, i64_w, i32_w]
                                      rfl
                                    refine take_ (i := 7) (N := some 37) (v := ?_) (a' := ?_) #[true, true, true, true, true, true, true, true, false, true, false, false] rfl rfl (take_ofW HT_.out HW_.out (by kernel_rfl)) (fun _ _ _ h => h) (Or.inl ⟨by rfl, ?_⟩) hHeld ?_ ?_
                                    rotate_left
                                    · rintro w' ⟨s0, s1⟩
                                      go_simp
                                      with_reducible rfl
                                    rotate_left
                                    · simp only [Act.put, List.setIfInBounds_toArray, List.set_cons_zero, List.set_cons_succ, i64_w, i32_w]
                                      rfl
                                    refine pure_ (i := 8) (N := some 38) (v := ?_) (a' := ?_) #[true, true, true, true, true, true, true, true, true, true, false, false] rfl rfl (any_of HT_.out (by kernel_rfl)) (fun _ _ _ h => h) (Or.inl ⟨by rfl, ?_⟩) ?_ ?_
                                    rotate_left
                                    · intro w'
                                      go_simp
                                      with_reducible rfl
                                    rotate_left
                                    · simp only [Act.put, List.setIfInBounds_toArray, List.set_cons_zero, List.set_cons_succ, i64_w, i32_w]
                                      rfl
                                    refine pure_ (i := 10) (N := some 40) (v := ?_) (a' := ?_) #[true, true, true, true, true, true, true, true, true, true, true, false] rfl rfl (any_of HT_.out (by kernel_rfl)) (fun _ _ _ h => h) (Or.inl ⟨by rfl, ?_⟩) ?_ ?_
                                    rotate_left
                                    · intro w'
                                      go_simp
                                      with_reducible rfl
                                    rotate_left
                                    · simp only [Act.put, List.setIfInBounds_toArray, List.set_cons_zero, List.set_cons_succ, i64_w, i32_w]
                                      rfl
                                    refine pure_ (i := 11) (N := some 9) (v := ?_) (a' := ?_) #[true, true, true, true, true, true, true, true, true, true, true, true] rfl rfl (any_of HT_.out (by kernel_rfl)) (fun _ _ _ h => h) (Or.inl ⟨by rfl, ?_⟩) ?_ ?_
                                    rotate_left
                                    · intro w'
                                      go_simp
                                      with_reducible rfl
                                    rotate_left
                                    · simp only [Act.put, List.setIfInBounds_toArray, List.set_cons_zero, List.set_cons_succ, i64_w, i32_w]
                                      rfl
                                    refine done_ (done_of HT_.out (by kernel_rfl)) ?_
                                    try go_wp2_with (first | ((with_reducible refine gate_callee (f := 104) rfl ?_); refine goesL_ (some 48) rfl rfl Try.func104 (by kernel_rfl) rfl #[.int .i64 (wrap64 ((wrap64 ((wrap64 ((rd l0 x8_2) + (rd l1 x8_2))) + x7_2)))), .int .i64 3] rfl Fix.uA ?_; (with_reducible refine (spec_l21Part.calls (wrap64 ((wrap64 ((wrap64 ((rd l0 x8_2) + (rd l1 x8_2))) + x7_2)))) 3 t274 _ A54.out).mono ?_); rintro e w' ⟨rfl, ⟨nd, rfl⟩⟩; refine ⟨_, rfl, ?_⟩; (try (rw [drewN_self w70]; generalize hq_ : World.drewN w70 _ = w70; have n0_ : Aside0 (Kd.R (Kd.int .i64) 3 w70 w.heap.size (fun k_ => some k_ ≠ (u258001 : Value).ownBlock) u258000 x258000_2) := ⟨by rw [← hq_]; exact (Fix.uR HO_258000.out)⟩; have n1_ : Aside0 (Kd.R (Kd.int .i64) 3 w70 w.heap.size (fun k_ => some k_ ≠ (u258000 : Value).ownBlock) u258001 x258001_2) := ⟨by rw [← hq_]; exact (Fix.uR HO_258001.out)⟩; have n2_ : Aside0 (w70.heap[gb251]? = some (.cells #[.slice none 0 0, .slice none 0 0] 92 (0, 0))) := ⟨by rw [← hq_]; exact (Fix.uK BK251.out)⟩; have n3_ : Aside0 (w70.heap[gb257]? = some (.cells #[u258000, u258001] 92 (0, 0))) := ⟨by rw [← hq_]; exact (Fix.uK BK257.out)⟩; have n4_ : Aside0 (Below w.heap.size w w70) := ⟨by rw [← hq_]; exact Fix.uB⟩; clear HO_258000 HO_258001 BK251 BK257 HB hq_; have HO_258000 := n0_; have HO_258001 := n1_; have BK251 := n2_; have BK257 := n3_; have HB := n4_; clear n0_ n1_ n2_ n3_ n4_))) | ((with_reducible refine gate_callee (f := 104) rfl ?_); refine goesL_ (some 50) rfl rfl Try.func104 (by kernel_rfl) rfl #[.int .i64 (wrap64 ((wrap64 ((wrap64 ((rd l0 x8_2) + (rd l1 x8_2))) + x7_2)))), .int .i64 5] rfl Fix.uA ?_; (with_reducible refine (spec_l21Part.calls (wrap64 ((wrap64 ((wrap64 ((rd l0 x8_2) + (rd l1 x8_2))) + x7_2)))) 5 t275 _ A55.out).mono ?_); rintro e w' ⟨rfl, ⟨nd, rfl⟩⟩; refine ⟨_, rfl, ?_⟩; (try (rw [drewN_self w70]; generalize hq_ : World.drewN w70 _ = w70; have n0_ : Aside0 (Kd.R (Kd.int .i64) 3 w70 w.heap.size (fun k_ => some k_ ≠ (u258001 : Value).ownBlock) u258000 x258000_2) := ⟨by rw [← hq_]; exact (Fix.uR HO_258000.out)⟩; have n1_ : Aside0 (Kd.R (Kd.int .i64) 3 w70 w.heap.size (fun k_ => some k_ ≠ (u258000 : Value).ownBlock) u258001 x258001_2) := ⟨by rw [← hq_]; exact (Fix.uR HO_258001.out)⟩; have n2_ : Aside0 (w70.heap[gb251]? = some (.cells #[.slice none 0 0, .slice none 0 0] 92 (0, 0))) := ⟨by rw [← hq_]; exact (Fix.uK BK251.out)⟩; have n3_ : Aside0 (w70.heap[gb257]? = some (.cells #[u258000, u258001] 92 (0, 0))) := ⟨by rw [← hq_]; exact (Fix.uK BK257.out)⟩; have n4_ : Aside0 (Below w.heap.size w w70) := ⟨by rw [← hq_]; exact Fix.uB⟩; clear HO_258000 HO_258001 BK251 BK257 HB hq_; have HO_258000 := n0_; have HO_258001 := n1_; have BK251 := n2_; have BK257 := n3_; have HB := n4_; clear n0_ n1_ n2_ n3_ n4_))) | ((with_reducible refine gate_callee (f := 104) rfl ?_); refine goesL_ (some 52) rfl rfl Try.func104 (by kernel_rfl) rfl #[.int .i64 (wrap64 ((wrap64 ((wrap64 ((rd l0 x8_2) + (rd l1 x8_2))) + x7_2)))), .int .i64 1] rfl Fix.uA ?_; (with_reducible refine (spec_l21Part.calls (wrap64 ((wrap64 ((wrap64 ((rd l0 x8_2) + (rd l1 x8_2))) + x7_2)))) 1 t276 _ A56.out).mono ?_); rintro e w' ⟨rfl, ⟨nd, rfl⟩⟩; refine ⟨_, rfl, ?_⟩; (try (rw [drewN_self w70]; generalize hq_ : World.drewN w70 _ = w70; have n0_ : Aside0 (Kd.R (Kd.int .i64) 3 w70 w.heap.size (fun k_ => some k_ ≠ (u258001 : Value).ownBlock) u258000 x258000_2) := ⟨by rw [← hq_]; exact (Fix.uR HO_258000.out)⟩; have n1_ : Aside0 (Kd.R (Kd.int .i64) 3 w70 w.heap.size (fun k_ => some k_ ≠ (u258000 : Value).ownBlock) u258001 x258001_2) := ⟨by rw [← hq_]; exact (Fix.uR HO_258001.out)⟩; have n2_ : Aside0 (w70.heap[gb251]? = some (.cells #[.slice none 0 0, .slice none 0 0] 92 (0, 0))) := ⟨by rw [← hq_]; exact (Fix.uK BK251.out)⟩; have n3_ : Aside0 (w70.heap[gb257]? = some (.cells #[u258000, u258001] 92 (0, 0))) := ⟨by rw [← hq_]; exact (Fix.uK BK257.out)⟩; have n4_ : Aside0 (Below w.heap.size w w70) := ⟨by rw [← hq_]; exact Fix.uB⟩; clear HO_258000 HO_258001 BK251 BK257 HB hq_; have HO_258000 := n0_; have HO_258001 := n1_; have BK251 := n2_; have BK257 := n3_; have HB := n4_; clear n0_ n1_ n2_ n3_ n4_)); have hnb71 := NB257_251.out; have hnc71 := NB251_257.out; have hcz72_0 : w70.cell? ⟨gb257, 0, none⟩ = some (u258000) := (blk_cell BK257.out 0).trans rfl; have hcz72_1 : w70.cell? ⟨gb257, 1, none⟩ = some (u258001) := (blk_cell BK257.out 1).trans rfl; have hfz72_0 := blk_frozen BK257.out 0; have hfz72_1 := blk_frozen BK257.out 1) | ((with_reducible refine gate_builtin (b := .append) (xs := #[.tmp 61, .tmp 63]) rfl ?_); at_builtin; refine Kd.R_append (Kd.int .i64) (w0 := w) w.heap.size rfl (.tmp 61) (.tmp 63) 39 3 (.int .i64 0) 8 rfl Try.underlying39 info3 rfl (by decide) (by omega) u258000 x258000_2 0 [.int .i64 0] (fun k_ => some k_ ≠ (u258001 : Value).ownBlock) (fun _ => False) rfl rfl ?aP (fun _ hk => hk.elim) ?aF ?aO ?aB ?aS ?aL ?_; (case aP => exact rfl); (case aB => exact Fix.uB); (case aF => exact (fun k_ hk => Kd.fresh' (Kd.R_lt (Fix.uR HO_258001.out)) k_ hk)); (case aO => exact (Fix.uR HO_258000.out)); (case aS => exact (below_size Fix.uB)); (case aL => have := LMc57.out; omega); intro v278 w73 ho hb hg hat; rw [← Ny277.out] at ho; have n0_ := Aside0.mk (Kd.R_after (ok := (fun _ => True)) (by (with_reducible repeat (first | apply Kd.R_alloc | apply Kd.R_drewN | apply Kd.R_drew)); exact Kd.R_mono HO_258001.out (fun _ hk => ⟨trivial, hk⟩)) hg hat); have n1_ := Aside0.mk (blk_grown (g := gb251) (o := .cells #[.slice none 0 0, .slice none 0 0] 92 (0, 0)) (Fix.uK BK251.out) hg (Kd.R_ne HO_258000.out BK251.out (by decide))); have n2_ := Aside0.mk (blk_grown (g := gb257) (o := .cells #[u258000, u258001] 92 (0, 0)) (Fix.uK BK257.out) hg (Kd.R_ne HO_258000.out BK257.out (by decide))); have n3_ := Aside0.mk (hb); have n4_ := Aside0.mk (ho); clear HO_258001; clear BK251; clear BK257; clear HB; clear HO_258000; have HO_258001 := n0_; have BK251 := n1_; have BK257 := n2_; have HB := n3_; have HO279 := n4_; clear n0_ n1_ n2_ n3_ n4_; clear ho hb hg hat; obtain ⟨Ao74, co74, eo74⟩ := Kd.R_slice HO279.out; subst eo74; have hcz75_0 : w73.cell? ⟨gb257, 0, none⟩ = some (u258000) := (blk_cell BK257.out 0).trans rfl; have hcz75_1 : w73.cell? ⟨gb257, 1, none⟩ = some (u258001) := (blk_cell BK257.out 1).trans rfl; have hfz75_0 := blk_frozen BK257.out 0; have hfz75_1 := blk_frozen BK257.out 1))
                                    have n0_ : Aside0 (Kd.R (Kd.int .i64) 3 (w73.setCell ⟨gb257, 0, none⟩ (.slice Ao74 y277.length co74)) w.heap.size (fun k_ => some k_ ≠ (.slice Ao74 y277.length co74 : Value).ownBlock) u258001 x258001_2) := ⟨by (with_reducible repeat (first | apply Kd.R_alloc | apply Kd.R_drewN | apply Kd.R_drew)); exact Kd.R_mono (Kd.R_far (p := ⟨gb257, 0, none⟩) (Kd.R_types HO_258001.out BK257.out (by decide)) (fun _ hk => hk.2) (.slice Ao74 y277.length co74)) (fun _ hk => hk.1.2)⟩
                                    have n1_ : Aside0 (Kd.R (Kd.int .i64) 3 (w73.setCell ⟨gb257, 0, none⟩ (.slice Ao74 y277.length co74)) w.heap.size (fun k_ => some k_ ≠ (u258001 : Value).ownBlock) (.slice Ao74 y277.length co74) y277) := ⟨by (with_reducible repeat (first | apply Kd.R_alloc | apply Kd.R_drewN | apply Kd.R_drew)); exact Kd.R_mono (Kd.R_far (p := ⟨gb257, 0, none⟩) (Kd.R_types HO279.out BK257.out (by decide)) (fun _ hk => hk.2) (.slice Ao74 y277.length co74)) (fun _ hk => hk.1)⟩
                                    have n2_ : Aside0 ((w73.setCell ⟨gb257, 0, none⟩ (.slice Ao74 y277.length co74)).heap[gb251]? = some (.cells #[.slice none 0 0, .slice none 0 0] 92 (0, 0))) := ⟨by (with_reducible repeat (first | refine Fix.kN ?_ _ | refine Fix.kD ?_ | refine Fix.kA ?_ _)); refine blk_far ?_ NB251_257.out _; (with_reducible repeat (first | refine Fix.kN ?_ _ | refine Fix.kD ?_ | refine Fix.kA ?_ _)); exact BK251.out⟩
                                    have n3_ : Aside0 ((w73.setCell ⟨gb257, 0, none⟩ (.slice Ao74 y277.length co74)).heap[gb257]? = some (.cells #[.slice Ao74 y277.length co74, u258001] 92 (0, 0))) := ⟨by (with_reducible repeat (first | refine Fix.kN ?_ _ | refine Fix.kD ?_ | refine Fix.kA ?_ _)); refine blk_put (cs := #[u258000, u258001]) ?_ 0 _ rfl; (with_reducible repeat (first | refine Fix.kN ?_ _ | refine Fix.kD ?_ | refine Fix.kA ?_ _)); exact BK257.out⟩
                                    have n4_ : Aside0 (Below w.heap.size w (w73.setCell ⟨gb257, 0, none⟩ (.slice Ao74 y277.length co74))) := ⟨Fix.uB⟩
                                    (try clear HO_258001)
                                    (try clear HO279)
                                    (try clear BK251)
                                    (try clear BK257)
                                    (try clear HB)
                                    generalize (w73.setCell ⟨gb257, 0, none⟩ (.slice Ao74 y277.length co74)) = w76 at n0_ n1_ n2_ n3_ n4_ ⊢
                                    have HO_258001 := n0_
                                    have HO279 := n1_
                                    have BK251 := n2_
                                    have BK257 := n3_
                                    have HB := n4_
                                    clear n0_ n1_ n2_ n3_ n4_
                                    have n0_ := Aside0.mk (Kd.R_drew HO_258001.out)
                                    have n1_ := Aside0.mk (Kd.R_drew HO279.out)
                                    have n2_ := Aside0.mk (blk_drew BK251.out)
                                    have n3_ := Aside0.mk (blk_drew BK257.out)
                                    have n4_ := Aside0.mk (below_drew1 HB.out)
                                    clear HO_258001
                                    clear HO279
                                    clear BK251
                                    clear BK257
                                    clear HB
                                    have HO_258001 := n0_
                                    have HO279 := n1_
                                    have BK251 := n2_
                                    have BK257 := n3_
                                    have HB := n4_
                                    clear n0_ n1_ n2_ n3_ n4_
                                    obtain ⟨Ao78, co78, eo78⟩ := Kd.R_slice HO_258001.out
                                    (first | subst eo78 | (injection eo78 with f1_ f2_ f3_; have f4_ := f1_.symm; have f5_ := f3_.symm; clear f1_ f2_ f3_; subst f4_; subst f5_))
                                    have p280 : 0 ≤ ((ji58) : Int) := of_decide_eq_true (by first | (with_reducible assumption) | assumption)
                                    have q280 : (ji58) < (x258001_2.length : Int) := of_decide_eq_true (by first | (with_reducible assumption) | assumption)
                                    obtain ⟨ad280, e280, hx280_0⟩ := Kd.at_int (Kd.R_reads' HO_258001.out).2.2 (ji58) p280 q280
                                    cases e280
                                    replace p280 := eq_true p280
                                    replace q280 := eq_true q280
                                    have p62 : 0 ≤ ((ji58) : Int) := of_decide_eq_true (by first | (with_reducible assumption) | assumption)
                                    have q62 : ((ji58) : Int) < ((x258001_2.length : Int) : Int) := of_decide_eq_true (by first | (with_reducible assumption) | assumption)
                                    obtain ⟨go62, co62, eo62, gb62, gl62, cl62, HG62⟩ := Kd.R_form HO_258001.out (by omega)
                                    (first | cases eo62 | (injection eo62 with ea_ en_ ec_; (first | subst ea_ | (injection ea_ with ea_; subst ea_)); subst ec_; clear en_))
                                    have GB62 := Aside0.mk gb62
                                    have GG62 := Aside0.mk HG62
                                    clear gb62 gl62 HG62
                                    (first | simp only [add_plain] at hx280_0 | skip)
                                    obtain ⟨hx62_0, hf62_0⟩ := Kd.R_celln 0 HO_258001.out ((ji58) : Int) p62 q62
                                    replace p62 := eq_true p62
                                    replace q62 := eq_true q62
                                    have HP79 := Kd.R_putn HO_258001.out ((ji58) : Int) (wrap64 ((rd x258001_2 (ji58)) + t274))
                                    rw [← Ny281.out] at HP79
                                    have HQ79 := Aside0.mk HP79
                                    clear HP79
                                    refine start_ (n := 16) (S := fun w' => w'.cell? ⟨gb257, 0, none⟩ = some (.slice Ao74 y277.length co74) ∧ w'.cell? ⟨gb257, 1, none⟩ = some (.slice (some ⟨go62, 0, none⟩) x258001_2.length co78) ∧ w'.cell? ⟨go62, ((ji58)).toNat, none⟩ = some (.int .i64 (rd x258001_2 (ji58)))) (ds := [15]) #[false, false, false, false, false, false, false, false, false, false, false, false, false, false, false, false] (by kernel_rfl) rfl rfl ⟨(blk_cell BK257.out 0).trans rfl, (blk_cell BK257.out 1).trans rfl, hx280_0⟩ (fun hHeld => ?_); refine with_tabW spec_DiffuseRow.tab18 spec_DiffuseRow.bits18 (fun HT_ HW_ => ?_)
                                    generalize w76.drew = w77 at HO_258001 HO279 BK251 BK257 HB GG62 HQ79 hf62_0 hx280_0 hx62_0 hHeld ⊢
                                    refine pure_ (i := 0) (N := some 66) (v := ?_) (a' := ?_) #[true, false, false, false, false, false, false, false, false, false, false, false, false, false, false, false] rfl rfl (any_of HT_.out (by kernel_rfl)) (fun _ _ _ h => h) (Or.inl ⟨by rfl, ?_⟩) ?_ ?_
                                    rotate_left
                                    · intro w'
                                      go_simp
                                      with_reducible rfl
                                    rotate_left
                                    · simp only [Act.put, List.setIfInBounds_toArray, List.set_cons_zero, List.set_cons_succ, i64_w, i32_w]
                                      rfl
                                    refine pure_ (i := 2) (N := some 68) (v := ?_) (a' := ?_) #[true, false, true, false, false, false, false, false, false, false, false, false, false, false, false, false] rfl rfl (any_of HT_.out (by kernel_rfl)) (fun _ _ _ h => h) (Or.inl ⟨by rfl, ?_⟩) ?_ ?_
                                    rotate_left
                                    · intro w'
                                      go_simp
                                      with_reducible rfl
                                    rotate_left
                                    · simp only [Act.put, List.setIfInBounds_toArray, List.set_cons_zero, List.set_cons_succ, i64_w, i32_w]
                                      rfl
                                    refine pure_ (i := 3) (N := some 69) (v := ?_) (a' := ?_) #[true, false, true, true, false, false, false, false, false, false, false, false, false, false, false, false] rfl rfl (any_of HT_.out (by kernel_rfl)) (fun _ _ _ h => h) (Or.inl ⟨by rfl, ?_⟩) ?_ ?_
                                    rotate_left
                                    · intro w'
                                      go_simp
                                      with_reducible rfl
                                    rotate_left
                                    · simp only [Act.put, List.setIfInBounds_toArray, List.set_cons_zero, List.set_cons_succ, i64_w, i32_w]
                                      rfl
                                    refine pure_ (i := 4) (N := some 70) (v := ?_) (a' := ?_) #[true, false, true, true, true, false, false, false, false, false, false, false, false, false, false, false] rfl rfl (any_of HT_.out (by kernel_rfl)) (fun _ _ _ h => h) (Or.inl ⟨by rfl, ?_⟩) ?_ ?_
                                    rotate_left
                                    · intro w'
                                      go_simp
                                      with_reducible rfl
                                    rotate_left
                                    · simp only [Act.put, List.setIfInBounds_toArray, List.set_cons_zero, List.set_cons_succ, i64_w, i32_w]
                                      rfl
                                    refine pure_ (i := 5) (N := some 71) (v := ?_) (a' := ?_) #[true, false, true, true, true, true, false, false, false, false, false, false, false, false, false, false] rfl rfl (any_of HT_.out (by kernel_rfl)) (fun _ _ _ h => h) (Or.inl ⟨by rfl, ?_⟩) ?_ ?_
                                    rotate_left
                                    · intro w'
                                      go_simp
                                      with_reducible rfl
                                    rotate_left
                                    · simp only [Act.put, List.setIfInBounds_toArray, List.set_cons_zero, List.set_cons_succ, i64_w, i32_w]
                                      rfl
                                    refine pure_ (i := 7) (N := some 73) (v := ?_) (a' := ?_) #[true, false, true, true, true, true, false, true, false, false, false, false, false, false, false, false] rfl rfl (any_of HT_.out (by kernel_rfl)) (fun _ _ _ h => h) (Or.inl ⟨by rfl, ?_⟩) ?_ ?_
                                    rotate_left
                                    · intro w'
                                      go_simp
                                      with_reducible rfl
                                    rotate_left
                                    · simp only [Act.put, List.setIfInBounds_toArray, List.set_cons_zero, List.set_cons_succ, i64_w, i32_w]
                                      rfl
                                    refine pure_ (i := 8) (N := some 74) (v := ?_) (a' := ?_) #[true, false, true, true, true, true, false, true, true, false, false, false, false, false, false, false] rfl rfl (any_of HT_.out (by kernel_rfl)) (fun _ _ _ h => h) (Or.inl ⟨by rfl, ?_⟩) ?_ ?_
                                    rotate_left
                                    · intro w'
                                      go_simp
                                      with_reducible rfl
                                    rotate_left
                                    · simp only [Act.put, List.setIfInBounds_toArray, List.set_cons_zero, List.set_cons_succ, i64_w, i32_w]
                                      rfl
                                    refine pure_ (i := 9) (N := some 75) (v := ?_) (a' := ?_) #[true, false, true, true, true, true, false, true, true, true, false, false, false, false, false, false] rfl rfl (any_of HT_.out (by kernel_rfl)) (fun _ _ _ h => h) (Or.inl ⟨by rfl, ?_⟩) ?_ ?_
                                    rotate_left
                                    · intro w'
                                      go_simp
                                      with_reducible rfl
                                    rotate_left
                                    · simp only [Act.put, List.setIfInBounds_toArray, List.set_cons_zero, List.set_cons_succ, i64_w, i32_w]
                                      rfl
                                    refine pure_ (i := 12) (N := some 78) (v := ?_) (a' := ?_) #[true, false, true, true, true, true, false, true, true, true, false, false, true, false, false, false] rfl rfl (any_of HT_.out (by kernel_rfl)) (fun _ _ _ h => h) (Or.inl ⟨by rfl, ?_⟩) ?_ ?_
                                    rotate_left
                                    · intro w'
                                      go_simp
                                      with_reducible rfl
                                    rotate_left
                                    · simp only [Act.put, List.setIfInBounds_toArray, List.set_cons_zero, List.set_cons_succ, i64_w, i32_w]
                                      rfl
                                    refine take_ (i := 1) (N := some 67) (v := ?_) (a' := ?_) #[true, true, true, true, true, true, false, true, true, true, false, false, true, false, false, false] rfl rfl (take_ofW HT_.out HW_.out (by kernel_rfl)) (fun _ _ _ h => h) (Or.inl ⟨by rfl, ?_⟩) hHeld ?_ ?_
                                    rotate_left
                                    · rintro w' ⟨s0, s1, s2⟩
                                      go_simp
                                      with_reducible rfl
                                    rotate_left
                                    · simp only [Act.put, List.setIfInBounds_toArray, List.set_cons_zero, List.set_cons_succ, i64_w, i32_w]
                                      rfl
                                    refine take_ (i := 6) (N := some 72) (v := ?_) (a' := ?_) #[true, true, true, true, true, true, true, true, true, true, false, false, true, false, false, false] rfl rfl (take_ofW HT_.out HW_.out (by kernel_rfl)) (fun _ _ _ h => h) (Or.inl ⟨by rfl, ?_⟩) hHeld ?_ ?_
                                    rotate_left
                                    · rintro w' ⟨s0, s1, s2⟩
                                      go_simp
                                      with_reducible rfl
                                    rotate_left
                                    · simp only [Act.put, List.setIfInBounds_toArray, List.set_cons_zero, List.set_cons_succ, i64_w, i32_w]
                                      rfl
                                    refine pure_ (i := 10) (N := some 76) (v := ?_) (a' := ?_) #[true, true, true, true, true, true, true, true, true, true, true, false, true, false, false, false] rfl rfl (any_of HT_.out (by kernel_rfl)) (fun _ _ _ h => h) (Or.inl ⟨by rfl, ?_⟩) ?_ ?_
                                    rotate_left
                                    · intro w'
                                      go_simp
                                      with_reducible rfl
                                    rotate_left
                                    · simp only [Act.put, List.setIfInBounds_toArray, List.set_cons_zero, List.set_cons_succ, i64_w, i32_w]
                                      rfl
                                    refine take_ (i := 11) (N := some 77) (v := ?_) (a' := ?_) #[true, true, true, true, true, true, true, true, true, true, true, true, true, false, false, false] rfl rfl (take_ofW HT_.out HW_.out (by kernel_rfl)) (fun _ _ _ h => h) (Or.inl ⟨by rfl, ?_⟩) hHeld ?_ ?_
                                    rotate_left
                                    · rintro w' ⟨s0, s1, s2⟩
                                      go_simp
                                      with_reducible rfl
                                    rotate_left
                                    · simp only [Act.put, List.setIfInBounds_toArray, List.set_cons_zero, List.set_cons_succ, i64_w, i32_w]
                                      rfl
                                    refine pure_ (i := 13) (N := some 79) (v := ?_) (a' := ?_) #[true, true, true, true, true, true, true, true, true, true, true, true, true, true, false, false] rfl rfl (any_of HT_.out (by kernel_rfl)) (fun _ _ _ h => h) (Or.inl ⟨by rfl, ?_⟩) ?_ ?_
                                    rotate_left
                                    · intro w'
                                      go_simp
                                      with_reducible rfl
                                    rotate_left
                                    · simp only [Act.put, List.setIfInBounds_toArray, List.set_cons_zero, List.set_cons_succ, i64_w, i32_w]
                                      rfl
                                    refine pure_ (i := 14) (N := some 80) (v := ?_) (a' := ?_) #[true, true, true, true, true, true, true, true, true, true, true, true, true, true, true, false] rfl rfl (any_of HT_.out (by kernel_rfl)) (fun _ _ _ h => h) (Or.inl ⟨by rfl, ?_⟩) ?_ ?_
                                    rotate_left
                                    · intro w'
                                      go_simp
                                      with_reducible rfl
                                    rotate_left
                                    · simp only [Act.put, List.setIfInBounds_toArray, List.set_cons_zero, List.set_cons_succ, i64_w, i32_w]
                                      rfl
                                    refine last_ (i := 15) (N := none) #[true, true, true, true, true, true, true, true, true, true, true, true, true, true, true, true] rfl rfl (one_of HT_.out (by kernel_rfl)) (by decide) (fun K hK => ?_)
                                    refine skip_ (w1 := ?_) (by rfl) rfl ?_ ?_
                                    rotate_left
                                    · go_simp
                                      rfl
                                    refine hK.out _ _ ?_
                                    clear hK K
                                    refine done_ (done_of HT_.out (by kernel_rfl)) ?_
                                    try go_wp2
                                    have n0_ : Aside0 (Kd.R (Kd.int .i64) 3 (w77.setCell ⟨go62, ((ji58) : Int).toNat, none⟩ (.int .i64 (wrap64 ((rd x258001_2 (ji58)) + t274)))) w.heap.size (fun k_ => some k_ ≠ (.slice Ao74 y277.length co74 : Value).ownBlock) (.slice (some ⟨go62, 0, none⟩) x258001_2.length co78) y281) := ⟨by (with_reducible repeat (first | apply Kd.R_alloc | apply Kd.R_drewN | apply Kd.R_drew)); exact HQ79.out⟩
                                    have n1_ : Aside0 (Kd.R (Kd.int .i64) 3 (w77.setCell ⟨go62, ((ji58) : Int).toNat, none⟩ (.int .i64 (wrap64 ((rd x258001_2 (ji58)) + t274)))) w.heap.size (fun k_ => some k_ ≠ (.slice (some ⟨go62, 0, none⟩) x258001_2.length co78 : Value).ownBlock) (.slice Ao74 y277.length co74) y277) := ⟨by (with_reducible repeat (first | apply Kd.R_alloc | apply Kd.R_drewN | apply Kd.R_drew)); exact Kd.R_mono (Kd.R_far (p := ⟨go62, ((ji58) : Int).toNat, none⟩) (Kd.R_mono HO279.out (fun k_ hk => (⟨hk, fun e_ => hk (by rw [e_]; rfl)⟩ : _ ∧ k_ ≠ go62))) (fun _ hk => hk.2) (.int .i64 (wrap64 ((rd x258001_2 (ji58)) + t274)))) (fun _ hk => hk.1)⟩
                                    have n2_ : Aside0 ((w77.setCell ⟨go62, ((ji58) : Int).toNat, none⟩ (.int .i64 (wrap64 ((rd x258001_2 (ji58)) + t274)))).heap[gb251]? = some (.cells #[.slice none 0 0, .slice none 0 0] 92 (0, 0))) := ⟨by (with_reducible repeat (first | refine Fix.kN ?_ _ | refine Fix.kD ?_ | refine Fix.kA ?_ _)); refine blk_far ?_ (by have h_ := Kd.R_ne HO_258001.out BK251.out (by decide); intro e_; exact h_ (by rw [e_]; rfl)) _; (with_reducible repeat (first | refine Fix.kN ?_ _ | refine Fix.kD ?_ | refine Fix.kA ?_ _)); exact BK251.out⟩
                                    have n3_ : Aside0 ((w77.setCell ⟨go62, ((ji58) : Int).toNat, none⟩ (.int .i64 (wrap64 ((rd x258001_2 (ji58)) + t274)))).heap[gb257]? = some (.cells #[.slice Ao74 y277.length co74, .slice (some ⟨go62, 0, none⟩) x258001_2.length co78] 92 (0, 0))) := ⟨by (with_reducible repeat (first | refine Fix.kN ?_ _ | refine Fix.kD ?_ | refine Fix.kA ?_ _)); refine blk_far ?_ (by have h_ := Kd.R_ne HO_258001.out BK257.out (by decide); intro e_; exact h_ (by rw [e_]; rfl)) _; (with_reducible repeat (first | refine Fix.kN ?_ _ | refine Fix.kD ?_ | refine Fix.kA ?_ _)); exact BK257.out⟩
                                    have n4_ : Aside0 (Below w.heap.size w (w77.setCell ⟨go62, ((ji58) : Int).toNat, none⟩ (.int .i64 (wrap64 ((rd x258001_2 (ji58)) + t274))))) := ⟨by repeat (first | (with_reducible first | exact HB.out | apply Fix.bA | apply Fix.bN | apply Fix.b1 | refine below_set ?_ GB62.out | refine below_set ?_ GE251.out | refine below_set ?_ GE257.out) | exact HB.out)⟩
                                    (try clear HO_258001)
                                    (try clear HO279)
                                    (try clear BK251)
                                    (try clear BK257)
                                    (try clear HB)
                                    generalize (w77.setCell ⟨go62, ((ji58) : Int).toNat, none⟩ (.int .i64 (wrap64 ((rd x258001_2 (ji58)) + t274)))) = w80 at n0_ n1_ n2_ n3_ n4_ ⊢
                                    have HO_258001 := n0_
                                    have HO279 := n1_
                                    have BK251 := n2_
                                    have BK257 := n3_
                                    have HB := n4_
                                    clear n0_ n1_ n2_ n3_ n4_
                                    have n0_ := Aside0.mk (Kd.R_drew HO_258001.out)
                                    have n1_ := Aside0.mk (Kd.R_drew HO279.out)
                                    have n2_ := Aside0.mk (blk_drew BK251.out)
                                    have n3_ := Aside0.mk (blk_drew BK257.out)
                                    have n4_ := Aside0.mk (below_drew1 HB.out)
                                    clear HO_258001
                                    clear HO279
                                    clear BK251
                                    clear BK257
                                    clear HB
                                    have HO_258001 := n0_
                                    have HO279 := n1_
                                    have BK251 := n2_
                                    have BK257 := n3_
                                    have HB := n4_
                                    clear n0_ n1_ n2_ n3_ n4_
                                    have p282 : 0 ≤ (x8_2 : Int) := of_decide_eq_true (by first | (with_reducible assumption) | assumption)
                                    have q282 : x8_2 < (y281.length : Int) := (by have h_ : (x8_2 : Int) < ((x258001_2.length : Int) : Int) := of_decide_eq_true (by first | (with_reducible assumption) | assumption); first | (have e_ := (Kd.R_reads' HO_258001.out).1; omega) | simpa only [Ny281.out, List.length_set] using h_)
                                    have ql282 : ((x8_2 : Int) < ((x258001_2.length : Int) : Int)) = True := eq_true (of_decide_eq_true (by first | (with_reducible assumption) | assumption))
                                    obtain ⟨ad282, e282, hx282_0⟩ := Kd.at_int (Kd.R_reads' HO_258001.out).2.2 x8_2 p282 q282
                                    obtain rfl : (⟨go62, 0, none⟩ : Addr) = ad282 := (by injection e282)
                                    (first | simp only [add_plain] at hx282_0 | simp only [add_at] at hx282_0 | simp only [Addr.add, Nat.zero_add] at hx282_0 | skip)
                                    replace p282 := eq_true p282
                                    replace q282 := eq_true q282
                                    have p64 : 0 ≤ (x8_2 : Int) := of_decide_eq_true (by first | (with_reducible assumption) | assumption)
                                    have q64 : (x8_2 : Int) < ((x258001_2.length : Int) : Int) := of_decide_eq_true (by first | (with_reducible assumption) | assumption)
                                    obtain ⟨hx64_0, hf64_0⟩ := Kd.R_celln 0 HO_258001.out (x8_2 : Int) p64 q64
                                    replace p64 := eq_true p64
                                    replace q64 := eq_true q64
                                    have HP82 := Kd.R_putn HO_258001.out (x8_2 : Int) (wrap64 ((rd y281 x8_2) + t275))
                                    rw [← Ny283.out] at HP82
                                    have HQ82 := Aside0.mk HP82
                                    clear HP82
                                    refine start_ (n := 12) (S := fun w' => w'.cell? ⟨gb257, 0, none⟩ = some (.slice Ao74 y277.length co74) ∧ w'.cell? ⟨gb257, 1, none⟩ = some (.slice (some ⟨go62, 0, none⟩) x258001_2.length co78) ∧ w'.cell? ⟨go62, (x8_2).toNat, none⟩ = some (.int .i64 (rd y281 x8_2))) (ds := [11]) #[false, false, false, false, false, false, false, false, false, false, false, false] (by kernel_rfl) rfl rfl ⟨(blk_cell BK257.out 0).trans rfl, (blk_cell BK257.out 1).trans rfl, hx282_0⟩ (fun hHeld => ?_); refine with_tabW spec_DiffuseRow.tab19 spec_DiffuseRow.bits19 (fun HT_ HW_ => ?_)
                                    generalize w80.drew = w81 at HO_258001 HO279 BK251 BK257 HB HQ79 HQ82 hf64_0 hx282_0 hx64_0 hHeld ⊢
                                    refine pure_ (i := 0) (N := some 81) (v := ?_) (a' := ?_) #[true, false, false, false, false, false, false, false, false, false, false, false] rfl rfl (any_of HT_.out (by kernel_rfl)) (fun _ _ _ h => h) (Or.inl ⟨by rfl, ?_⟩) ?_ ?_
                                    rotate_left
                                    · intro w'
                                      go_simp
                                      with_reducible rfl
                                    rotate_left
                                    · simp only [Act.put, List.setIfInBounds_toArray, List.set_cons_zero, List.set_cons_succ, i64_w, i32_w]
                                      rfl
                                    refine pure_ (i := 2) (N := some 83) (v := ?_) (a' := ?_) #[true, false, true, false, false, false, false, false, false, false, false, false] rfl rfl (any_of HT_.out (by kernel_rfl)) (fun _ _ _ h => h) (Or.inl ⟨by rfl, ?_⟩) ?_ ?_
                                    rotate_left
                                    · intro w'
                                      go_simp
                                      with_reducible rfl
                                    rotate_left
                                    · simp only [Act.put, List.setIfInBounds_toArray, List.set_cons_zero, List.set_cons_succ, i64_w, i32_w]
                                      rfl
                                    refine pure_ (i := 3) (N := some 84) (v := ?_) (a' := ?_) #[true, false, true, true, false, false, false, false, false, false, false, false] rfl rfl (any_of HT_.out (by kernel_rfl)) (fun _ _ _ h => h) (Or.inl ⟨by rfl, ?_⟩) ?_ ?_
                                    rotate_left
                                    · intro w'
                                      go_simp
                                      with_reducible rfl
                                    rotate_left
                                    · simp only [Act.put, List.setIfInBounds_toArray, List.set_cons_zero, List.set_cons_succ, i64_w, i32_w]
                                      rfl
                                    refine pure_ (i := 5) (N := some 86) (v := ?_) (a' := ?_) #[true, false, true, true, false, true, false, false, false, false, false, false] rfl rfl (any_of HT_.out (by kernel_rfl)) (fun _ _ _ h => h) (Or.inl ⟨by rfl, ?_⟩) ?_ ?_
                                    rotate_left
                                    · intro w'
                                      go_simp
                                      with_reducible rfl
                                    rotate_left
                                    · simp only [Act.put, List.setIfInBounds_toArray, List.set_cons_zero, List.set_cons_succ, i64_w, i32_w]
                                      rfl
                                    refine pure_ (i := 8) (N := some 89) (v := ?_) (a' := ?_) #[true, false, true, true, false, true, false, false, true, false, false, false] rfl rfl (any_of HT_.out (by kernel_rfl)) (fun _ _ _ h => h) (Or.inl ⟨by rfl, ?_⟩) ?_ ?_
                                    rotate_left
                                    · intro w'
                                      go_simp
                                      with_reducible rfl
                                    rotate_left
                                    · simp only [Act.put, List.setIfInBounds_toArray, List.set_cons_zero, List.set_cons_succ, i64_w, i32_w]
                                      rfl
                                    refine take_ (i := 1) (N := some 82) (v := ?_) (a' := ?_) #[true, true, true, true, false, true, false, false, true, false, false, false] rfl rfl (take_ofW HT_.out HW_.out (by kernel_rfl)) (fun _ _ _ h => h) (Or.inl ⟨by rfl, ?_⟩) hHeld ?_ ?_
                                    rotate_left
                                    · rintro w' ⟨s0, s1, s2⟩
                                      go_simp
                                      with_reducible rfl
                                    rotate_left
                                    · simp only [Act.put, List.setIfInBounds_toArray, List.set_cons_zero, List.set_cons_succ, i64_w, i32_w]
                                      rfl
                                    refine take_ (i := 4) (N := some 85) (v := ?_) (a' := ?_) #[true, true, true, true, true, true, false, false, true, false, false, false] rfl rfl (take_ofW HT_.out HW_.out (by kernel_rfl)) (fun _ _ _ h => h) (Or.inl ⟨by rfl, ?_⟩) hHeld ?_ ?_
                                    rotate_left
                                    · rintro w' ⟨s0, s1, s2⟩
                                      go_simp
                                      with_reducible rfl
                                    rotate_left
                                    · simp only [Act.put, List.setIfInBounds_toArray, List.set_cons_zero, List.set_cons_succ, i64_w, i32_w]
                                      rfl
                                    refine pure_ (i := 6) (N := some 87) (v := ?_) (a' := ?_) #[true, true, true, true, true, true, true, false, true, false, false, false] rfl rfl (any_of HT_.out (by kernel_rfl)) (fun _ _ _ h => h) (Or.inl ⟨by rfl, ?_⟩) ?_ ?_
                                    rotate_left
                                    · intro w'
                                      go_simp
                                      with_reducible rfl
                                    rotate_left
                                    · simp only [Act.put, List.setIfInBounds_toArray, List.set_cons_zero, List.set_cons_succ, i64_w, i32_w]
                                      rfl
                                    refine take_ (i := 7) (N := some 88) (v := ?_) (a' := ?_) #[true, true, true, true, true, true, true, true, true, false, false, false] rfl rfl (take_ofW HT_.out HW_.out (by kernel_rfl)) (fun _ _ _ h => h) (Or.inl ⟨by rfl, ?_⟩) hHeld ?_ ?_
                                    rotate_left
                                    · rintro w' ⟨s0, s1, s2⟩
                                      go_simp
                                      with_reducible rfl
                                    rotate_left
                                    · simp only [Act.put, List.setIfInBounds_toArray, List.set_cons_zero, List.set_cons_succ, i64_w, i32_w]
                                      rfl
                                    refine pure_ (i := 9) (N := some 90) (v := ?_) (a' := ?_) #[true, true, true, true, true, true, true, true, true, true, false, false] rfl rfl (any_of HT_.out (by kernel_rfl)) (fun _ _ _ h => h) (Or.inl ⟨by rfl, ?_⟩) ?_ ?_
                                    rotate_left
                                    · intro w'
                                      go_simp
                                      with_reducible rfl
                                    rotate_left
                                    · simp only [Act.put, List.setIfInBounds_toArray, List.set_cons_zero, List.set_cons_succ, i64_w, i32_w]
                                      rfl
                                    refine pure_ (i := 10) (N := some 91) (v := ?_) (a' := ?_) #[true, true, true, true, true, true, true, true, true, true, true, false] rfl rfl (any_of HT_.out (by kernel_rfl)) (fun _ _ _ h => h) (Or.inl ⟨by rfl, ?_⟩) ?_ ?_
                                    rotate_left
                                    · intro w'
                                      go_simp
                                      with_reducible rfl
                                    rotate_left
                                    · simp only [Act.put, List.setIfInBounds_toArray, List.set_cons_zero, List.set_cons_succ, i64_w, i32_w]
                                      rfl
                                    refine last_ (i := 11) (N := none) #[true, true, true, true, true, true, true, true, true, true, true, true] rfl rfl (one_of HT_.out (by kernel_rfl)) (by decide) (fun K hK => ?_)
                                    refine skip_ (w1 := ?_) (by rfl) rfl ?_ ?_
                                    rotate_left
                                    · go_simp
                                      rfl
                                    refine hK.out _ _ ?_
                                    clear hK K
                                    refine done_ (done_of HT_.out (by kernel_rfl)) ?_
                                    try go_wp2
                                    have n0_ : Aside0 (Kd.R (Kd.int .i64) 3 (w81.setCell ⟨go62, (x8_2 : Int).toNat, none⟩ (.int .i64 (wrap64 ((rd y281 x8_2) + t275)))) w.heap.size (fun k_ => some k_ ≠ (.slice Ao74 y277.length co74 : Value).ownBlock) (.slice (some ⟨go62, 0, none⟩) x258001_2.length co78) y283) := ⟨by (with_reducible repeat (first | apply Kd.R_alloc | apply Kd.R_drewN | apply Kd.R_drew)); exact HQ82.out⟩
                                    have n1_ : Aside0 (Kd.R (Kd.int .i64) 3 (w81.setCell ⟨go62, (x8_2 : Int).toNat, none⟩ (.int .i64 (wrap64 ((rd y281 x8_2) + t275)))) w.heap.size (fun k_ => some k_ ≠ (.slice (some ⟨go62, 0, none⟩) x258001_2.length co78 : Value).ownBlock) (.slice Ao74 y277.length co74) y277) := ⟨by (with_reducible repeat (first | apply Kd.R_alloc | apply Kd.R_drewN | apply Kd.R_drew)); exact Kd.R_mono (Kd.R_far (p := ⟨go62, (x8_2 : Int).toNat, none⟩) (Kd.R_mono HO279.out (fun k_ hk => (⟨hk, fun e_ => hk (by rw [e_]; rfl)⟩ : _ ∧ k_ ≠ go62))) (fun _ hk => hk.2) (.int .i64 (wrap64 ((rd y281 x8_2) + t275)))) (fun _ hk => hk.1)⟩
                                    have n2_ : Aside0 ((w81.setCell ⟨go62, (x8_2 : Int).toNat, none⟩ (.int .i64 (wrap64 ((rd y281 x8_2) + t275)))).heap[gb251]? = some (.cells #[.slice none 0 0, .slice none 0 0] 92 (0, 0))) := ⟨by (with_reducible repeat (first | refine Fix.kN ?_ _ | refine Fix.kD ?_ | refine Fix.kA ?_ _)); refine blk_far ?_ (by have h_ := Kd.R_ne HO_258001.out BK251.out (by decide); intro e_; exact h_ (by rw [e_]; rfl)) _; (with_reducible repeat (first | refine Fix.kN ?_ _ | refine Fix.kD ?_ | refine Fix.kA ?_ _)); exact BK251.out⟩
                                    have n3_ : Aside0 ((w81.setCell ⟨go62, (x8_2 : Int).toNat, none⟩ (.int .i64 (wrap64 ((rd y281 x8_2) + t275)))).heap[gb257]? = some (.cells #[.slice Ao74 y277.length co74, .slice (some ⟨go62, 0, none⟩) x258001_2.length co78] 92 (0, 0))) := ⟨by (with_reducible repeat (first | refine Fix.kN ?_ _ | refine Fix.kD ?_ | refine Fix.kA ?_ _)); refine blk_far ?_ (by have h_ := Kd.R_ne HO_258001.out BK257.out (by decide); intro e_; exact h_ (by rw [e_]; rfl)) _; (with_reducible repeat (first | refine Fix.kN ?_ _ | refine Fix.kD ?_ | refine Fix.kA ?_ _)); exact BK257.out⟩
                                    have n4_ : Aside0 (Below w.heap.size w (w81.setCell ⟨go62, (x8_2 : Int).toNat, none⟩ (.int .i64 (wrap64 ((rd y281 x8_2) + t275))))) := ⟨by repeat (first | (with_reducible first | exact HB.out | apply Fix.bA | apply Fix.bN | apply Fix.b1 | refine below_set ?_ GB62.out | refine below_set ?_ GE251.out | refine below_set ?_ GE257.out) | exact HB.out)⟩
                                    (try clear HO_258001)
                                    (try clear HO279)
                                    (try clear BK251)
                                    (try clear BK257)
                                    (try clear HB)
                                    generalize (w81.setCell ⟨go62, (x8_2 : Int).toNat, none⟩ (.int .i64 (wrap64 ((rd y281 x8_2) + t275)))) = w83 at n0_ n1_ n2_ n3_ n4_ ⊢
                                    have HO_258001 := n0_
                                    have HO279 := n1_
                                    have BK251 := n2_
                                    have BK257 := n3_
                                    have HB := n4_
                                    clear n0_ n1_ n2_ n3_ n4_
                                    have n0_ := Aside0.mk (Kd.R_drew HO_258001.out)
                                    have n1_ := Aside0.mk (Kd.R_drew HO279.out)
                                    have n2_ := Aside0.mk (blk_drew BK251.out)
                                    have n3_ := Aside0.mk (blk_drew BK257.out)
                                    have n4_ := Aside0.mk (below_drew1 HB.out)
                                    clear HO_258001
                                    clear HO279
                                    clear BK251
                                    clear BK257
                                    clear HB
                                    have HO_258001 := n0_
                                    have HO279 := n1_
                                    have BK251 := n2_
                                    have BK257 := n3_
                                    have HB := n4_
                                    clear n0_ n1_ n2_ n3_ n4_
                                    have p284 : 0 ≤ ((ji65) : Int) := of_decide_eq_true (by first | (with_reducible assumption) | assumption)
                                    have q284 : (ji65) < (y283.length : Int) := (by have h_ : ((ji65) : Int) < ((x258001_2.length : Int) : Int) := of_decide_eq_true (by first | (with_reducible assumption) | assumption); first | (have e_ := (Kd.R_reads' HO_258001.out).1; omega) | simpa only [Ny281.out, Ny283.out, List.length_set] using h_)
                                    have ql284 : (((ji65) : Int) < ((x258001_2.length : Int) : Int)) = True := eq_true (of_decide_eq_true (by first | (with_reducible assumption) | assumption))
                                    obtain ⟨ad284, e284, hx284_0⟩ := Kd.at_int (Kd.R_reads' HO_258001.out).2.2 (ji65) p284 q284
                                    obtain rfl : (⟨go62, 0, none⟩ : Addr) = ad284 := (by injection e284)
                                    (first | simp only [add_plain] at hx284_0 | simp only [add_at] at hx284_0 | simp only [Addr.add, Nat.zero_add] at hx284_0 | skip)
                                    replace p284 := eq_true p284
                                    replace q284 := eq_true q284
                                    have p69 : 0 ≤ ((ji65) : Int) := of_decide_eq_true (by first | (with_reducible assumption) | assumption)
                                    have q69 : ((ji65) : Int) < ((x258001_2.length : Int) : Int) := of_decide_eq_true (by first | (with_reducible assumption) | assumption)
                                    obtain ⟨hx69_0, hf69_0⟩ := Kd.R_celln 0 HO_258001.out ((ji65) : Int) p69 q69
                                    replace p69 := eq_true p69
                                    replace q69 := eq_true q69
                                    have HP85 := Kd.R_putn HO_258001.out ((ji65) : Int) (wrap64 ((rd y283 (ji65)) + t276))
                                    rw [← Ny285.out] at HP85
                                    have HQ85 := Aside0.mk HP85
                                    clear HP85
                                    refine start_ (n := 16) (S := fun w' => w'.cell? ⟨gb257, 0, none⟩ = some (.slice Ao74 y277.length co74) ∧ w'.cell? ⟨gb257, 1, none⟩ = some (.slice (some ⟨go62, 0, none⟩) x258001_2.length co78) ∧ w'.cell? ⟨go62, ((ji65)).toNat, none⟩ = some (.int .i64 (rd y283 (ji65)))) (ds := [15]) #[false, false, false, false, false, false, false, false, false, false, false, false, false, false, false, false] (by kernel_rfl) rfl rfl ⟨(blk_cell BK257.out 0).trans rfl, (blk_cell BK257.out 1).trans rfl, hx284_0⟩ (fun hHeld => ?_); refine with_tabW spec_DiffuseRow.tab20 spec_DiffuseRow.bits20 (fun HT_ HW_ => ?_)
                                    generalize w83.drew = w84 at HO_258001 HO279 BK251 BK257 HB HQ82 HQ85 hf69_0 hx284_0 hx69_0 hHeld ⊢
                                    refine pure_ (i := 0) (N := some 92) (v := ?_) (a' := ?_) #[true, false, false, false, false, false, false, false, false, false, false, false, false, false, false, false] rfl rfl (any_of HT_.out (by kernel_rfl)) (fun _ _ _ h => h) (Or.inl ⟨by rfl, ?_⟩) ?_ ?_
                                    rotate_left
                                    · intro w'
                                      go_simp
                                      with_reducible rfl
                                    rotate_left
                                    · simp only [Act.put, List.setIfInBounds_toArray, List.set_cons_zero, List.set_cons_succ, i64_w, i32_w]
                                      rfl
                                    refine pure_ (i := 2) (N := some 94) (v := ?_) (a' := ?_) #[true, false, true, false, false, false, false, false, false, false, false, false, false, false, false, false] rfl rfl (any_of HT_.out (by kernel_rfl)) (fun _ _ _ h => h) (Or.inl ⟨by rfl, ?_⟩) ?_ ?_
                                    rotate_left
                                    · intro w'
                                      go_simp
                                      with_reducible rfl
                                    rotate_left
                                    · simp only [Act.put, List.setIfInBounds_toArray, List.set_cons_zero, List.set_cons_succ, i64_w, i32_w]
                                      rfl
                                    refine pure_ (i := 3) (N := some 95) (v := ?_) (a' := ?_) #[true, false, true, true, false, false, false, false, false, false, false, false, false, false, false, false] rfl rfl (any_of HT_.out (by kernel_rfl)) (fun _ _ _ h => h) (Or.inl ⟨by rfl, ?_⟩) ?_ ?_
                                    rotate_left
                                    · intro w'
                                      go_simp
                                      with_reducible rfl
                                    rotate_left
                                    · simp only [Act.put, List.setIfInBounds_toArray, List.set_cons_zero, List.set_cons_succ, i64_w, i32_w]
                                      rfl
                                    refine pure_ (i := 4) (N := some 96) (v := ?_) (a' := ?_) #[true, false, true, true, true, false, false, false, false, false, false, false, false, false, false, false] rfl rfl (any_of HT_.out (by kernel_rfl)) (fun _ _ _ h => h) (Or.inl ⟨by rfl, ?_⟩) ?_ ?_
                                    rotate_left
                                    · intro w'
                                      go_simp
                                      with_reducible rfl
                                    rotate_left
                                    · simp only [Act.put, List.setIfInBounds_toArray, List.set_cons_zero, List.set_cons_succ, i64_w, i32_w]
                                      rfl
                                    refine pure_ (i := 5) (N := some 97) (v := ?_) (a' := ?_) #[true, false, true, true, true, true, false, false, false, false, false, false, false, false, false, false] rfl rfl (any_of HT_.out (by kernel_rfl)) (fun _ _ _ h => h) (Or.inl ⟨by rfl, ?_⟩) ?_ ?_
                                    rotate_left
                                    · intro w'
                                      go_simp
                                      with_reducible rfl
                                    rotate_left
                                    · simp only [Act.put, List.setIfInBounds_toArray, List.set_cons_zero, List.set_cons_succ, i64_w, i32_w]
                                      rfl
                                    refine pure_ (i := 7) (N := some 99) (v := ?_) (a' := ?_) #[true, false, true, true, true, true, false, true, false, false, false, false, false, false, false, false] rfl rfl (any_of HT_.out (by kernel_rfl)) (fun _ _ _ h => h) (Or.inl ⟨by rfl, ?_⟩) ?_ ?_
                                    rotate_left
                                    · intro w'
                                      go_simp
                                      with_reducible rfl
                                    rotate_left
                                    · simp only [Act.put, List.setIfInBounds_toArray, List.set_cons_zero, List.set_cons_succ, i64_w, i32_w]
                                      rfl
                                    refine pure_ (i := 8) (N := some 100) (v := ?_) (a' := ?_) #[true, false, true, true, true, true, false, true, true, false, false, false, false, false, false, false] rfl rfl (any_of HT_.out (by kernel_rfl)) (fun _ _ _ h => h) (Or.inl ⟨by rfl, ?_⟩) ?_ ?_
                                    rotate_left
                                    · intro w'
                                      go_simp
                                      with_reducible rfl
                                    rotate_left
                                    · simp only [Act.put, List.setIfInBounds_toArray, List.set_cons_zero, List.set_cons_succ, i64_w, i32_w]
                                      rfl
                                    refine pure_ (i := 9) (N := some 101) (v := ?_) (a' := ?_) #[true, false, true, true, true, true, false, true, true, true, false, false, false, false, false, false] rfl rfl (any_of HT_.out (by kernel_rfl)) (fun _ _ _ h => h) (Or.inl ⟨by rfl, ?_⟩) ?_ ?_
                                    rotate_left
                                    · intro w'
                                      go_simp
                                      with_reducible rfl
                                    rotate_left
                                    · simp only [Act.put, List.setIfInBounds_toArray, List.set_cons_zero, List.set_cons_succ, i64_w, i32_w]
                                      rfl
                                    refine pure_ (i := 12) (N := some 104) (v := ?_) (a' := ?_) #[true, false, true, true, true, true, false, true, true, true, false, false, true, false, false, false] rfl rfl (any_of HT_.out (by kernel_rfl)) (fun _ _ _ h => h) (Or.inl ⟨by rfl, ?_⟩) ?_ ?_
                                    rotate_left
                                    · intro w'
                                      go_simp
                                      with_reducible rfl
                                    rotate_left
                                    · simp only [Act.put, List.setIfInBounds_toArray, List.set_cons_zero, List.set_cons_succ, i64_w, i32_w]
                                      rfl
                                    refine take_ (i := 1) (N := some 93) (v := ?_) (a' := ?_) #[true, true, true, true, true, true, false, true, true, true, false, false, true, false, false, false] rfl rfl (take_ofW HT_.out HW_.out (by kernel_rfl)) (fun _ _ _ h => h) (Or.inl ⟨by rfl, ?_⟩) hHeld ?_ ?_
                                    rotate_left
                                    · rintro w' ⟨s0, s1, s2⟩
                                      go_simp
                                      with_reducible rfl
                                    rotate_left
                                    · simp only [Act.put, List.setIfInBounds_toArray, List.set_cons_zero, List.set_cons_succ, i64_w, i32_w]
                                      rfl
                                    refine take_ (i := 6) (N := some 98) (v := ?_) (a' := ?_) #[true, true, true, true, true, true, true, true, true, true, false, false, true, false, false, false] rfl rfl (take_ofW HT_.out HW_.out (by kernel_rfl)) (fun _ _ _ h => h) (Or.inl ⟨by rfl, ?_⟩) hHeld ?_ ?_
                                    rotate_left
                                    · rintro w' ⟨s0, s1, s2⟩
                                      go_simp
                                      with_reducible rfl
                                    rotate_left
                                    · simp only [Act.put, List.setIfInBounds_toArray, List.set_cons_zero, List.set_cons_succ, i64_w, i32_w]
                                      rfl
                                    refine pure_ (i := 10) (N := some 102) (v := ?_) (a' := ?_) #[true, true, true, true, true, true, true, true, true, true, true, false, true, false, false, false] rfl rfl (any_of HT_.out (by kernel_rfl)) (fun _ _ _ h => h) (Or.inl ⟨by rfl, ?_⟩) ?_ ?_
                                    rotate_left
                                    · intro w'
                                      go_simp
                                      with_reducible rfl
                                    rotate_left
                                    · simp only [Act.put, List.setIfInBounds_toArray, List.set_cons_zero, List.set_cons_succ, i64_w, i32_w]
                                      rfl
                                    refine take_ (i := 11) (N := some 103) (v := ?_) (a' := ?_) #[true, true, true, true, true, true, true, true, true, true, true, true, true, false, false, false] rfl rfl (take_ofW HT_.out HW_.out (by kernel_rfl)) (fun _ _ _ h => h) (Or.inl ⟨by rfl, ?_⟩) hHeld ?_ ?_
                                    rotate_left
                                    · rintro w' ⟨s0, s1, s2⟩
                                      go_simp
                                      with_reducible rfl
                                    rotate_left
                                    · simp only [Act.put, List.setIfInBounds_toArray, List.set_cons_zero, List.set_cons_succ, i64_w, i32_w]
                                      rfl
                                    refine pure_ (i := 13) (N := some 105) (v := ?_) (a' := ?_) #[true, true, true, true, true, true, true, true, true, true, true, true, true, true, false, false] rfl rfl (any_of HT_.out (by kernel_rfl)) (fun _ _ _ h => h) (Or.inl ⟨by rfl, ?_⟩) ?_ ?_
                                    rotate_left
                                    · intro w'
                                      go_simp
                                      with_reducible rfl
                                    rotate_left
                                    · simp only [Act.put, List.setIfInBounds_toArray, List.set_cons_zero, List.set_cons_succ, i64_w, i32_w]
                                      rfl
                                    refine pure_ (i := 14) (N := some 106) (v := ?_) (a' := ?_) #[true, true, true, true, true, true, true, true, true, true, true, true, true, true, true, false] rfl rfl (any_of HT_.out (by kernel_rfl)) (fun _ _ _ h => h) (Or.inl ⟨by rfl, ?_⟩) ?_ ?_
                                    rotate_left
                                    · intro w'
                                      go_simp
                                      with_reducible rfl
                                    rotate_left
                                    · simp only [Act.put, List.setIfInBounds_toArray, List.set_cons_zero, List.set_cons_succ, i64_w, i32_w]
                                      rfl
                                    refine last_ (i := 15) (N := none) #[true, true, true, true, true, true, true, true, true, true, true, true, true, true, true, true] rfl rfl (one_of HT_.out (by kernel_rfl)) (by decide) (fun K hK => ?_)
                                    refine skip_ (w1 := ?_) (by rfl) rfl ?_ ?_
                                    rotate_left
                                    · go_simp
                                      rfl
                                    refine hK.out _ _ ?_
                                    clear hK K
                                    refine done_ (done_of HT_.out (by kernel_rfl)) ?_
                                    try go_wp2
                                    go_roundg k2
                                    case measure => have := HJ2.out; have := HK2.out; omega
                                    case rel => exact ⟨(wrap64 ((wrap64 ((wrap64 ((wrap64 ((wrap64 ((wrap64 ((rd l0 x8_2) + (rd l1 x8_2))) + x7_2)))) - t274)) - t275)) - t276)), (wrap64 (x8_2 + 1)), (y277), (y285), (.slice Ao74 y277.length co74), (.slice (some ⟨go62, 0, none⟩) x258001_2.length co78), (by first | rfl | (simp; done) | (simp [*]; done)), (by first | rfl | (simp; done) | (simp [*]; done)), H', ⟨by have := HJ2.out; have := HK2.out; omega⟩, ⟨by (with_reducible repeat (first | apply Kd.R_alloc | apply Kd.R_drewN | apply Kd.R_drew)); exact Kd.R_mono (Kd.R_far (p := ⟨go62, ((ji65) : Int).toNat, none⟩) (Kd.R_mono HO279.out (fun k_ hk => (⟨hk, fun e_ => hk (by rw [e_]; rfl)⟩ : _ ∧ k_ ≠ go62))) (fun _ hk => hk.2) (.int .i64 (wrap64 ((rd y283 (ji65)) + t276)))) (fun _ hk => hk.1)⟩, ⟨by (with_reducible repeat (first | apply Kd.R_alloc | apply Kd.R_drewN | apply Kd.R_drew)); exact HQ85.out⟩, ⟨by (with_reducible repeat (first | refine Fix.kN ?_ _ | refine Fix.kD ?_ | refine Fix.kA ?_ _)); refine blk_far ?_ (by have h_ := Kd.R_ne HO_258001.out BK251.out (by decide); intro e_; exact h_ (by rw [e_]; rfl)) _; (with_reducible repeat (first | refine Fix.kN ?_ _ | refine Fix.kD ?_ | refine Fix.kA ?_ _)); exact BK251.out⟩, ⟨by (with_reducible repeat (first | refine Fix.kN ?_ _ | refine Fix.kD ?_ | refine Fix.kA ?_ _)); refine blk_far ?_ (by have h_ := Kd.R_ne HO_258001.out BK257.out (by decide); intro e_; exact h_ (by rw [e_]; rfl)) _; (with_reducible repeat (first | refine Fix.kN ?_ _ | refine Fix.kD ?_ | refine Fix.kA ?_ _)); exact BK257.out⟩, ⟨by repeat (first | (with_reducible first | exact HB.out | apply Fix.bA | apply Fix.bN | apply Fix.b1 | refine below_set ?_ GB62.out | refine below_set ?_ GE251.out | refine below_set ?_ GE257.out) | exact HB.out)⟩⟩
                                  · rw [if_neg c68] at H
                                    exact absurd H (by simp)
                                · rw [if_neg c67] at H
                                  exact absurd H (by simp)
                              · rw [if_neg c63] at H
                                exact absurd H (by simp)
                            · rw [if_neg c61] at H
                              exact absurd H (by simp)
                          · rw [if_neg c60] at H
                            exact absurd H (by simp)
                        · rw [if_neg c57] at H
                          exact absurd H (by simp)
                    · rw [if_neg c20] at H
                      exact absurd H (by simp)
                  · rw [if_neg c19] at H
                    exact absurd H (by simp)
                · rw [if_neg c18] at H
                  exact absurd H (by simp)
              · rw [if_neg c17] at H
                have c17b0 : decide (x8_2 < 32) = false := decide_eq_false c17
                clear c17
                by_cases c86 : 31 < (x258001_2.length : Int)
                · rw [if_pos c86] at H
                  have c86b0 : decide (31 < (x258001_2.length : Int)) = true := decide_eq_true c86
                  have c86b1 : decide (31 < x258001_2.length) = true := decide_eq_true (by omega)
                  clear c86
                  obtain ⟨y259, hy259⟩ : ∃ y_ : List Int, y_ = (x258001_2.set (31 : Int).toNat (wrap64 ((rd x258001_2 31) + x7_2))) := ⟨_, rfl⟩
                  replace H : (some (x258000_2, y259, true)) = some (r1, r2, r3) := by first | (rw [hy259]; with_reducible exact H) | (have H2_ := (Option.bind_some _ _).symm.trans H; rw [hy259]; with_reducible exact H2_) | (have H2_ := (Option.bind_some _ _).symm.trans H; with_reducible exact H2_) | with_reducible exact H | (rw [hy259]; exact H) | exact H
                  have Ny259 := Aside0.mk hy259
                  clear hy259
                  simp only [Option.some.injEq, Prod.mk.injEq] at H
                  obtain ⟨rfl, rfl, rfl⟩ := H
                  try go_wp2
                  have n0_ := Aside0.mk (Kd.R_drew HO_258000.out)
                  have n1_ := Aside0.mk (Kd.R_drew HO_258001.out)
                  have n2_ := Aside0.mk (blk_drew BK251.out)
                  have n3_ := Aside0.mk (blk_drew BK257.out)
                  have n4_ := Aside0.mk (below_drew1 HB.out)
                  clear HO_258000
                  clear HO_258001
                  clear BK251
                  clear BK257
                  clear HB
                  have HO_258000 := n0_
                  have HO_258001 := n1_
                  have BK251 := n2_
                  have BK257 := n3_
                  have HB := n4_
                  clear n0_ n1_ n2_ n3_ n4_
                  obtain ⟨Ao89, co89, eo89⟩ := Kd.R_slice HO_258001.out
                  (first | subst eo89 | (injection eo89 with f1_ f2_ f3_; have f4_ := f1_.symm; have f5_ := f3_.symm; clear f1_ f2_ f3_; subst f4_; subst f5_))
                  have p258 : 0 ≤ (31 : Int) := (by omega)
                  have q258 : 31 < (x258001_2.length : Int) := of_decide_eq_true (by first | (with_reducible assumption) | assumption)
                  obtain ⟨ad258, e258, hx258_0⟩ := Kd.at_int (Kd.R_reads' HO_258001.out).2.2 31 p258 q258
                  cases e258
                  (try simp only [show (31 : Int).toNat = 31 from rfl, Nat.reduceMul, Nat.reduceEqDiff, Go.Addr.add, ↓reduceIte] at hx258_0)
                  have qi258 : (31 < x258001_2.length) = True := eq_true (by omega)
                  (try rw [show ((31 : Int)).toNat = 31 from rfl] at hx258_0)
                  replace p258 := eq_true p258
                  replace q258 := eq_true q258
                  have p87 : 0 ≤ (31 : Int) := (by omega)
                  have q87 : (31 : Int) < ((x258001_2.length : Int) : Int) := of_decide_eq_true (by first | (with_reducible assumption) | assumption)
                  have qi87 : (31 < x258001_2.length) = True := eq_true (by omega)
                  obtain ⟨go87, co87, eo87, gb87, gl87, cl87, HG87⟩ := Kd.R_form HO_258001.out (by omega)
                  (first | cases eo87 | (injection eo87 with ea_ en_ ec_; (first | subst ea_ | (injection ea_ with ea_; subst ea_)); subst ec_; clear en_))
                  have GB87 := Aside0.mk gb87
                  have GG87 := Aside0.mk HG87
                  clear gb87 gl87 HG87
                  (first | simp only [add_plain] at hx258_0 | skip)
                  obtain ⟨hx87_0, hf87_0⟩ := Kd.R_celln 0 HO_258001.out (31 : Int) p87 q87
                  (try rw [show ((31 : Int)).toNat = 31 from rfl] at hx87_0)
                  (try simp only [Nat.reduceMul, Nat.zero_mul, Nat.zero_add, Nat.reduceAdd] at hx87_0)
                  (try rw [show ((31 : Int)).toNat = 31 from rfl] at hf87_0)
                  (try simp only [Nat.reduceMul, Nat.zero_mul, Nat.zero_add, Nat.reduceAdd] at hf87_0)
                  replace p87 := eq_true p87
                  replace q87 := eq_true q87
                  have HP90 := Kd.R_putn HO_258001.out (31 : Int) (wrap64 ((rd x258001_2 31) + x7_2))
                  rw [← Ny259.out] at HP90
                  have HQ90 := Aside0.mk HP90
                  clear HP90
                  refine start_ (n := 10) (S := fun w' => w'.cell? ⟨gb257, 0, none⟩ = some (u258000) ∧ w'.cell? ⟨gb257, 1, none⟩ = some (.slice (some ⟨go87, 0, none⟩) x258001_2.length co89) ∧ w'.cell? ⟨go87, 31, none⟩ = some (.int .i64 (rd x258001_2 31))) (ds := [9]) #[false, false, false, false, false, false, false, false, false, false] (by kernel_rfl) rfl rfl ⟨(blk_cell BK257.out 0).trans rfl, (blk_cell BK257.out 1).trans rfl, hx258_0⟩ (fun hHeld => ?_); refine with_tabW spec_DiffuseRow.tab21 spec_DiffuseRow.bits21 (fun HT_ HW_ => ?_)
                  generalize wr.drew = w88 at HO_258000 HO_258001 BK251 BK257 HB GG87 HQ90 hf87_0 hx258_0 hx87_0 hHeld ⊢
                  refine pure_ (i := 0) (N := some 107) (v := ?_) (a' := ?_) #[true, false, false, false, false, false, false, false, false, false] rfl rfl (any_of HT_.out (by kernel_rfl)) (fun _ _ _ h => h) (Or.inl ⟨by rfl, ?_⟩) ?_ ?_
                  rotate_left
                  · intro w'
                    go_simp
                    with_reducible rfl
                  rotate_left
                  · simp only [Act.put, List.setIfInBounds_toArray, List.set_cons_zero, List.set_cons_succ, i64_w, i32_w]
                    rfl
                  refine pure_ (i := 2) (N := some 109) (v := ?_) (a' := ?_) #[true, false, true, false, false, false, false, false, false, false] rfl rfl (any_of HT_.out (by kernel_rfl)) (fun _ _ _ h => h) (Or.inl ⟨by rfl, ?_⟩) ?_ ?_
                  rotate_left
                  · intro w'
                    go_simp
                    with_reducible rfl
                  rotate_left
                  · simp only [Act.put, List.setIfInBounds_toArray, List.set_cons_zero, List.set_cons_succ, i64_w, i32_w]
                    rfl
                  refine pure_ (i := 6) (N := some 113) (v := ?_) (a' := ?_) #[true, false, true, false, false, false, true, false, false, false] rfl rfl (any_of HT_.out (by kernel_rfl)) (fun _ _ _ h => h) (Or.inl ⟨by rfl, ?_⟩) ?_ ?_
                  rotate_left
                  · intro w'
                    go_simp
                    with_reducible rfl
                  rotate_left
                  · simp only [Act.put, List.setIfInBounds_toArray, List.set_cons_zero, List.set_cons_succ, i64_w, i32_w]
                    rfl
                  refine take_ (i := 1) (N := some 108) (v := ?_) (a' := ?_) #[true, true, true, false, false, false, true, false, false, false] rfl rfl (take_ofW HT_.out HW_.out (by kernel_rfl)) (fun _ _ _ h => h) (Or.inl ⟨by rfl, ?_⟩) hHeld ?_ ?_
                  rotate_left
                  · rintro w' ⟨s0, s1, s2⟩
                    go_simp
                    with_reducible rfl
                  rotate_left
                  · simp only [Act.put, List.setIfInBounds_toArray, List.set_cons_zero, List.set_cons_succ, i64_w, i32_w]
                    rfl
                  refine take_ (i := 3) (N := some 110) (v := ?_) (a' := ?_) #[true, true, true, true, false, false, true, false, false, false] rfl rfl (take_ofW HT_.out HW_.out (by kernel_rfl)) (fun _ _ _ h => h) (Or.inl ⟨by rfl, ?_⟩) hHeld ?_ ?_
                  rotate_left
                  · rintro w' ⟨s0, s1, s2⟩
                    go_simp
                    with_reducible rfl
                  rotate_left
                  · simp only [Act.put, List.setIfInBounds_toArray, List.set_cons_zero, List.set_cons_succ, i64_w, i32_w]
                    rfl
                  refine pure_ (i := 4) (N := some 111) (v := ?_) (a' := ?_) #[true, true, true, true, true, false, true, false, false, false] rfl rfl (any_of HT_.out (by kernel_rfl)) (fun _ _ _ h => h) (Or.inl ⟨by rfl, ?_⟩) ?_ ?_
                  rotate_left
                  · intro w'
                    go_simp
                    with_reducible rfl
                  rotate_left
                  · simp only [Act.put, List.setIfInBounds_toArray, List.set_cons_zero, List.set_cons_succ, i64_w, i32_w]
                    rfl
                  refine take_ (i := 5) (N := some 112) (v := ?_) (a' := ?_) #[true, true, true, true, true, true, true, false, false, false] rfl rfl (take_ofW HT_.out HW_.out (by kernel_rfl)) (fun _ _ _ h => h) (Or.inl ⟨by rfl, ?_⟩) hHeld ?_ ?_
                  rotate_left
                  · rintro w' ⟨s0, s1, s2⟩
                    go_simp
                    with_reducible rfl
                  rotate_left
                  · simp only [Act.put, List.setIfInBounds_toArray, List.set_cons_zero, List.set_cons_succ, i64_w, i32_w]
                    rfl
                  refine pure_ (i := 7) (N := some 114) (v := ?_) (a' := ?_) #[true, true, true, true, true, true, true, true, false, false] rfl rfl (any_of HT_.out (by kernel_rfl)) (fun _ _ _ h => h) (Or.inl ⟨by rfl, ?_⟩) ?_ ?_
                  rotate_left
                  · intro w'
                    go_simp
                    with_reducible rfl
                  rotate_left
                  · simp only [Act.put, List.setIfInBounds_toArray, List.set_cons_zero, List.set_cons_succ, i64_w, i32_w]
                    rfl
                  refine pure_ (i := 8) (N := some 115) (v := ?_) (a' := ?_) #[true, true, true, true, true, true, true, true, true, false] rfl rfl (any_of HT_.out (by kernel_rfl)) (fun _ _ _ h => h) (Or.inl ⟨by rfl, ?_⟩) ?_ ?_
                  rotate_left
                  · intro w'
                    go_simp
                    with_reducible rfl
                  rotate_left
                  · simp only [Act.put, List.setIfInBounds_toArray, List.set_cons_zero, List.set_cons_succ, i64_w, i32_w]
                    rfl
                  refine last_ (i := 9) (N := none) #[true, true, true, true, true, true, true, true, true, true] rfl rfl (one_of HT_.out (by kernel_rfl)) (by decide) (fun K hK => ?_)
                  refine skip_ (w1 := ?_) (by rfl) rfl ?_ ?_
                  rotate_left
                  · go_simp
                    rfl
                  refine hK.out _ _ ?_
                  clear hK K
                  refine done_ (done_of HT_.out (by kernel_rfl)) ?_
                  have n0_ : Aside0 (Kd.R (Kd.int .i64) 3 (w88.setCell ⟨go87, 31, none⟩ (.int .i64 (wrap64 ((rd x258001_2 31) + x7_2)))) w.heap.size (fun k_ => some k_ ≠ (.slice (some ⟨go87, 0, none⟩) x258001_2.length co89 : Value).ownBlock) u258000 x258000_2) := ⟨by (with_reducible repeat (first | apply Kd.R_alloc | apply Kd.R_drewN | apply Kd.R_drew)); exact Kd.R_mono (Kd.R_far (p := ⟨go87, 31, none⟩) (Kd.R_mono HO_258000.out (fun k_ hk => (⟨hk, fun e_ => hk (by rw [e_]; rfl)⟩ : _ ∧ k_ ≠ go87))) (fun _ hk => hk.2) (.int .i64 (wrap64 ((rd x258001_2 31) + x7_2)))) (fun _ hk => hk.1)⟩
                  have n1_ : Aside0 (Kd.R (Kd.int .i64) 3 (w88.setCell ⟨go87, 31, none⟩ (.int .i64 (wrap64 ((rd x258001_2 31) + x7_2)))) w.heap.size (fun k_ => some k_ ≠ (u258000 : Value).ownBlock) (.slice (some ⟨go87, 0, none⟩) x258001_2.length co89) y259) := ⟨by (with_reducible repeat (first | apply Kd.R_alloc | apply Kd.R_drewN | apply Kd.R_drew)); exact HQ90.out⟩
                  have n2_ : Aside0 ((w88.setCell ⟨go87, 31, none⟩ (.int .i64 (wrap64 ((rd x258001_2 31) + x7_2)))).heap[gb251]? = some (.cells #[.slice none 0 0, .slice none 0 0] 92 (0, 0))) := ⟨by (with_reducible repeat (first | refine Fix.kN ?_ _ | refine Fix.kD ?_ | refine Fix.kA ?_ _)); refine blk_far ?_ (by have h_ := Kd.R_ne HO_258001.out BK251.out (by decide); intro e_; exact h_ (by rw [e_]; rfl)) _; (with_reducible repeat (first | refine Fix.kN ?_ _ | refine Fix.kD ?_ | refine Fix.kA ?_ _)); exact BK251.out⟩
                  have n3_ : Aside0 ((w88.setCell ⟨go87, 31, none⟩ (.int .i64 (wrap64 ((rd x258001_2 31) + x7_2)))).heap[gb257]? = some (.cells #[u258000, .slice (some ⟨go87, 0, none⟩) x258001_2.length co89] 92 (0, 0))) := ⟨by (with_reducible repeat (first | refine Fix.kN ?_ _ | refine Fix.kD ?_ | refine Fix.kA ?_ _)); refine blk_far ?_ (by have h_ := Kd.R_ne HO_258001.out BK257.out (by decide); intro e_; exact h_ (by rw [e_]; rfl)) _; (with_reducible repeat (first | refine Fix.kN ?_ _ | refine Fix.kD ?_ | refine Fix.kA ?_ _)); exact BK257.out⟩
                  have n4_ : Aside0 (Below w.heap.size w (w88.setCell ⟨go87, 31, none⟩ (.int .i64 (wrap64 ((rd x258001_2 31) + x7_2))))) := ⟨by repeat (first | (with_reducible first | exact HB.out | apply Fix.bA | apply Fix.bN | apply Fix.b1 | refine below_set ?_ GB87.out | refine below_set ?_ GE251.out | refine below_set ?_ GE257.out) | exact HB.out)⟩
                  (try clear HO_258000)
                  (try clear HO_258001)
                  (try clear BK251)
                  (try clear BK257)
                  (try clear HB)
                  generalize (w88.setCell ⟨go87, 31, none⟩ (.int .i64 (wrap64 ((rd x258001_2 31) + x7_2)))) = w91 at n0_ n1_ n2_ n3_ n4_ ⊢
                  have HO_258000 := n0_
                  have HO_258001 := n1_
                  have BK251 := n2_
                  have BK257 := n3_
                  have HB := n4_
                  clear n0_ n1_ n2_ n3_ n4_
                  have hnb92 := NB257_251.out
                  have hnc92 := NB251_257.out
                  have hcz93_0 : w91.cell? ⟨gb257, 0, none⟩ = some (u258000) := (blk_cell BK257.out 0).trans rfl
                  have hcz93_1 : w91.cell? ⟨gb257, 1, none⟩ = some (.slice (some ⟨go87, 0, none⟩) x258001_2.length co89) := (blk_cell BK257.out 1).trans rfl
                  have hfz93_0 := blk_frozen BK257.out 0
                  have hfz93_1 := blk_frozen BK257.out 1
                  obtain ⟨Ao94, co94, eo94⟩ := Kd.R_slice HO_258000.out
                  subst eo94
                  have hcz95_0 : w91.cell? ⟨gb251, 0, none⟩ = some (.slice none 0 0) := (blk_cell BK251.out 0).trans rfl
                  have hcz95_1 : w91.cell? ⟨gb251, 1, none⟩ = some (.slice none 0 0) := (blk_cell BK251.out 1).trans rfl
                  have hfz95_0 := blk_frozen BK251.out 0
                  have hfz95_1 := blk_frozen BK251.out 1
                  try go_wp2
                  refine bodyPost_ret (results_ct rfl _ _ gb251 92 #[.slice Ao94 x258000_2.length co94, .slice (some ⟨go87, 0, none⟩) x258001_2.length co89] (0, 0) _ rfl (by (with_reducible repeat (first | refine Fix.kN ?_ _ | refine Fix.kD ?_ | refine Fix.kA ?_ _)); refine blk_put (cs := #[.slice Ao94 x258000_2.length co94, .slice none 0 0]) ?_ 1 _ rfl; (with_reducible repeat (first | refine Fix.kN ?_ _ | refine Fix.kD ?_ | refine Fix.kA ?_ _)); refine blk_put (cs := #[.slice none 0 0, .slice none 0 0]) ?_ 0 _ rfl; (with_reducible repeat (first | refine Fix.kN ?_ _ | refine Fix.kD ?_ | refine Fix.kA ?_ _)); exact BK251.out) Try.underlying92 rfl (by kernel_rfl)) rfl ?_
                  exact ⟨_, _, by first | rfl | (simp [errW_none, errW_some] <;> rfl) | (simp [*, errW_none, errW_some] <;> rfl), by (with_reducible repeat (first | apply Kd.R_alloc | apply Kd.R_drewN | apply Kd.R_drew)); exact Kd.R_mono (Kd.R_far (p := ⟨gb251, 1, none⟩) (Kd.R_far (p := ⟨gb251, 0, none⟩) (Kd.R_types HO_258000.out BK251.out (by decide)) (fun _ hk => hk.2) (.slice Ao94 x258000_2.length co94)) (fun _ hk => hk.2) (.slice (some ⟨go87, 0, none⟩) x258001_2.length co89)) (fun _ hk => hk.1), by (with_reducible repeat (first | apply Kd.R_alloc | apply Kd.R_drewN | apply Kd.R_drew)); exact Kd.R_mono (Kd.R_far (p := ⟨gb251, 1, none⟩) (Kd.R_far (p := ⟨gb251, 0, none⟩) (Kd.R_types HO_258001.out BK251.out (by decide)) (fun _ hk => hk.2) (.slice Ao94 x258000_2.length co94)) (fun _ hk => hk.2) (.slice (some ⟨go87, 0, none⟩) x258001_2.length co89)) (fun _ hk => hk.1), Fix.uB⟩
                · rw [if_neg c86] at H
                  exact absurd H (by simp)
        · rw [if_neg c10] at H
          exact absurd H (by simp)

end Go.Proofs.Ytaceidiookkocaa.PFnExactHalftonePage
