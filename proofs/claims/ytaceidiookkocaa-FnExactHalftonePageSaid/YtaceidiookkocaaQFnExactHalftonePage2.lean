/- FnExactHalftonePage: the functions that the law reaches, each as a plain Lean function, and that a call does what it says. Made by a program of this work (wip/mp.py) out of the kit's print. No condition. -/
import Derived.Test.YtaceidiookkocaaQFnExactHalftonePage0
import Derived.Test.YtaceidiookkocaaQFnExactHalftonePage1
namespace Go.Proofs.Ytaceidiookkocaa.PFnExactHalftonePage
open Go.RowKit Go.Proofs.YtaceidiookkocaaW.PrintWords Go.Proofs.YtaceidiookkocaaW.PrintLast Go.Proofs.YtaceidiookkocaaW.PrintMore
attribute [local go_sem] max2_int min2_int max_two min_two max_three min_three max_four min_four
attribute [local go_sem] Fix.isSome_setCell
set_option linter.unusedVariables false
set_option linter.unusedSimpArgs false

/-! ### impl_DiffuseRow: function 78 -/
mutual
def impl_DiffuseRow.j0 : Nat → List Int → List Int → Bool → Option (List Int × List Int × Bool)
  | 0, _, _, _ => none
  | k + 1, x0, x1, x21 => if x21 = true then (some (([] : List Int), ([] : List Int), false)) else (if 32 ≤ 35184372088832 then (impl_DiffuseRow.l0 k x1 0 x0 (x0.length : Int) 0 (List.replicate 32 0) (List.replicate 32 0)) else (none))
def impl_DiffuseRow.l0 : Nat → List Int → Int → List Int → Int → Int → List Int → List Int → Option (List Int × List Int × Bool)
  | 0, _, _, _, _, _, _, _ => none
  | k + 1, x1, x7, x26, x27, x28, x150000, x150001 => if x28 < x27 then (if 0 ≤ x28 then (if x28 < (x26.length : Int) then (if x28 < (x1.length : Int) then (if (wrap64 ((wrap64 ((rd x26 x28) + (rd x1 x28))) + x7)) ≥ 128 then (if x28 < (x150000.length : Int) then ((impl_down.f (wrap64 (3 * (wrap64 ((wrap64 ((wrap64 ((rd x26 x28) + (rd x1 x28))) + x7)) - 255)))) 16).bind fun t155 => ((impl_down.f (wrap64 (5 * (wrap64 ((wrap64 ((wrap64 ((rd x26 x28) + (rd x1 x28))) + x7)) - 255)))) 16).bind fun t156 => ((impl_down.f (wrap64 ((wrap64 ((wrap64 ((rd x26 x28) + (rd x1 x28))) + x7)) - 255)) 16).bind fun t157 => (if 0 ≤ (mx 0 (wrap64 (x28 - 1))) then (if (mx 0 (wrap64 (x28 - 1))) < (x150001.length : Int) then ((some (x150001.set ((mx 0 (wrap64 (x28 - 1))) : Int).toNat (wrap64 ((rd x150001 (mx 0 (wrap64 (x28 - 1)))) + t155)) : List Int)).bind fun y159 => (if x28 < (x150001.length : Int) then ((some (y159.set (x28 : Int).toNat (wrap64 ((rd y159 x28) + t156)) : List Int)).bind fun y161 => (if 0 ≤ (mn 31 (wrap64 (x28 + 1))) then (if (mn 31 (wrap64 (x28 + 1))) < (x150001.length : Int) then (impl_DiffuseRow.l0 k x1 (wrap64 ((wrap64 ((wrap64 ((wrap64 ((wrap64 ((wrap64 ((rd x26 x28) + (rd x1 x28))) + x7)) - 255)) - t155)) - t156)) - t157)) x26 x27 (wrap64 (x28 + 1)) (x150000.set (x28 : Int).toNat 1) (y161.set ((mn 31 (wrap64 (x28 + 1))) : Int).toNat (wrap64 ((rd y161 (mn 31 (wrap64 (x28 + 1)))) + t157)))) else (none)) else (none))) else (none))) else (none)) else (none))))) else (none)) else ((impl_down.f (wrap64 (3 * (wrap64 ((wrap64 ((rd x26 x28) + (rd x1 x28))) + x7)))) 16).bind fun t164 => ((impl_down.f (wrap64 (5 * (wrap64 ((wrap64 ((rd x26 x28) + (rd x1 x28))) + x7)))) 16).bind fun t165 => ((impl_down.f (wrap64 ((wrap64 ((rd x26 x28) + (rd x1 x28))) + x7)) 16).bind fun t166 => (if 0 ≤ (mx 0 (wrap64 (x28 - 1))) then (if (mx 0 (wrap64 (x28 - 1))) < (x150001.length : Int) then ((some (x150001.set ((mx 0 (wrap64 (x28 - 1))) : Int).toNat (wrap64 ((rd x150001 (mx 0 (wrap64 (x28 - 1)))) + t164)) : List Int)).bind fun y168 => (if x28 < (x150001.length : Int) then ((some (y168.set (x28 : Int).toNat (wrap64 ((rd y168 x28) + t165)) : List Int)).bind fun y170 => (if 0 ≤ (mn 31 (wrap64 (x28 + 1))) then (if (mn 31 (wrap64 (x28 + 1))) < (x150001.length : Int) then (impl_DiffuseRow.l0 k x1 (wrap64 ((wrap64 ((wrap64 ((wrap64 ((wrap64 ((rd x26 x28) + (rd x1 x28))) + x7)) - t164)) - t165)) - t166)) x26 x27 (wrap64 (x28 + 1)) x150000 (y170.set ((mn 31 (wrap64 (x28 + 1))) : Int).toNat (wrap64 ((rd y170 (mn 31 (wrap64 (x28 + 1)))) + t166)))) else (none)) else (none))) else (none))) else (none)) else (none)))))) else (none)) else (none)) else (none)) else (if 31 < (x150001.length : Int) then (some (x150000, (x150001.set (31 : Int).toNat (wrap64 ((rd x150001 31) + x7))), true)) else (none))
end
def impl_DiffuseRow.f (k : Nat) (l0 : List Int) (l1 : List Int) : Option (List Int × List Int × Bool) := (impl_CarryOk.f k l1).bind fun t141 => (if t141 = true then ((impl_rowOk.f k l0).bind fun t142 => (impl_DiffuseRow.j0 k l0 l1 (!t142))) else (impl_DiffuseRow.j0 k l0 l1 true))
theorem impl_DiffuseRow.mono_l : ∀ k, (∀ y0 y1 y2, LeO (impl_DiffuseRow.j0 k y0 y1 y2) (impl_DiffuseRow.j0 (k + 1) y0 y1 y2)) ∧ (∀ y0 y1 y2 y3 y4 y5 y6, LeO (impl_DiffuseRow.l0 k y0 y1 y2 y3 y4 y5 y6) (impl_DiffuseRow.l0 (k + 1) y0 y1 y2 y3 y4 y5 y6))
  | 0 => ⟨fun _ _ _ r h => by simp [impl_DiffuseRow.j0] at h, fun _ _ _ _ _ _ _ r h => by simp [impl_DiffuseRow.l0] at h⟩
  | k + 1 => by
    obtain ⟨ih0, ih1⟩ := impl_DiffuseRow.mono_l k
    refine ⟨?_, ?_⟩
    · intro y0 y1 y2
      unfold impl_DiffuseRow.j0
      repeat' first
      | (with_reducible exact ih0 _ _ _)
      | (with_reducible exact ih1 _ _ _ _ _ _ _)
      | (with_reducible exact impl_CarryOk.mono _ _)
      | (with_reducible exact impl_rowOk.mono _ _)
      | (with_reducible exact LeO.refl _)
      | (with_reducible exact LeO.none _)
      | (with_reducible refine LeO.ite ?_ ?_)
      | (with_reducible refine LeO.bind ?_ (fun _ => ?_))
      | exact ih0 _ _ _
      | exact ih1 _ _ _ _ _ _ _
      | exact impl_CarryOk.mono _ _
      | exact impl_rowOk.mono _ _
      | exact LeO.none _
      | refine LeO.ite ?_ ?_
      | refine LeO.bind ?_ (fun _ => ?_)
    · intro y0 y1 y2 y3 y4 y5 y6
      unfold impl_DiffuseRow.l0
      repeat' first
      | (with_reducible exact ih0 _ _ _)
      | (with_reducible exact ih1 _ _ _ _ _ _ _)
      | (with_reducible exact impl_CarryOk.mono _ _)
      | (with_reducible exact impl_rowOk.mono _ _)
      | (with_reducible exact LeO.refl _)
      | (with_reducible exact LeO.none _)
      | (with_reducible refine LeO.ite ?_ ?_)
      | (with_reducible refine LeO.bind ?_ (fun _ => ?_))
      | exact ih0 _ _ _
      | exact ih1 _ _ _ _ _ _ _
      | exact impl_CarryOk.mono _ _
      | exact impl_rowOk.mono _ _
      | exact LeO.none _
      | refine LeO.ite ?_ ?_
      | refine LeO.bind ?_ (fun _ => ?_)
theorem impl_DiffuseRow.mono : ∀ a0 a1 k, LeO (impl_DiffuseRow.f k a0 a1) (impl_DiffuseRow.f (k + 1) a0 a1) := by
  intro a0 a1 k
  obtain ⟨ih0, ih1⟩ := impl_DiffuseRow.mono_l k
  unfold impl_DiffuseRow.f
  repeat' first
      | (with_reducible exact ih0 _ _ _)
      | (with_reducible exact ih1 _ _ _ _ _ _ _)
      | (with_reducible exact impl_CarryOk.mono _ _)
      | (with_reducible exact impl_rowOk.mono _ _)
      | (with_reducible exact LeO.refl _)
      | (with_reducible exact LeO.none _)
      | (with_reducible refine LeO.ite ?_ ?_)
      | (with_reducible refine LeO.bind ?_ (fun _ => ?_))
      | exact ih0 _ _ _
      | exact ih1 _ _ _ _ _ _ _
      | exact impl_CarryOk.mono _ _
      | exact impl_rowOk.mono _ _
      | exact LeO.none _
      | refine LeO.ite ?_ ?_
      | refine LeO.bind ?_ (fun _ => ?_)
set_option maxHeartbeats 8000000 in
set_option maxRecDepth 100000 in
theorem impl_DiffuseRow.calls (k : Nat) (A0 : Option Addr) (c0 : Nat) (l0 : List Int) (A1 : Option Addr) (c1 : Nat) (l1 : List Int) (r1 : List Int) (r2 : List Int) (r3 : Bool) (w : World) (hr0 : Kd.C (Kd.int .i64) w A0 l0.length l0) (hc0 : l0.length ≤ c0) (hr1 : Kd.C (Kd.int .i64) w A1 l1.length l1) (hc1 : l1.length ≤ c1) (h : impl_DiffuseRow.f k l0 l1 = some (r1, r2, r3)) :
    Calls Try.prog 78 #[.slice A0 l0.length c0, .slice A1 l1.length c1] w fun e w' => ∃ v0_ v1_ : Value, e = .returned (.tuple #[.agg #[v0_, v1_], .bool r3]) ∧ Kd.R (Kd.int .i64) 3 w' w.heap.size (fun k_ => some k_ ≠ (v1_ : Value).ownBlock) v0_ r1 ∧ Kd.R (Kd.int .i64) 3 w' w.heap.size (fun k_ => some k_ ≠ (v0_ : Value).ownBlock) v1_ r2 ∧ Below w.heap.size w w' := by
  have hu92 := Try.underlying92
  have HR0 := Aside0.mk hr0
  have HC0 := Aside0.mk hc0
  (try clear hr0); (try clear hc0)
  have HR1 := Aside0.mk hr1
  have HC1 := Aside0.mk hc1
  (try clear hr1); (try clear hc1)
  have HB := Aside0.mk (Below.refl w.heap.size w)
  have H : ((impl_CarryOk.f k l1).bind fun t141 => (if t141 = true then ((impl_rowOk.f k l0).bind fun t142 => (impl_DiffuseRow.j0 k l0 l1 (!t142))) else (impl_DiffuseRow.j0 k l0 l1 true))) = some (r1, r2, r3) := h
  clear h
  have HC3 := Aside0.mk H
  clear H
  go_enter Try.func78, Try.ntmps78
  go_upto_region 1 with (first | ((with_reducible refine gate_dst (N := 4) rfl ?_); refine box_event ?hg (N := 4) ?hd (cs := #[.slice none 0 0, .slice none 0 0]) (t := 92) ?hr ?_; (case hd => rfl); (case hg => rfl); (case hr => first | (go_simp; done) | (go_simp; rfl)); intro gb140 hg w4 hbox hb; have n0_ := Aside0.mk (below_step Fix.uB hb); have n1_ := Aside0.mk (hbox); have n2_ := Aside0.mk ((by rw [hg]; exact (below_size Fix.uB) : w.heap.size ≤ gb140)); have n3_ := Aside0.mk ((by rw [hg]; exact (below_size Fix.uB) : w.heap.size ≤ gb140)); clear HB; have HB := n0_; have BK140 := n1_; have GW140 := n2_; have GE140 := n3_; clear n0_ n1_ n2_ n3_; clear hb hbox hg))
  (try simp only [Act.put, List.setIfInBounds_toArray, List.set_cons_zero, List.set_cons_succ])
  go_cut [21] (fun v21 wc => ∃ (kq : Nat) (x21_2 : Bool), v21 = .bool x21_2 ∧ Aside0 (impl_DiffuseRow.j0 kq l0 l1 x21_2 = some (r1, r2, r3)) ∧ Aside0 (kq ≤ k) ∧ Aside0 (wc.heap[gb140]? = some (.cells #[(.slice none 0 0), (.slice none 0 0)] 92 (0, 0))) ∧ Aside0 (Below w.heap.size w wc))
  case first =>
    have H := HC3.out
    clear HC3
    replace H := Option.bind_eq_some_iff.mp H
    obtain ⟨t141, A50, H⟩ := H
    replace H : (if t141 = true then ((impl_rowOk.f k l0).bind fun t142 => (impl_DiffuseRow.j0 k l0 l1 (!t142))) else (impl_DiffuseRow.j0 k l0 l1 true)) = some (r1, r2, r3) := H
    have A5 := Aside0.mk A50
    clear A50
    by_cases c6 : t141 = true
    · subst c6
      have H1 : ((impl_rowOk.f k l0).bind fun t142 => (impl_DiffuseRow.j0 k l0 l1 (!t142))) = some (r1, r2, r3) := by rw [if_pos rfl] at H; exact H
      clear H
      have H := H1
      clear H1
      replace H := Option.bind_eq_some_iff.mp H
      obtain ⟨t142, A70, H⟩ := H
      replace H : (impl_DiffuseRow.j0 k l0 l1 (!t142)) = some (r1, r2, r3) := H
      have A7 := Aside0.mk A70
      clear A70
      have H' := Aside0.mk H
      clear H
      go_wp2_with (first | ((with_reducible refine gate_callee (f := 97) rfl ?_); refine goesL_ (some 15) rfl rfl Try.func97 (by kernel_rfl) rfl #[.slice A1 l1.length c1] rfl Fix.uA ?_; (with_reducible refine (impl_CarryOk.calls k _ _ l1 true _ ?side1 ?side2 A5.out).mono ?_); (case side1 => exact Fix.uC (Kd.C_below HR1.out HB.out)); (case side2 => exact HC1.out); rintro e w' ⟨rfl, ⟨nd, rfl⟩⟩; refine ⟨_, rfl, ?_⟩) | (go_at_call 76; (with_reducible refine (impl_rowOk.calls k _ _ l0 t142 _ ?side1 ?side2 A7.out).mono ?_); (case side1 => exact Fix.uC (Kd.C_below HR0.out Fix.uB)); (case side2 => exact HC0.out); rintro e w' ⟨rfl, ⟨nd, rfl⟩⟩))
      go_meet
      case rel => exact ⟨_, (!t142), (by first | rfl | (simp; done) | (simp [*]; done)), H', ⟨by first | omega | exact Nat.le_refl _⟩, ⟨by (with_reducible repeat (first | refine Fix.kN ?_ _ | refine Fix.kD ?_ | refine Fix.kA ?_ _)); exact BK140.out⟩, ⟨Fix.uB⟩⟩
    · replace c6 := Bool.eq_false_iff.mpr c6
      subst c6
      have H1 : (impl_DiffuseRow.j0 k l0 l1 true) = some (r1, r2, r3) := by rw [if_neg (show ¬ (false = true) by decide)] at H; exact H
      clear H
      have H := H1
      clear H1
      have H' := Aside0.mk H
      clear H
      go_wp2_with (first | ((with_reducible refine gate_callee (f := 97) rfl ?_); refine goesL_ (some 15) rfl rfl Try.func97 (by kernel_rfl) rfl #[.slice A1 l1.length c1] rfl Fix.uA ?_; (with_reducible refine (impl_CarryOk.calls k _ _ l1 false _ ?side1 ?side2 A5.out).mono ?_); (case side1 => exact Fix.uC (Kd.C_below HR1.out HB.out)); (case side2 => exact HC1.out); rintro e w' ⟨rfl, ⟨nd, rfl⟩⟩; refine ⟨_, rfl, ?_⟩))
      go_meet
      case rel => exact ⟨_, (true), (by first | rfl | (simp; done) | (simp [*]; done)), H', ⟨by first | omega | exact Nat.le_refl _⟩, ⟨by (with_reducible repeat (first | refine Fix.kN ?_ _ | refine Fix.kD ?_ | refine Fix.kA ?_ _)); exact BK140.out⟩, ⟨Fix.uB⟩⟩
  case rest =>
    clear HC3
    try clear c1
    try clear p2
    try clear c6
    try clear c7
    obtain ⟨kq, x21_2, rfl, HA, HJ2, BK140, HB⟩ := hcut
    cases kq with
    | zero => exact absurd HA.out (by simp [impl_DiffuseRow.j0])
    | succ kj2 =>
      have H := HA.out
      clear HA
      simp only [impl_DiffuseRow.j0] at H
      by_cases c8 : x21_2 = true
      · subst c8
        have H1 : (some (([] : List Int), ([] : List Int), false)) = some (r1, r2, r3) := by rw [if_pos rfl] at H; exact H
        clear H
        have H := H1
        clear H1
        simp only [Option.some.injEq, Prod.mk.injEq] at H
        obtain ⟨rfl, rfl, rfl⟩ := H
        have hcz9_0 : wc.cell? ⟨gb140, 0, none⟩ = some (.slice none 0 0) := (blk_cell BK140.out 0).trans rfl
        have hcz9_1 : wc.cell? ⟨gb140, 1, none⟩ = some (.slice none 0 0) := (blk_cell BK140.out 1).trans rfl
        have hfz9_0 := blk_frozen BK140.out 0
        have hfz9_1 := blk_frozen BK140.out 1
        go_wp2
        refine bodyPost_ret (results_ct rfl _ _ gb140 92 #[.slice none 0 0, .slice none 0 0] (0, 0) _ rfl (by (with_reducible repeat (first | refine Fix.kN ?_ _ | refine Fix.kD ?_ | refine Fix.kA ?_ _)); refine blk_put (cs := #[.slice none 0 0, .slice none 0 0]) ?_ 1 _ rfl; (with_reducible repeat (first | refine Fix.kN ?_ _ | refine Fix.kD ?_ | refine Fix.kA ?_ _)); refine blk_put (cs := #[.slice none 0 0, .slice none 0 0]) ?_ 0 _ rfl; (with_reducible repeat (first | refine Fix.kN ?_ _ | refine Fix.kD ?_ | refine Fix.kA ?_ _)); exact BK140.out) Try.underlying92 rfl (by kernel_rfl)) rfl ?_
        exact ⟨_, _, by first | rfl | (simp [errW_none, errW_some] <;> rfl) | (simp [*, errW_none, errW_some] <;> rfl), by first | exact Kd.R_nil _ _ _ _ _ | exact Kd.N_nil _ _ _ _ _ | exact Kd.V_nil _ _ _ _ _ | exact Kd.Q_nil _ _ _ _ _ | exact Kd.S_nil _ _ _ _ _, by first | exact Kd.R_nil _ _ _ _ _ | exact Kd.N_nil _ _ _ _ _ | exact Kd.V_nil _ _ _ _ _ | exact Kd.Q_nil _ _ _ _ _ | exact Kd.S_nil _ _ _ _ _, Fix.uB⟩
      · replace c8 := Bool.eq_false_iff.mpr c8
        subst c8
        have H1 : (if 32 ≤ 35184372088832 then (impl_DiffuseRow.l0 kj2 l1 0 l0 (l0.length : Int) 0 (List.replicate 32 0) (List.replicate 32 0)) else (none)) = some (r1, r2, r3) := by rw [if_neg (show ¬ (false = true) by decide)] at H; exact H
        clear H
        have H := H1
        clear H1
        by_cases c10 : 32 ≤ 35184372088832
        · rw [if_pos c10] at H
          have c10b0 := eq_true c10
          have c10b1 : decide (32 ≤ 35184372088832) = true := decide_eq_true c10
          clear c10
          obtain ⟨y143, hy143⟩ : ∃ y_ : List Int, y_ = (List.replicate 32 0) := ⟨_, rfl⟩
          replace H : (impl_DiffuseRow.l0 kj2 l1 0 l0 (l0.length : Int) 0 y143 (List.replicate 32 0)) = some (r1, r2, r3) := by first | (rw [hy143]; with_reducible exact H) | (have H2_ := (Option.bind_some _ _).symm.trans H; rw [hy143]; with_reducible exact H2_) | (have H2_ := (Option.bind_some _ _).symm.trans H; with_reducible exact H2_) | with_reducible exact H | (rw [hy143]; exact H) | exact H
          have Ny143 := Aside0.mk hy143
          clear hy143
          obtain ⟨y146, hy146⟩ : ∃ y_ : List Int, y_ = (List.replicate 32 0) := ⟨_, rfl⟩
          replace H : (impl_DiffuseRow.l0 kj2 l1 0 l0 (l0.length : Int) 0 y143 y146) = some (r1, r2, r3) := by first | (rw [hy146]; with_reducible exact H) | (have H2_ := (Option.bind_some _ _).symm.trans H; rw [hy146]; with_reducible exact H2_) | (have H2_ := (Option.bind_some _ _).symm.trans H; with_reducible exact H2_) | with_reducible exact H | (rw [hy146]; exact H) | exact H
          have Ny146 := Aside0.mk hy146
          clear hy146
          have H' := Aside0.mk H
          clear H
          try go_wp2
          have n0_ := Aside0.mk (blk_drew BK140.out)
          have n1_ := Aside0.mk (below_drew1 HB.out)
          clear BK140
          clear HB
          have BK140 := n0_
          have HB := n1_
          clear n0_ n1_
          refine start_ (n := 5) (S := fun w' => True) (ds := []) #[false, false, false, false, false] (by kernel_rfl) rfl rfl trivial (fun hHeld => ?_)
          generalize wc.drew = w11 at BK140 HB hHeld ⊢
          refine join_ (σ := Value × Value × Nat) 1 #[true, true, true, true, false] (fun s_ => [(23, s_.1), (24, s_.2.1), (6, .pointer (some ⟨s_.2.2, 0, none⟩)), (25, .agg #[s_.1, s_.2.1])]) (fun s_ w' => (Kd.R (Kd.int .i64) 3 w' w.heap.size (fun k_ => some k_ ≠ (s_.2.1 : Value).ownBlock) s_.1 y143) ∧ (Kd.R (Kd.int .i64) 3 w' w.heap.size (fun k_ => some k_ ≠ (s_.1 : Value).ownBlock) s_.2.1 y146) ∧ (w'.heap[gb140]? = some (.cells #[.slice none 0 0, .slice none 0 0] 92 (0, 0))) ∧ (w'.heap[s_.2.2]? = some (.cells #[.slice none 0 0, .slice none 0 0] 92 (0, 0))) ∧ (w.heap.size ≤ s_.2.2) ∧ (w.heap.size ≤ s_.2.2) ∧ (gb140 ≠ s_.2.2) ∧ (s_.2.2 ≠ gb140) ∧ (Below w.heap.size w w')) ?_ ?_
          rotate_left
          · intro hJ0_1_3
            refine join_ (σ := Value × Value) 2 #[true, true, true, false, false] (fun s_ => [(23, s_.1), (24, s_.2), (25, .agg #[s_.1, s_.2])]) (fun s_ w' => (Kd.R (Kd.int .i64) 3 w' w.heap.size (fun k_ => some k_ ≠ (s_.2 : Value).ownBlock) s_.1 y143) ∧ (Kd.R (Kd.int .i64) 3 w' w.heap.size (fun k_ => some k_ ≠ (s_.1 : Value).ownBlock) s_.2 y146) ∧ (w'.heap[gb140]? = some (.cells #[.slice none 0 0, .slice none 0 0] 92 (0, 0))) ∧ (Below w.heap.size w w')) ?_ ?_
            rotate_left
            · intro hJ0_1
              refine join_ (σ := Value × Nat) 3 #[true, false, false, true, false] (fun s_ => [(23, s_.1), (6, .pointer (some ⟨s_.2, 0, none⟩))]) (fun s_ w' => (Kd.R (Kd.int .i64) 3 w' w.heap.size (fun _ => True) s_.1 y143) ∧ (w'.heap[gb140]? = some (.cells #[.slice none 0 0, .slice none 0 0] 92 (0, 0))) ∧ (w'.heap[s_.2]? = some (.cells #[.slice none 0 0, .slice none 0 0] 92 (0, 0))) ∧ (w.heap.size ≤ s_.2) ∧ (w.heap.size ≤ s_.2) ∧ (gb140 ≠ s_.2) ∧ (s_.2 ≠ gb140) ∧ (Below w.heap.size w w')) ?_ ?_
              rotate_left
              · intro hJ0_3
                refine join_ (σ := Value × Nat) 3 #[false, true, false, true, false] (fun s_ => [(24, s_.1), (6, .pointer (some ⟨s_.2, 0, none⟩))]) (fun s_ w' => (Kd.R (Kd.int .i64) 3 w' w.heap.size (fun _ => True) s_.1 y146) ∧ (w'.heap[gb140]? = some (.cells #[.slice none 0 0, .slice none 0 0] 92 (0, 0))) ∧ (w'.heap[s_.2]? = some (.cells #[.slice none 0 0, .slice none 0 0] 92 (0, 0))) ∧ (w.heap.size ≤ s_.2) ∧ (w.heap.size ≤ s_.2) ∧ (gb140 ≠ s_.2) ∧ (s_.2 ≠ gb140) ∧ (Below w.heap.size w w')) ?_ ?_
                rotate_left
                · intro hJ1_3
                  refine join_ (σ := Value) 4 #[true, false, false, false, false] (fun s_ => [(23, s_)]) (fun s_ w' => (Kd.R (Kd.int .i64) 3 w' w.heap.size (fun _ => True) s_ y143) ∧ (w'.heap[gb140]? = some (.cells #[.slice none 0 0, .slice none 0 0] 92 (0, 0))) ∧ (Below w.heap.size w w')) ?_ ?_
                  rotate_left
                  · intro hJ0
                    refine join_ (σ := Value) 4 #[false, true, false, false, false] (fun s_ => [(24, s_)]) (fun s_ w' => (Kd.R (Kd.int .i64) 3 w' w.heap.size (fun _ => True) s_ y146) ∧ (w'.heap[gb140]? = some (.cells #[.slice none 0 0, .slice none 0 0] 92 (0, 0))) ∧ (Below w.heap.size w w')) ?_ ?_
                    rotate_left
                    · intro hJ1
                      refine join_ (σ := Nat) 4 #[false, false, false, true, false] (fun s_ => [(6, .pointer (some ⟨s_, 0, none⟩))]) (fun s_ w' => (w'.heap[gb140]? = some (.cells #[.slice none 0 0, .slice none 0 0] 92 (0, 0))) ∧ (w'.heap[s_]? = some (.cells #[.slice none 0 0, .slice none 0 0] 92 (0, 0))) ∧ (w.heap.size ≤ s_) ∧ (w.heap.size ≤ s_) ∧ (gb140 ≠ s_) ∧ (s_ ≠ gb140) ∧ (Below w.heap.size w w')) ?_ ?_
                      rotate_left
                      · intro hJ3
                        refine three_ (i := 0) (j := 1) (k := 3) (Ni := some 23) (Nj := some 24) (Nk := some 6) #[true, false, false, false, false] #[false, true, false, false, false] #[false, false, false, true, false] rfl rfl rfl rfl rfl rfl (by kernel_rfl) (by decide) (by decide) (by decide) (fun K hK => ?_) (fun K hK => ?_) (fun K hK => ?_)
                        · skip
                          refine Kd.R_make_step (Kd.int .i64) _ 3 (by rfl) (N := 23) rfl 39 _ _ rfl 32 rfl rfl Try.underlying39 (.int .i64 0) 8 info3 rfl (by decide) (by omega) 0 (ok := fun _ => True) (okp := fun _ => True) rfl (fun _ hk => hk) trivial (by omega) (by omega) (Below.refl _ _) (Nat.le_refl _) ?_
                          intro v144 w12 ho13 hb hg_ hnew_
                          clear hg_ hnew_
                          (first | rw [← Ny143.out] at ho13 | (simp only [Int.reduceToNat] at ho13; rw [← Ny143.out] at ho13))
                          have n0_ := Aside0.mk (Kd.R_lower ho13 (below_size Fix.uB))
                          have n1_ := Aside0.mk (blk_below (g := gb140) (o := .cells #[.slice none 0 0, .slice none 0 0] 92 (0, 0)) (Fix.uK BK140.out) hb)
                          have n2_ := Aside0.mk (below_step Fix.uB hb)
                          clear BK140
                          clear HB
                          have HO145 := n0_
                          have BK140 := n1_
                          have HB := n2_
                          clear n0_ n1_ n2_
                          clear hb ho13
                          refine hK.out _ _ trivial (fun hHeld => ?_)
                          clear hK K
                          refine norm_ (a' := ?_) ?_ ?_
                          rotate_left
                          · show Act.put _ (some 23) _ = _
                            simp only [Act.put, List.setIfInBounds_toArray, List.set_cons_zero, List.set_cons_succ, i64_w, i32_w]
                            rfl
                          exact norm_ (by first | (simp only [putAll, Act.put, List.setIfInBounds_toArray, List.set_cons_zero, List.set_cons_succ]; done) | (simp only [putAll, Act.put, List.setIfInBounds_toArray, List.set_cons_zero, List.set_cons_succ]; rfl)) (hJ0 (v144) _ ⟨(Fix.uR HO145.out), (Fix.uK BK140.out), Fix.uB⟩)
                        · skip
                          refine Kd.R_make_step (Kd.int .i64) _ 3 (by rfl) (N := 24) rfl 39 _ _ rfl 32 rfl rfl Try.underlying39 (.int .i64 0) 8 info3 rfl (by decide) (by omega) 0 (ok := fun _ => True) (okp := fun _ => True) rfl (fun _ hk => hk) trivial (by omega) (by omega) (Below.refl _ _) (Nat.le_refl _) ?_
                          intro v147 w12 ho13 hb hg_ hnew_
                          clear hg_ hnew_
                          (first | rw [← Ny146.out] at ho13 | (simp only [Int.reduceToNat] at ho13; rw [← Ny146.out] at ho13))
                          have n0_ := Aside0.mk (Kd.R_lower ho13 (below_size Fix.uB))
                          have n1_ := Aside0.mk (blk_below (g := gb140) (o := .cells #[.slice none 0 0, .slice none 0 0] 92 (0, 0)) (Fix.uK BK140.out) hb)
                          have n2_ := Aside0.mk (below_step Fix.uB hb)
                          clear BK140
                          clear HB
                          have HO148 := n0_
                          have BK140 := n1_
                          have HB := n2_
                          clear n0_ n1_ n2_
                          clear hb ho13
                          refine hK.out _ _ trivial (fun hHeld => ?_)
                          clear hK K
                          refine norm_ (a' := ?_) ?_ ?_
                          rotate_left
                          · show Act.put _ (some 24) _ = _
                            simp only [Act.put, List.setIfInBounds_toArray, List.set_cons_zero, List.set_cons_succ, i64_w, i32_w]
                            rfl
                          exact norm_ (by first | (simp only [putAll, Act.put, List.setIfInBounds_toArray, List.set_cons_zero, List.set_cons_succ]; done) | (simp only [putAll, Act.put, List.setIfInBounds_toArray, List.set_cons_zero, List.set_cons_succ]; rfl)) (hJ1 (v147) _ ⟨(Fix.uR HO148.out), (Fix.uK BK140.out), Fix.uB⟩)
                        · skip
                          refine box_step ?hg (N := 6) ?hd (cs := #[.slice none 0 0, .slice none 0 0]) (t := 92) ?hr ?_; (case hd => rfl); (case hg => rfl); (case hr => first | (go_simp; done) | (go_simp; rfl))
                          intro gb149 hg w12 hbox hb
                          have n0_ := Aside0.mk (blk_below (g := gb140) (o := .cells #[.slice none 0 0, .slice none 0 0] 92 (0, 0)) (Fix.uK BK140.out) hb)
                          have n1_ := Aside0.mk (below_step Fix.uB hb)
                          have n2_ := Aside0.mk (hbox)
                          have n3_ := Aside0.mk ((by rw [hg]; exact (below_size Fix.uB) : w.heap.size ≤ gb149))
                          have n4_ := Aside0.mk ((by rw [hg]; exact (below_size Fix.uB) : w.heap.size ≤ gb149))
                          have n5_ := Aside0.mk ((by rw [hg]; exact Nat.ne_of_lt (blk_lt (g := gb140) (o := .cells #[.slice none 0 0, .slice none 0 0] 92 (0, 0)) (Fix.uK BK140.out)) : gb140 ≠ gb149))
                          have n6_ := Aside0.mk ((by rw [hg]; exact Nat.ne_of_gt (blk_lt (g := gb140) (o := .cells #[.slice none 0 0, .slice none 0 0] 92 (0, 0)) (Fix.uK BK140.out)) : gb149 ≠ gb140))
                          clear BK140
                          clear HB
                          have BK140 := n0_
                          have HB := n1_
                          have BK149 := n2_
                          have GW149 := n3_
                          have GE149 := n4_
                          have NB140_149 := n5_
                          have NB149_140 := n6_
                          clear n0_ n1_ n2_ n3_ n4_ n5_ n6_
                          clear hb hbox hg
                          refine hK.out _ _ trivial (fun hHeld => ?_)
                          clear hK K
                          refine norm_ (a' := ?_) ?_ ?_
                          rotate_left
                          · show Act.put _ (some 6) _ = _
                            simp only [Act.put, List.setIfInBounds_toArray, List.set_cons_zero, List.set_cons_succ, i64_w, i32_w]
                            rfl
                          exact norm_ (by first | (simp only [putAll, Act.put, List.setIfInBounds_toArray, List.set_cons_zero, List.set_cons_succ]; done) | (simp only [putAll, Act.put, List.setIfInBounds_toArray, List.set_cons_zero, List.set_cons_succ]; rfl)) (hJ3 (gb149) _ ⟨(Fix.uK BK140.out), (Fix.uK BK149.out), GW149.out, GE149.out, NB140_149.out, NB149_140.out, Fix.uB⟩)
                      · skip
                        rintro gb149 w13 ⟨h0_, h1_, h2_, h3_, h4_, h5_, h6_⟩
                        have n0_ : Aside0 (w13.heap[gb140]? = some (.cells #[.slice none 0 0, .slice none 0 0] 92 (0, 0))) := ⟨h0_⟩
                        have n1_ : Aside0 (w13.heap[gb149]? = some (.cells #[.slice none 0 0, .slice none 0 0] 92 (0, 0))) := ⟨h1_⟩
                        have n2_ : Aside0 (w.heap.size ≤ gb149) := ⟨h2_⟩
                        have n3_ : Aside0 (w.heap.size ≤ gb149) := ⟨h3_⟩
                        have n4_ : Aside0 (gb140 ≠ gb149) := ⟨h4_⟩
                        have n5_ : Aside0 (gb149 ≠ gb140) := ⟨h5_⟩
                        have n6_ : Aside0 (Below w.heap.size w w13) := ⟨h6_⟩
                        clear BK140
                        clear HB
                        clear h0_ h1_ h2_ h3_ h4_ h5_ h6_
                        have BK140 := n0_
                        have BK149 := n1_
                        have GW149 := n2_
                        have GE149 := n3_
                        have NB140_149 := n4_
                        have NB149_140 := n5_
                        have HB := n6_
                        clear n0_ n1_ n2_ n3_ n4_ n5_ n6_
                        have hHeld := trivial
                        refine norm_ (a' := ?_) ?_ ?_
                        rotate_left
                        · simp only [putAll, Act.put, List.setIfInBounds_toArray, List.set_cons_zero, List.set_cons_succ]
                          rfl
                        refine two_ (i := 0) (j := 1) (Ni := some 23) (Nj := some 24) #[true, false, false, true, false] #[false, true, false, true, false] rfl rfl rfl rfl (by kernel_rfl) (by decide) (by decide) (fun K hK => ?_) (fun K hK => ?_)
                        · skip
                          refine Kd.R_make_step (Kd.int .i64) _ 3 (by rfl) (N := 23) rfl 39 _ _ rfl 32 rfl rfl Try.underlying39 (.int .i64 0) 8 info3 rfl (by decide) (by omega) 0 (ok := fun _ => True) (okp := fun _ => True) rfl (fun _ hk => hk) trivial (by omega) (by omega) (Below.refl _ _) (Nat.le_refl _) ?_
                          intro v144 w14 ho15 hb hg_ hnew_
                          clear hg_ hnew_
                          (first | rw [← Ny143.out] at ho15 | (simp only [Int.reduceToNat] at ho15; rw [← Ny143.out] at ho15))
                          have n0_ := Aside0.mk (Kd.R_lower ho15 (below_size Fix.uB))
                          have n1_ := Aside0.mk (blk_below (g := gb140) (o := .cells #[.slice none 0 0, .slice none 0 0] 92 (0, 0)) (Fix.uK BK140.out) hb)
                          have n2_ := Aside0.mk (blk_below (g := gb149) (o := .cells #[.slice none 0 0, .slice none 0 0] 92 (0, 0)) (Fix.uK BK149.out) hb)
                          have n3_ := Aside0.mk (below_step Fix.uB hb)
                          clear BK140
                          clear BK149
                          clear HB
                          have HO145 := n0_
                          have BK140 := n1_
                          have BK149 := n2_
                          have HB := n3_
                          clear n0_ n1_ n2_ n3_
                          clear hb ho15
                          refine hK.out _ _ trivial (fun hHeld => ?_)
                          clear hK K
                          refine norm_ (a' := ?_) ?_ ?_
                          rotate_left
                          · show Act.put _ (some 23) _ = _
                            simp only [Act.put, List.setIfInBounds_toArray, List.set_cons_zero, List.set_cons_succ, i64_w, i32_w]
                            rfl
                          exact norm_ (by first | (simp only [putAll, Act.put, List.setIfInBounds_toArray, List.set_cons_zero, List.set_cons_succ]; done) | (simp only [putAll, Act.put, List.setIfInBounds_toArray, List.set_cons_zero, List.set_cons_succ]; rfl)) (hJ0_3 (v144, gb149) _ ⟨(Fix.uR HO145.out), (Fix.uK BK140.out), (Fix.uK BK149.out), GW149.out, GE149.out, NB140_149.out, NB149_140.out, Fix.uB⟩)
                        · skip
                          refine Kd.R_make_step (Kd.int .i64) _ 3 (by rfl) (N := 24) rfl 39 _ _ rfl 32 rfl rfl Try.underlying39 (.int .i64 0) 8 info3 rfl (by decide) (by omega) 0 (ok := fun _ => True) (okp := fun _ => True) rfl (fun _ hk => hk) trivial (by omega) (by omega) (Below.refl _ _) (Nat.le_refl _) ?_
                          intro v147 w14 ho15 hb hg_ hnew_
                          clear hg_ hnew_
                          (first | rw [← Ny146.out] at ho15 | (simp only [Int.reduceToNat] at ho15; rw [← Ny146.out] at ho15))
                          have n0_ := Aside0.mk (Kd.R_lower ho15 (below_size Fix.uB))
                          have n1_ := Aside0.mk (blk_below (g := gb140) (o := .cells #[.slice none 0 0, .slice none 0 0] 92 (0, 0)) (Fix.uK BK140.out) hb)
                          have n2_ := Aside0.mk (blk_below (g := gb149) (o := .cells #[.slice none 0 0, .slice none 0 0] 92 (0, 0)) (Fix.uK BK149.out) hb)
                          have n3_ := Aside0.mk (below_step Fix.uB hb)
                          clear BK140
                          clear BK149
                          clear HB
                          have HO148 := n0_
                          have BK140 := n1_
                          have BK149 := n2_
                          have HB := n3_
                          clear n0_ n1_ n2_ n3_
                          clear hb ho15
                          refine hK.out _ _ trivial (fun hHeld => ?_)
                          clear hK K
                          refine norm_ (a' := ?_) ?_ ?_
                          rotate_left
                          · show Act.put _ (some 24) _ = _
                            simp only [Act.put, List.setIfInBounds_toArray, List.set_cons_zero, List.set_cons_succ, i64_w, i32_w]
                            rfl
                          exact norm_ (by first | (simp only [putAll, Act.put, List.setIfInBounds_toArray, List.set_cons_zero, List.set_cons_succ]; done) | (simp only [putAll, Act.put, List.setIfInBounds_toArray, List.set_cons_zero, List.set_cons_succ]; rfl)) (hJ1_3 (v147, gb149) _ ⟨(Fix.uR HO148.out), (Fix.uK BK140.out), (Fix.uK BK149.out), GW149.out, GE149.out, NB140_149.out, NB149_140.out, Fix.uB⟩)
                    · skip
                      rintro v147 w14 ⟨h0_, h1_, h2_⟩
                      have n0_ : Aside0 (Kd.R (Kd.int .i64) 3 w14 w.heap.size (fun _ => True) v147 y146) := ⟨h0_⟩
                      have n1_ : Aside0 (w14.heap[gb140]? = some (.cells #[.slice none 0 0, .slice none 0 0] 92 (0, 0))) := ⟨h1_⟩
                      have n2_ : Aside0 (Below w.heap.size w w14) := ⟨h2_⟩
                      clear BK140
                      clear HB
                      clear h0_ h1_ h2_
                      have HO148 := n0_
                      have BK140 := n1_
                      have HB := n2_
                      clear n0_ n1_ n2_
                      have hHeld := trivial
                      refine norm_ (a' := ?_) ?_ ?_
                      rotate_left
                      · simp only [putAll, Act.put, List.setIfInBounds_toArray, List.set_cons_zero, List.set_cons_succ]
                        rfl
                      refine two_ (i := 0) (j := 3) (Ni := some 23) (Nj := some 6) #[true, true, false, false, false] #[false, true, false, true, false] rfl rfl rfl rfl (by kernel_rfl) (by decide) (by decide) (fun K hK => ?_) (fun K hK => ?_)
                      · skip
                        refine Kd.R_make_step (Kd.int .i64) _ 3 (by rfl) (N := 23) rfl 39 _ _ rfl 32 rfl rfl Try.underlying39 (.int .i64 0) 8 info3 rfl (by decide) (by omega) 0 (ok := fun _ => True) (okp := fun _ => True) rfl (fun _ hk => hk) trivial (by omega) (by omega) (Below.refl _ _) (Nat.le_refl _) ?_
                        intro v144 w15 ho16 hb hg_ hnew_
                        clear hg_ hnew_
                        (first | rw [← Ny143.out] at ho16 | (simp only [Int.reduceToNat] at ho16; rw [← Ny143.out] at ho16))
                        have n0_ := Aside0.mk (Kd.R_elder' (Fix.uR HO148.out) (Kd.R_base ho16) hb)
                        have n1_ := Aside0.mk (Kd.R_lower (Kd.R_new' ho16 (Kd.R_lt (Fix.uR HO148.out))) (below_size Fix.uB))
                        have n2_ := Aside0.mk (blk_below (g := gb140) (o := .cells #[.slice none 0 0, .slice none 0 0] 92 (0, 0)) (Fix.uK BK140.out) hb)
                        have n3_ := Aside0.mk (below_step Fix.uB hb)
                        clear HO148
                        clear BK140
                        clear HB
                        have HO148 := n0_
                        have HO145 := n1_
                        have BK140 := n2_
                        have HB := n3_
                        clear n0_ n1_ n2_ n3_
                        clear hb ho16
                        obtain ⟨Ao17, co17, eo17⟩ := Kd.R_slice HO148.out
                        (first | subst eo17 | (injection eo17 with f1_ f2_ f3_; have f4_ := f1_.symm; have f5_ := f3_.symm; clear f1_ f2_ f3_; subst f4_; subst f5_))
                        obtain ⟨Ao18, co18, eo18⟩ := Kd.R_slice HO145.out
                        (first | subst eo18 | (injection eo18 with f1_ f2_ f3_; have f4_ := f1_.symm; have f5_ := f3_.symm; clear f1_ f2_ f3_; subst f4_; subst f5_))
                        refine hK.out _ _ trivial (fun hHeld => ?_)
                        clear hK K
                        refine norm_ (a' := ?_) ?_ ?_
                        rotate_left
                        · show Act.put _ (some 23) _ = _
                          simp only [Act.put, List.setIfInBounds_toArray, List.set_cons_zero, List.set_cons_succ, i64_w, i32_w]
                          rfl
                        refine pure_ (i := 2) (N := some 25) (v := ?_) (a' := ?_) #[true, true, true, false, false] rfl rfl (by kernel_rfl) (fun _ _ _ h => h) (Or.inl ⟨by rfl, ?_⟩) ?_ ?_
                        rotate_left
                        · intro w'
                          go_simp
                          with_reducible rfl
                        rotate_left
                        · simp only [Act.put, List.setIfInBounds_toArray, List.set_cons_zero, List.set_cons_succ, i64_w, i32_w]
                          rfl
                        exact norm_ (by first | (simp only [putAll, Act.put, List.setIfInBounds_toArray, List.set_cons_zero, List.set_cons_succ]; done) | (simp only [putAll, Act.put, List.setIfInBounds_toArray, List.set_cons_zero, List.set_cons_succ]; rfl)) (hJ0_1 (.slice Ao18 y143.length co18, .slice Ao17 y146.length co17) _ ⟨(by (with_reducible repeat (first | apply Kd.R_alloc | apply Kd.R_drewN | apply Kd.R_drew)); exact Kd.R_mono HO145.out (fun _ hk => by first | exact hk | exact hk.2)), (by (with_reducible repeat (first | apply Kd.R_alloc | apply Kd.R_drewN | apply Kd.R_drew)); exact Kd.R_mono HO148.out (fun _ hk => by first | exact hk | exact hk.2)), (Fix.uK BK140.out), Fix.uB⟩)
                      · skip
                        refine box_step ?hg (N := 6) ?hd (cs := #[.slice none 0 0, .slice none 0 0]) (t := 92) ?hr ?_; (case hd => rfl); (case hg => rfl); (case hr => first | (go_simp; done) | (go_simp; rfl))
                        intro gb149 hg w15 hbox hb
                        have n0_ := Aside0.mk (Kd.R_below (Fix.uR HO148.out) hb)
                        have n1_ := Aside0.mk (blk_below (g := gb140) (o := .cells #[.slice none 0 0, .slice none 0 0] 92 (0, 0)) (Fix.uK BK140.out) hb)
                        have n2_ := Aside0.mk (below_step Fix.uB hb)
                        have n3_ := Aside0.mk (hbox)
                        have n4_ := Aside0.mk ((by rw [hg]; exact (below_size Fix.uB) : w.heap.size ≤ gb149))
                        have n5_ := Aside0.mk ((by rw [hg]; exact (below_size Fix.uB) : w.heap.size ≤ gb149))
                        have n6_ := Aside0.mk ((by rw [hg]; exact Nat.ne_of_lt (blk_lt (g := gb140) (o := .cells #[.slice none 0 0, .slice none 0 0] 92 (0, 0)) (Fix.uK BK140.out)) : gb140 ≠ gb149))
                        have n7_ := Aside0.mk ((by rw [hg]; exact Nat.ne_of_gt (blk_lt (g := gb140) (o := .cells #[.slice none 0 0, .slice none 0 0] 92 (0, 0)) (Fix.uK BK140.out)) : gb149 ≠ gb140))
                        clear HO148
                        clear BK140
                        clear HB
                        have HO148 := n0_
                        have BK140 := n1_
                        have HB := n2_
                        have BK149 := n3_
                        have GW149 := n4_
                        have GE149 := n5_
                        have NB140_149 := n6_
                        have NB149_140 := n7_
                        clear n0_ n1_ n2_ n3_ n4_ n5_ n6_ n7_
                        clear hb hbox hg
                        refine hK.out _ _ trivial (fun hHeld => ?_)
                        clear hK K
                        refine norm_ (a' := ?_) ?_ ?_
                        rotate_left
                        · show Act.put _ (some 6) _ = _
                          simp only [Act.put, List.setIfInBounds_toArray, List.set_cons_zero, List.set_cons_succ, i64_w, i32_w]
                          rfl
                        exact norm_ (by first | (simp only [putAll, Act.put, List.setIfInBounds_toArray, List.set_cons_zero, List.set_cons_succ]; done) | (simp only [putAll, Act.put, List.setIfInBounds_toArray, List.set_cons_zero, List.set_cons_succ]; rfl)) (hJ1_3 (v147, gb149) _ ⟨(Fix.uR HO148.out), (Fix.uK BK140.out), (Fix.uK BK149.out), GW149.out, GE149.out, NB140_149.out, NB149_140.out, Fix.uB⟩)
                  · skip
                    rintro v144 w14 ⟨h0_, h1_, h2_⟩
                    have n0_ : Aside0 (Kd.R (Kd.int .i64) 3 w14 w.heap.size (fun _ => True) v144 y143) := ⟨h0_⟩
                    have n1_ : Aside0 (w14.heap[gb140]? = some (.cells #[.slice none 0 0, .slice none 0 0] 92 (0, 0))) := ⟨h1_⟩
                    have n2_ : Aside0 (Below w.heap.size w w14) := ⟨h2_⟩
                    clear BK140
                    clear HB
                    clear h0_ h1_ h2_
                    have HO145 := n0_
                    have BK140 := n1_
                    have HB := n2_
                    clear n0_ n1_ n2_
                    have hHeld := trivial
                    refine norm_ (a' := ?_) ?_ ?_
                    rotate_left
                    · simp only [putAll, Act.put, List.setIfInBounds_toArray, List.set_cons_zero, List.set_cons_succ]
                      rfl
                    refine two_ (i := 1) (j := 3) (Ni := some 24) (Nj := some 6) #[true, true, false, false, false] #[true, false, false, true, false] rfl rfl rfl rfl (by kernel_rfl) (by decide) (by decide) (fun K hK => ?_) (fun K hK => ?_)
                    · skip
                      refine Kd.R_make_step (Kd.int .i64) _ 3 (by rfl) (N := 24) rfl 39 _ _ rfl 32 rfl rfl Try.underlying39 (.int .i64 0) 8 info3 rfl (by decide) (by omega) 0 (ok := fun _ => True) (okp := fun _ => True) rfl (fun _ hk => hk) trivial (by omega) (by omega) (Below.refl _ _) (Nat.le_refl _) ?_
                      intro v147 w15 ho16 hb hg_ hnew_
                      clear hg_ hnew_
                      (first | rw [← Ny146.out] at ho16 | (simp only [Int.reduceToNat] at ho16; rw [← Ny146.out] at ho16))
                      have n0_ := Aside0.mk (Kd.R_elder' (Fix.uR HO145.out) (Kd.R_base ho16) hb)
                      have n1_ := Aside0.mk (Kd.R_lower (Kd.R_new' ho16 (Kd.R_lt (Fix.uR HO145.out))) (below_size Fix.uB))
                      have n2_ := Aside0.mk (blk_below (g := gb140) (o := .cells #[.slice none 0 0, .slice none 0 0] 92 (0, 0)) (Fix.uK BK140.out) hb)
                      have n3_ := Aside0.mk (below_step Fix.uB hb)
                      clear HO145
                      clear BK140
                      clear HB
                      have HO145 := n0_
                      have HO148 := n1_
                      have BK140 := n2_
                      have HB := n3_
                      clear n0_ n1_ n2_ n3_
                      clear hb ho16
                      obtain ⟨Ao17, co17, eo17⟩ := Kd.R_slice HO148.out
                      (first | subst eo17 | (injection eo17 with f1_ f2_ f3_; have f4_ := f1_.symm; have f5_ := f3_.symm; clear f1_ f2_ f3_; subst f4_; subst f5_))
                      obtain ⟨Ao18, co18, eo18⟩ := Kd.R_slice HO145.out
                      (first | subst eo18 | (injection eo18 with f1_ f2_ f3_; have f4_ := f1_.symm; have f5_ := f3_.symm; clear f1_ f2_ f3_; subst f4_; subst f5_))
                      refine hK.out _ _ trivial (fun hHeld => ?_)
                      clear hK K
                      refine norm_ (a' := ?_) ?_ ?_
                      rotate_left
                      · show Act.put _ (some 24) _ = _
                        simp only [Act.put, List.setIfInBounds_toArray, List.set_cons_zero, List.set_cons_succ, i64_w, i32_w]
                        rfl
                      refine pure_ (i := 2) (N := some 25) (v := ?_) (a' := ?_) #[true, true, true, false, false] rfl rfl (by kernel_rfl) (fun _ _ _ h => h) (Or.inl ⟨by rfl, ?_⟩) ?_ ?_
                      rotate_left
                      · intro w'
                        go_simp
                        with_reducible rfl
                      rotate_left
                      · simp only [Act.put, List.setIfInBounds_toArray, List.set_cons_zero, List.set_cons_succ, i64_w, i32_w]
                        rfl
                      exact norm_ (by first | (simp only [putAll, Act.put, List.setIfInBounds_toArray, List.set_cons_zero, List.set_cons_succ]; done) | (simp only [putAll, Act.put, List.setIfInBounds_toArray, List.set_cons_zero, List.set_cons_succ]; rfl)) (hJ0_1 (.slice Ao18 y143.length co18, .slice Ao17 y146.length co17) _ ⟨(by (with_reducible repeat (first | apply Kd.R_alloc | apply Kd.R_drewN | apply Kd.R_drew)); exact Kd.R_mono HO145.out (fun _ hk => by first | exact hk | exact hk.2)), (by (with_reducible repeat (first | apply Kd.R_alloc | apply Kd.R_drewN | apply Kd.R_drew)); exact Kd.R_mono HO148.out (fun _ hk => by first | exact hk | exact hk.2)), (Fix.uK BK140.out), Fix.uB⟩)
                    · skip
                      refine box_step ?hg (N := 6) ?hd (cs := #[.slice none 0 0, .slice none 0 0]) (t := 92) ?hr ?_; (case hd => rfl); (case hg => rfl); (case hr => first | (go_simp; done) | (go_simp; rfl))
                      intro gb149 hg w15 hbox hb
                      have n0_ := Aside0.mk (Kd.R_below (Fix.uR HO145.out) hb)
                      have n1_ := Aside0.mk (blk_below (g := gb140) (o := .cells #[.slice none 0 0, .slice none 0 0] 92 (0, 0)) (Fix.uK BK140.out) hb)
                      have n2_ := Aside0.mk (below_step Fix.uB hb)
                      have n3_ := Aside0.mk (hbox)
                      have n4_ := Aside0.mk ((by rw [hg]; exact (below_size Fix.uB) : w.heap.size ≤ gb149))
                      have n5_ := Aside0.mk ((by rw [hg]; exact (below_size Fix.uB) : w.heap.size ≤ gb149))
                      have n6_ := Aside0.mk ((by rw [hg]; exact Nat.ne_of_lt (blk_lt (g := gb140) (o := .cells #[.slice none 0 0, .slice none 0 0] 92 (0, 0)) (Fix.uK BK140.out)) : gb140 ≠ gb149))
                      have n7_ := Aside0.mk ((by rw [hg]; exact Nat.ne_of_gt (blk_lt (g := gb140) (o := .cells #[.slice none 0 0, .slice none 0 0] 92 (0, 0)) (Fix.uK BK140.out)) : gb149 ≠ gb140))
                      clear HO145
                      clear BK140
                      clear HB
                      have HO145 := n0_
                      have BK140 := n1_
                      have HB := n2_
                      have BK149 := n3_
                      have GW149 := n4_
                      have GE149 := n5_
                      have NB140_149 := n6_
                      have NB149_140 := n7_
                      clear n0_ n1_ n2_ n3_ n4_ n5_ n6_ n7_
                      clear hb hbox hg
                      refine hK.out _ _ trivial (fun hHeld => ?_)
                      clear hK K
                      refine norm_ (a' := ?_) ?_ ?_
                      rotate_left
                      · show Act.put _ (some 6) _ = _
                        simp only [Act.put, List.setIfInBounds_toArray, List.set_cons_zero, List.set_cons_succ, i64_w, i32_w]
                        rfl
                      exact norm_ (by first | (simp only [putAll, Act.put, List.setIfInBounds_toArray, List.set_cons_zero, List.set_cons_succ]; done) | (simp only [putAll, Act.put, List.setIfInBounds_toArray, List.set_cons_zero, List.set_cons_succ]; rfl)) (hJ0_3 (v144, gb149) _ ⟨(Fix.uR HO145.out), (Fix.uK BK140.out), (Fix.uK BK149.out), GW149.out, GE149.out, NB140_149.out, NB149_140.out, Fix.uB⟩)
                · skip
                  rintro ⟨v147, gb149⟩ w15 ⟨h0_, h1_, h2_, h3_, h4_, h5_, h6_, h7_⟩
                  have n0_ : Aside0 (Kd.R (Kd.int .i64) 3 w15 w.heap.size (fun _ => True) v147 y146) := ⟨h0_⟩
                  have n1_ : Aside0 (w15.heap[gb140]? = some (.cells #[.slice none 0 0, .slice none 0 0] 92 (0, 0))) := ⟨h1_⟩
                  have n2_ : Aside0 (w15.heap[gb149]? = some (.cells #[.slice none 0 0, .slice none 0 0] 92 (0, 0))) := ⟨h2_⟩
                  have n3_ : Aside0 (w.heap.size ≤ gb149) := ⟨h3_⟩
                  have n4_ : Aside0 (w.heap.size ≤ gb149) := ⟨h4_⟩
                  have n5_ : Aside0 (gb140 ≠ gb149) := ⟨h5_⟩
                  have n6_ : Aside0 (gb149 ≠ gb140) := ⟨h6_⟩
                  have n7_ : Aside0 (Below w.heap.size w w15) := ⟨h7_⟩
                  clear BK140
                  clear HB
                  clear h0_ h1_ h2_ h3_ h4_ h5_ h6_ h7_
                  have HO148 := n0_
                  have BK140 := n1_
                  have BK149 := n2_
                  have GW149 := n3_
                  have GE149 := n4_
                  have NB140_149 := n5_
                  have NB149_140 := n6_
                  have HB := n7_
                  clear n0_ n1_ n2_ n3_ n4_ n5_ n6_ n7_
                  have hHeld := trivial
                  refine norm_ (a' := ?_) ?_ ?_
                  rotate_left
                  · simp only [putAll, Act.put, List.setIfInBounds_toArray, List.set_cons_zero, List.set_cons_succ]
                    rfl
                  refine one_ (i := 0) (N := some 23) #[true, true, false, true, false] rfl rfl (by kernel_rfl) (by decide) (fun K hK => ?_)
                  refine Kd.R_make_step (Kd.int .i64) _ 3 (by rfl) (N := 23) rfl 39 _ _ rfl 32 rfl rfl Try.underlying39 (.int .i64 0) 8 info3 rfl (by decide) (by omega) 0 (ok := fun _ => True) (okp := fun _ => True) rfl (fun _ hk => hk) trivial (by omega) (by omega) (Below.refl _ _) (Nat.le_refl _) ?_
                  intro v144 w16 ho17 hb hg_ hnew_
                  clear hg_ hnew_
                  (first | rw [← Ny143.out] at ho17 | (simp only [Int.reduceToNat] at ho17; rw [← Ny143.out] at ho17))
                  have n0_ := Aside0.mk (Kd.R_elder' (Fix.uR HO148.out) (Kd.R_base ho17) hb)
                  have n1_ := Aside0.mk (Kd.R_lower (Kd.R_new' ho17 (Kd.R_lt (Fix.uR HO148.out))) (below_size Fix.uB))
                  have n2_ := Aside0.mk (blk_below (g := gb140) (o := .cells #[.slice none 0 0, .slice none 0 0] 92 (0, 0)) (Fix.uK BK140.out) hb)
                  have n3_ := Aside0.mk (blk_below (g := gb149) (o := .cells #[.slice none 0 0, .slice none 0 0] 92 (0, 0)) (Fix.uK BK149.out) hb)
                  have n4_ := Aside0.mk (below_step Fix.uB hb)
                  clear HO148
                  clear BK140
                  clear BK149
                  clear HB
                  have HO148 := n0_
                  have HO145 := n1_
                  have BK140 := n2_
                  have BK149 := n3_
                  have HB := n4_
                  clear n0_ n1_ n2_ n3_ n4_
                  clear hb ho17
                  obtain ⟨Ao18, co18, eo18⟩ := Kd.R_slice HO148.out
                  (first | subst eo18 | (injection eo18 with f1_ f2_ f3_; have f4_ := f1_.symm; have f5_ := f3_.symm; clear f1_ f2_ f3_; subst f4_; subst f5_))
                  obtain ⟨Ao19, co19, eo19⟩ := Kd.R_slice HO145.out
                  (first | subst eo19 | (injection eo19 with f1_ f2_ f3_; have f4_ := f1_.symm; have f5_ := f3_.symm; clear f1_ f2_ f3_; subst f4_; subst f5_))
                  refine hK.out _ _ trivial (fun hHeld => ?_)
                  clear hK K
                  refine norm_ (a' := ?_) ?_ ?_
                  rotate_left
                  · show Act.put _ (some 23) _ = _
                    simp only [Act.put, List.setIfInBounds_toArray, List.set_cons_zero, List.set_cons_succ, i64_w, i32_w]
                    rfl
                  refine pure_ (i := 2) (N := some 25) (v := ?_) (a' := ?_) #[true, true, true, true, false] rfl rfl (by kernel_rfl) (fun _ _ _ h => h) (Or.inl ⟨by rfl, ?_⟩) ?_ ?_
                  rotate_left
                  · intro w'
                    go_simp
                    with_reducible rfl
                  rotate_left
                  · simp only [Act.put, List.setIfInBounds_toArray, List.set_cons_zero, List.set_cons_succ, i64_w, i32_w]
                    rfl
                  exact norm_ (by first | (simp only [putAll, Act.put, List.setIfInBounds_toArray, List.set_cons_zero, List.set_cons_succ]; done) | (simp only [putAll, Act.put, List.setIfInBounds_toArray, List.set_cons_zero, List.set_cons_succ]; rfl)) (hJ0_1_3 (.slice Ao19 y143.length co19, .slice Ao18 y146.length co18, gb149) _ ⟨(by (with_reducible repeat (first | apply Kd.R_alloc | apply Kd.R_drewN | apply Kd.R_drew)); exact Kd.R_mono HO145.out (fun _ hk => by first | exact hk | exact hk.2)), (by (with_reducible repeat (first | apply Kd.R_alloc | apply Kd.R_drewN | apply Kd.R_drew)); exact Kd.R_mono HO148.out (fun _ hk => by first | exact hk | exact hk.2)), (Fix.uK BK140.out), (Fix.uK BK149.out), GW149.out, GE149.out, NB140_149.out, NB149_140.out, Fix.uB⟩)
              · skip
                rintro ⟨v144, gb149⟩ w15 ⟨h0_, h1_, h2_, h3_, h4_, h5_, h6_, h7_⟩
                have n0_ : Aside0 (Kd.R (Kd.int .i64) 3 w15 w.heap.size (fun _ => True) v144 y143) := ⟨h0_⟩
                have n1_ : Aside0 (w15.heap[gb140]? = some (.cells #[.slice none 0 0, .slice none 0 0] 92 (0, 0))) := ⟨h1_⟩
                have n2_ : Aside0 (w15.heap[gb149]? = some (.cells #[.slice none 0 0, .slice none 0 0] 92 (0, 0))) := ⟨h2_⟩
                have n3_ : Aside0 (w.heap.size ≤ gb149) := ⟨h3_⟩
                have n4_ : Aside0 (w.heap.size ≤ gb149) := ⟨h4_⟩
                have n5_ : Aside0 (gb140 ≠ gb149) := ⟨h5_⟩
                have n6_ : Aside0 (gb149 ≠ gb140) := ⟨h6_⟩
                have n7_ : Aside0 (Below w.heap.size w w15) := ⟨h7_⟩
                clear BK140
                clear HB
                clear h0_ h1_ h2_ h3_ h4_ h5_ h6_ h7_
                have HO145 := n0_
                have BK140 := n1_
                have BK149 := n2_
                have GW149 := n3_
                have GE149 := n4_
                have NB140_149 := n5_
                have NB149_140 := n6_
                have HB := n7_
                clear n0_ n1_ n2_ n3_ n4_ n5_ n6_ n7_
                have hHeld := trivial
                refine norm_ (a' := ?_) ?_ ?_
                rotate_left
                · simp only [putAll, Act.put, List.setIfInBounds_toArray, List.set_cons_zero, List.set_cons_succ]
                  rfl
                refine one_ (i := 1) (N := some 24) #[true, true, false, true, false] rfl rfl (by kernel_rfl) (by decide) (fun K hK => ?_)
                refine Kd.R_make_step (Kd.int .i64) _ 3 (by rfl) (N := 24) rfl 39 _ _ rfl 32 rfl rfl Try.underlying39 (.int .i64 0) 8 info3 rfl (by decide) (by omega) 0 (ok := fun _ => True) (okp := fun _ => True) rfl (fun _ hk => hk) trivial (by omega) (by omega) (Below.refl _ _) (Nat.le_refl _) ?_
                intro v147 w16 ho17 hb hg_ hnew_
                clear hg_ hnew_
                (first | rw [← Ny146.out] at ho17 | (simp only [Int.reduceToNat] at ho17; rw [← Ny146.out] at ho17))
                have n0_ := Aside0.mk (Kd.R_elder' (Fix.uR HO145.out) (Kd.R_base ho17) hb)
                have n1_ := Aside0.mk (Kd.R_lower (Kd.R_new' ho17 (Kd.R_lt (Fix.uR HO145.out))) (below_size Fix.uB))
                have n2_ := Aside0.mk (blk_below (g := gb140) (o := .cells #[.slice none 0 0, .slice none 0 0] 92 (0, 0)) (Fix.uK BK140.out) hb)
                have n3_ := Aside0.mk (blk_below (g := gb149) (o := .cells #[.slice none 0 0, .slice none 0 0] 92 (0, 0)) (Fix.uK BK149.out) hb)
                have n4_ := Aside0.mk (below_step Fix.uB hb)
                clear HO145
                clear BK140
                clear BK149
                clear HB
                have HO145 := n0_
                have HO148 := n1_
                have BK140 := n2_
                have BK149 := n3_
                have HB := n4_
                clear n0_ n1_ n2_ n3_ n4_
                clear hb ho17
                obtain ⟨Ao18, co18, eo18⟩ := Kd.R_slice HO148.out
                (first | subst eo18 | (injection eo18 with f1_ f2_ f3_; have f4_ := f1_.symm; have f5_ := f3_.symm; clear f1_ f2_ f3_; subst f4_; subst f5_))
                obtain ⟨Ao19, co19, eo19⟩ := Kd.R_slice HO145.out
                (first | subst eo19 | (injection eo19 with f1_ f2_ f3_; have f4_ := f1_.symm; have f5_ := f3_.symm; clear f1_ f2_ f3_; subst f4_; subst f5_))
                refine hK.out _ _ trivial (fun hHeld => ?_)
                clear hK K
                refine norm_ (a' := ?_) ?_ ?_
                rotate_left
                · show Act.put _ (some 24) _ = _
                  simp only [Act.put, List.setIfInBounds_toArray, List.set_cons_zero, List.set_cons_succ, i64_w, i32_w]
                  rfl
                refine pure_ (i := 2) (N := some 25) (v := ?_) (a' := ?_) #[true, true, true, true, false] rfl rfl (by kernel_rfl) (fun _ _ _ h => h) (Or.inl ⟨by rfl, ?_⟩) ?_ ?_
                rotate_left
                · intro w'
                  go_simp
                  with_reducible rfl
                rotate_left
                · simp only [Act.put, List.setIfInBounds_toArray, List.set_cons_zero, List.set_cons_succ, i64_w, i32_w]
                  rfl
                exact norm_ (by first | (simp only [putAll, Act.put, List.setIfInBounds_toArray, List.set_cons_zero, List.set_cons_succ]; done) | (simp only [putAll, Act.put, List.setIfInBounds_toArray, List.set_cons_zero, List.set_cons_succ]; rfl)) (hJ0_1_3 (.slice Ao19 y143.length co19, .slice Ao18 y146.length co18, gb149) _ ⟨(by (with_reducible repeat (first | apply Kd.R_alloc | apply Kd.R_drewN | apply Kd.R_drew)); exact Kd.R_mono HO145.out (fun _ hk => by first | exact hk | exact hk.2)), (by (with_reducible repeat (first | apply Kd.R_alloc | apply Kd.R_drewN | apply Kd.R_drew)); exact Kd.R_mono HO148.out (fun _ hk => by first | exact hk | exact hk.2)), (Fix.uK BK140.out), (Fix.uK BK149.out), GW149.out, GE149.out, NB140_149.out, NB149_140.out, Fix.uB⟩)
            · skip
              rintro ⟨v144, v147⟩ w18 ⟨h0_, h1_, h2_, h3_⟩
              have n0_ : Aside0 (Kd.R (Kd.int .i64) 3 w18 w.heap.size (fun k_ => some k_ ≠ (v147 : Value).ownBlock) v144 y143) := ⟨h0_⟩
              have n1_ : Aside0 (Kd.R (Kd.int .i64) 3 w18 w.heap.size (fun k_ => some k_ ≠ (v144 : Value).ownBlock) v147 y146) := ⟨h1_⟩
              have n2_ : Aside0 (w18.heap[gb140]? = some (.cells #[.slice none 0 0, .slice none 0 0] 92 (0, 0))) := ⟨h2_⟩
              have n3_ : Aside0 (Below w.heap.size w w18) := ⟨h3_⟩
              clear BK140
              clear HB
              clear h0_ h1_ h2_ h3_
              have HO145 := n0_
              have HO148 := n1_
              have BK140 := n2_
              have HB := n3_
              clear n0_ n1_ n2_ n3_
              have hHeld := trivial
              obtain ⟨Ao19, co19, eo19⟩ := Kd.R_slice HO148.out
              (first | subst eo19 | (injection eo19 with f1_ f2_ f3_; have f4_ := f1_.symm; have f5_ := f3_.symm; clear f1_ f2_ f3_; subst f4_; subst f5_))
              obtain ⟨Ao20, co20, eo20⟩ := Kd.R_slice HO145.out
              (first | subst eo20 | (injection eo20 with f1_ f2_ f3_; have f4_ := f1_.symm; have f5_ := f3_.symm; clear f1_ f2_ f3_; subst f4_; subst f5_))
              refine norm_ (a' := ?_) ?_ ?_
              rotate_left
              · simp only [putAll, Act.put, List.setIfInBounds_toArray, List.set_cons_zero, List.set_cons_succ]
                rfl
              refine one_ (i := 3) (N := some 6) #[true, true, true, true, false] rfl rfl (by kernel_rfl) (by decide) (fun K hK => ?_)
              refine box_step ?hg (N := 6) ?hd (cs := #[.slice none 0 0, .slice none 0 0]) (t := 92) ?hr ?_; (case hd => rfl); (case hg => rfl); (case hr => first | (go_simp; done) | (go_simp; rfl))
              intro gb149 hg w21 hbox hb
              have n0_ := Aside0.mk (Kd.R_below (Fix.uR HO145.out) hb)
              have n1_ := Aside0.mk (Kd.R_below (Fix.uR HO148.out) hb)
              have n2_ := Aside0.mk (blk_below (g := gb140) (o := .cells #[.slice none 0 0, .slice none 0 0] 92 (0, 0)) (Fix.uK BK140.out) hb)
              have n3_ := Aside0.mk (below_step Fix.uB hb)
              have n4_ := Aside0.mk (hbox)
              have n5_ := Aside0.mk ((by rw [hg]; exact (below_size Fix.uB) : w.heap.size ≤ gb149))
              have n6_ := Aside0.mk ((by rw [hg]; exact (below_size Fix.uB) : w.heap.size ≤ gb149))
              have n7_ := Aside0.mk ((by rw [hg]; exact Nat.ne_of_lt (blk_lt (g := gb140) (o := .cells #[.slice none 0 0, .slice none 0 0] 92 (0, 0)) (Fix.uK BK140.out)) : gb140 ≠ gb149))
              have n8_ := Aside0.mk ((by rw [hg]; exact Nat.ne_of_gt (blk_lt (g := gb140) (o := .cells #[.slice none 0 0, .slice none 0 0] 92 (0, 0)) (Fix.uK BK140.out)) : gb149 ≠ gb140))
              clear HO145
              clear HO148
              clear BK140
              clear HB
              have HO145 := n0_
              have HO148 := n1_
              have BK140 := n2_
              have HB := n3_
              have BK149 := n4_
              have GW149 := n5_
              have GE149 := n6_
              have NB140_149 := n7_
              have NB149_140 := n8_
              clear n0_ n1_ n2_ n3_ n4_ n5_ n6_ n7_ n8_
              clear hb hbox hg
              refine hK.out _ _ trivial (fun hHeld => ?_)
              clear hK K
              refine norm_ (a' := ?_) ?_ ?_
              rotate_left
              · show Act.put _ (some 6) _ = _
                simp only [Act.put, List.setIfInBounds_toArray, List.set_cons_zero, List.set_cons_succ, i64_w, i32_w]
                rfl
              exact norm_ (by first | (simp only [putAll, Act.put, List.setIfInBounds_toArray, List.set_cons_zero, List.set_cons_succ]; done) | (simp only [putAll, Act.put, List.setIfInBounds_toArray, List.set_cons_zero, List.set_cons_succ]; rfl)) (hJ0_1_3 (.slice Ao20 y143.length co20, .slice Ao19 y146.length co19, gb149) _ ⟨(Fix.uR HO145.out), (Fix.uR HO148.out), (Fix.uK BK140.out), (Fix.uK BK149.out), GW149.out, GE149.out, NB140_149.out, NB149_140.out, Fix.uB⟩)
          rintro ⟨v144, v147, gb149⟩ w19 ⟨h0_, h1_, h2_, h3_, h4_, h5_, h6_, h7_, h8_⟩
          have n0_ : Aside0 (Kd.R (Kd.int .i64) 3 w19 w.heap.size (fun k_ => some k_ ≠ (v147 : Value).ownBlock) v144 y143) := ⟨h0_⟩
          have n1_ : Aside0 (Kd.R (Kd.int .i64) 3 w19 w.heap.size (fun k_ => some k_ ≠ (v144 : Value).ownBlock) v147 y146) := ⟨h1_⟩
          have n2_ : Aside0 (w19.heap[gb140]? = some (.cells #[.slice none 0 0, .slice none 0 0] 92 (0, 0))) := ⟨h2_⟩
          have n3_ : Aside0 (w19.heap[gb149]? = some (.cells #[.slice none 0 0, .slice none 0 0] 92 (0, 0))) := ⟨h3_⟩
          have n4_ : Aside0 (w.heap.size ≤ gb149) := ⟨h4_⟩
          have n5_ : Aside0 (w.heap.size ≤ gb149) := ⟨h5_⟩
          have n6_ : Aside0 (gb140 ≠ gb149) := ⟨h6_⟩
          have n7_ : Aside0 (gb149 ≠ gb140) := ⟨h7_⟩
          have n8_ : Aside0 (Below w.heap.size w w19) := ⟨h8_⟩
          clear BK140
          clear HB
          clear h0_ h1_ h2_ h3_ h4_ h5_ h6_ h7_ h8_
          have HO145 := n0_
          have HO148 := n1_
          have BK140 := n2_
          have BK149 := n3_
          have GW149 := n4_
          have GE149 := n5_
          have NB140_149 := n6_
          have NB149_140 := n7_
          have HB := n8_
          clear n0_ n1_ n2_ n3_ n4_ n5_ n6_ n7_ n8_
          have hHeld := trivial
          obtain ⟨Ao20, co20, eo20⟩ := Kd.R_slice HO148.out
          (first | subst eo20 | (injection eo20 with f1_ f2_ f3_; have f4_ := f1_.symm; have f5_ := f3_.symm; clear f1_ f2_ f3_; subst f4_; subst f5_))
          obtain ⟨Ao21, co21, eo21⟩ := Kd.R_slice HO145.out
          (first | subst eo21 | (injection eo21 with f1_ f2_ f3_; have f4_ := f1_.symm; have f5_ := f3_.symm; clear f1_ f2_ f3_; subst f4_; subst f5_))
          refine norm_ (a' := ?_) ?_ ?_
          rotate_left
          · simp only [putAll, Act.put, List.setIfInBounds_toArray, List.set_cons_zero, List.set_cons_succ]
            rfl
          refine one_ (i := 4) (N := none) #[true, true, true, true, true] rfl rfl (by kernel_rfl) (by decide) (fun K hK => ?_)
          have hs22 : w19.cell? ⟨gb149, 0, none⟩ = some (.slice none 0 0) := (blk_cell BK149.out 0).trans rfl
          have hfs22 := blk_frozen BK149.out 0
          have hns22_0 := NB140_149.out
          have hms22_0 := NB149_140.out
          have hs23 : w19.cell? ⟨gb149, 1, none⟩ = some (.slice none 0 0) := (blk_cell BK149.out 1).trans rfl
          have hfs23 := blk_frozen BK149.out 1
          have hns23_0 := NB140_149.out
          have hms23_0 := NB149_140.out
          refine skip_ (w1 := ?_) (by rfl) rfl ?_ ?_
          rotate_left
          · go_simp
            rfl
          refine hK.out _ _ trivial (fun hHeld => ?_)
          clear hK K
          refine done_ (by kernel_rfl) ?_
          try go_wp2
          go_loopg [7, 28] kj2 (fun kq v7 v28 w' => ∃ (x7_2 : Int) (x28_2 : Int) (x150000_2 : List Int) (x150001_2 : List Int) (u150000 : Value) (u150001 : Value), v7 = .int .i64 x7_2 ∧ v28 = .int .i64 x28_2 ∧ Aside0 (impl_DiffuseRow.l0 kq l1 x7_2 l0 (l0.length : Int) x28_2 x150000_2 x150001_2 = some (r1, r2, r3)) ∧ Aside0 (kq ≤ kj2) ∧ Aside0 (Kd.R (Kd.int .i64) 3 w' w.heap.size (fun k_ => some k_ ≠ (u150001 : Value).ownBlock) u150000 x150000_2) ∧ Aside0 (Kd.R (Kd.int .i64) 3 w' w.heap.size (fun k_ => some k_ ≠ (u150000 : Value).ownBlock) u150001 x150001_2) ∧ Aside0 (w'.heap[gb140]? = some (.cells #[(.slice none 0 0), (.slice none 0 0)] 92 (0, 0))) ∧ Aside0 (w'.heap[gb149]? = some (.cells #[u150000, u150001] 92 (0, 0))) ∧ Aside0 (Below w.heap.size w w'))
          case atStart => exact ⟨(0), (0), (y143), (y146), (.slice Ao21 y143.length co21), (.slice Ao20 y146.length co20), (by first | rfl | (simp; done) | (simp [*]; done)), (by first | rfl | (simp; done) | (simp [*]; done)), H', ⟨Nat.le_refl _⟩, ⟨by (with_reducible repeat (first | apply Kd.R_alloc | apply Kd.R_drewN | apply Kd.R_drew)); exact Kd.R_mono (Kd.R_far (p := ⟨gb149, 1, none⟩) (Kd.R_far (p := ⟨gb149, 0, none⟩) (Kd.R_types HO145.out BK149.out (by decide)) (fun _ hk => by first | exact hk | exact hk.2) (.slice Ao21 y143.length co21)) (fun _ hk => by first | exact hk | exact hk.2) (.slice Ao20 y146.length co20)) (fun _ hk => hk.1)⟩, ⟨by (with_reducible repeat (first | apply Kd.R_alloc | apply Kd.R_drewN | apply Kd.R_drew)); exact Kd.R_mono (Kd.R_far (p := ⟨gb149, 1, none⟩) (Kd.R_far (p := ⟨gb149, 0, none⟩) (Kd.R_types HO148.out BK149.out (by decide)) (fun _ hk => by first | exact hk | exact hk.2) (.slice Ao21 y143.length co21)) (fun _ hk => by first | exact hk | exact hk.2) (.slice Ao20 y146.length co20)) (fun _ hk => hk.1)⟩, ⟨by (with_reducible repeat (first | refine Fix.kN ?_ _ | refine Fix.kD ?_ | refine Fix.kA ?_ _)); refine blk_far ?_ NB140_149.out _; (with_reducible repeat (first | refine Fix.kN ?_ _ | refine Fix.kD ?_ | refine Fix.kA ?_ _)); refine blk_far ?_ NB140_149.out _; (with_reducible repeat (first | refine Fix.kN ?_ _ | refine Fix.kD ?_ | refine Fix.kA ?_ _)); exact BK140.out⟩, ⟨by (with_reducible repeat (first | refine Fix.kN ?_ _ | refine Fix.kD ?_ | refine Fix.kA ?_ _)); refine blk_put (cs := #[.slice Ao21 y143.length co21, .slice none 0 0]) ?_ 1 _ rfl; (with_reducible repeat (first | refine Fix.kN ?_ _ | refine Fix.kD ?_ | refine Fix.kA ?_ _)); refine blk_put (cs := #[.slice none 0 0, .slice none 0 0]) ?_ 0 _ rfl; (with_reducible repeat (first | refine Fix.kN ?_ _ | refine Fix.kD ?_ | refine Fix.kA ?_ _)); exact BK149.out⟩, ⟨Fix.uB⟩⟩
          case round =>
            clear H'
            try clear p2
            obtain ⟨x7_2, x28_2, x150000_2, x150001_2, u150000, u150001, rfl, rfl, HA, HK2, HO_150000, HO_150001, BK140, BK149, HB⟩ := hrel
            cases gk with
            | zero => exact absurd HA.out (by simp [impl_DiffuseRow.l0])
            | succ k2 =>
              have H := HA.out
              clear HA
              simp only [impl_DiffuseRow.l0] at H
              by_cases c24 : x28_2 < (l0.length : Int)
              · rw [if_pos c24] at H
                have c24b0 : decide (x28_2 < (l0.length : Int)) = true := decide_eq_true c24
                clear c24
                by_cases c25 : 0 ≤ x28_2
                · rw [if_pos c25] at H
                  have c25b0 : decide (0 ≤ x28_2) = true := decide_eq_true c25
                  clear c25
                  by_cases c26 : x28_2 < (l0.length : Int)
                  · rw [if_pos c26] at H
                    have c26b0 : decide (x28_2 < (l0.length : Int)) = true := decide_eq_true c26
                    clear c26
                    by_cases c27 : x28_2 < (l1.length : Int)
                    · rw [if_pos c27] at H
                      have c27b0 : decide (x28_2 < (l1.length : Int)) = true := decide_eq_true c27
                      clear c27
                      by_cases c28 : (wrap64 ((wrap64 ((rd l0 x28_2) + (rd l1 x28_2))) + x7_2)) ≥ 128
                      · rw [if_pos c28] at H
                        have c28b0 : decide (128 ≤ (wrap64 ((wrap64 ((rd l0 x28_2) + (rd l1 x28_2))) + x7_2))) = true := decide_eq_true c28
                        clear c28
                        by_cases c29 : x28_2 < (x150000_2.length : Int)
                        · rw [if_pos c29] at H
                          have c29b0 : decide (x28_2 < (x150000_2.length : Int)) = true := decide_eq_true c29
                          clear c29
                          obtain ⟨y154, hy154⟩ : ∃ y_ : List Int, y_ = (x150000_2.set (x28_2 : Int).toNat 1) := ⟨_, rfl⟩
                          replace H : ((impl_down.f (wrap64 (3 * (wrap64 ((wrap64 ((wrap64 ((rd l0 x28_2) + (rd l1 x28_2))) + x7_2)) - 255)))) 16).bind fun t155 => ((impl_down.f (wrap64 (5 * (wrap64 ((wrap64 ((wrap64 ((rd l0 x28_2) + (rd l1 x28_2))) + x7_2)) - 255)))) 16).bind fun t156 => ((impl_down.f (wrap64 ((wrap64 ((wrap64 ((rd l0 x28_2) + (rd l1 x28_2))) + x7_2)) - 255)) 16).bind fun t157 => (if 0 ≤ (mx 0 (wrap64 (x28_2 - 1))) then (if (mx 0 (wrap64 (x28_2 - 1))) < (x150001_2.length : Int) then ((some (x150001_2.set ((mx 0 (wrap64 (x28_2 - 1))) : Int).toNat (wrap64 ((rd x150001_2 (mx 0 (wrap64 (x28_2 - 1)))) + t155)) : List Int)).bind fun y159 => (if x28_2 < (x150001_2.length : Int) then ((some (y159.set (x28_2 : Int).toNat (wrap64 ((rd y159 x28_2) + t156)) : List Int)).bind fun y161 => (if 0 ≤ (mn 31 (wrap64 (x28_2 + 1))) then (if (mn 31 (wrap64 (x28_2 + 1))) < (x150001_2.length : Int) then (impl_DiffuseRow.l0 k2 l1 (wrap64 ((wrap64 ((wrap64 ((wrap64 ((wrap64 ((wrap64 ((rd l0 x28_2) + (rd l1 x28_2))) + x7_2)) - 255)) - t155)) - t156)) - t157)) l0 (l0.length : Int) (wrap64 (x28_2 + 1)) y154 (y161.set ((mn 31 (wrap64 (x28_2 + 1))) : Int).toNat (wrap64 ((rd y161 (mn 31 (wrap64 (x28_2 + 1)))) + t157)))) else (none)) else (none))) else (none))) else (none)) else (none))))) = some (r1, r2, r3) := by first | (rw [hy154]; with_reducible exact H) | (have H2_ := (Option.bind_some _ _).symm.trans H; rw [hy154]; with_reducible exact H2_) | (have H2_ := (Option.bind_some _ _).symm.trans H; with_reducible exact H2_) | with_reducible exact H | (rw [hy154]; exact H) | exact H
                          have Ny154 := Aside0.mk hy154
                          clear hy154
                          replace H := Option.bind_eq_some_iff.mp H
                          obtain ⟨t155, A310, H⟩ := H
                          replace H : ((impl_down.f (wrap64 (5 * (wrap64 ((wrap64 ((wrap64 ((rd l0 x28_2) + (rd l1 x28_2))) + x7_2)) - 255)))) 16).bind fun t156 => ((impl_down.f (wrap64 ((wrap64 ((wrap64 ((rd l0 x28_2) + (rd l1 x28_2))) + x7_2)) - 255)) 16).bind fun t157 => (if 0 ≤ (mx 0 (wrap64 (x28_2 - 1))) then (if (mx 0 (wrap64 (x28_2 - 1))) < (x150001_2.length : Int) then ((some (x150001_2.set ((mx 0 (wrap64 (x28_2 - 1))) : Int).toNat (wrap64 ((rd x150001_2 (mx 0 (wrap64 (x28_2 - 1)))) + t155)) : List Int)).bind fun y159 => (if x28_2 < (x150001_2.length : Int) then ((some (y159.set (x28_2 : Int).toNat (wrap64 ((rd y159 x28_2) + t156)) : List Int)).bind fun y161 => (if 0 ≤ (mn 31 (wrap64 (x28_2 + 1))) then (if (mn 31 (wrap64 (x28_2 + 1))) < (x150001_2.length : Int) then (impl_DiffuseRow.l0 k2 l1 (wrap64 ((wrap64 ((wrap64 ((wrap64 ((wrap64 ((wrap64 ((rd l0 x28_2) + (rd l1 x28_2))) + x7_2)) - 255)) - t155)) - t156)) - t157)) l0 (l0.length : Int) (wrap64 (x28_2 + 1)) y154 (y161.set ((mn 31 (wrap64 (x28_2 + 1))) : Int).toNat (wrap64 ((rd y161 (mn 31 (wrap64 (x28_2 + 1)))) + t157)))) else (none)) else (none))) else (none))) else (none)) else (none)))) = some (r1, r2, r3) := H
                          have A31 := Aside0.mk A310
                          clear A310
                          replace H := Option.bind_eq_some_iff.mp H
                          obtain ⟨t156, A320, H⟩ := H
                          replace H : ((impl_down.f (wrap64 ((wrap64 ((wrap64 ((rd l0 x28_2) + (rd l1 x28_2))) + x7_2)) - 255)) 16).bind fun t157 => (if 0 ≤ (mx 0 (wrap64 (x28_2 - 1))) then (if (mx 0 (wrap64 (x28_2 - 1))) < (x150001_2.length : Int) then ((some (x150001_2.set ((mx 0 (wrap64 (x28_2 - 1))) : Int).toNat (wrap64 ((rd x150001_2 (mx 0 (wrap64 (x28_2 - 1)))) + t155)) : List Int)).bind fun y159 => (if x28_2 < (x150001_2.length : Int) then ((some (y159.set (x28_2 : Int).toNat (wrap64 ((rd y159 x28_2) + t156)) : List Int)).bind fun y161 => (if 0 ≤ (mn 31 (wrap64 (x28_2 + 1))) then (if (mn 31 (wrap64 (x28_2 + 1))) < (x150001_2.length : Int) then (impl_DiffuseRow.l0 k2 l1 (wrap64 ((wrap64 ((wrap64 ((wrap64 ((wrap64 ((wrap64 ((rd l0 x28_2) + (rd l1 x28_2))) + x7_2)) - 255)) - t155)) - t156)) - t157)) l0 (l0.length : Int) (wrap64 (x28_2 + 1)) y154 (y161.set ((mn 31 (wrap64 (x28_2 + 1))) : Int).toNat (wrap64 ((rd y161 (mn 31 (wrap64 (x28_2 + 1)))) + t157)))) else (none)) else (none))) else (none))) else (none)) else (none))) = some (r1, r2, r3) := H
                          have A32 := Aside0.mk A320
                          clear A320
                          replace H := Option.bind_eq_some_iff.mp H
                          obtain ⟨t157, A330, H⟩ := H
                          replace H : (if 0 ≤ (mx 0 (wrap64 (x28_2 - 1))) then (if (mx 0 (wrap64 (x28_2 - 1))) < (x150001_2.length : Int) then ((some (x150001_2.set ((mx 0 (wrap64 (x28_2 - 1))) : Int).toNat (wrap64 ((rd x150001_2 (mx 0 (wrap64 (x28_2 - 1)))) + t155)) : List Int)).bind fun y159 => (if x28_2 < (x150001_2.length : Int) then ((some (y159.set (x28_2 : Int).toNat (wrap64 ((rd y159 x28_2) + t156)) : List Int)).bind fun y161 => (if 0 ≤ (mn 31 (wrap64 (x28_2 + 1))) then (if (mn 31 (wrap64 (x28_2 + 1))) < (x150001_2.length : Int) then (impl_DiffuseRow.l0 k2 l1 (wrap64 ((wrap64 ((wrap64 ((wrap64 ((wrap64 ((wrap64 ((rd l0 x28_2) + (rd l1 x28_2))) + x7_2)) - 255)) - t155)) - t156)) - t157)) l0 (l0.length : Int) (wrap64 (x28_2 + 1)) y154 (y161.set ((mn 31 (wrap64 (x28_2 + 1))) : Int).toNat (wrap64 ((rd y161 (mn 31 (wrap64 (x28_2 + 1)))) + t157)))) else (none)) else (none))) else (none))) else (none)) else (none)) = some (r1, r2, r3) := H
                          have A33 := Aside0.mk A330
                          clear A330
                          obtain ⟨ji34, hji34⟩ : ∃ j_ : Int, (mx 0 (wrap64 (x28_2 - 1))) = j_ := ⟨_, rfl⟩
                          replace H : (if 0 ≤ (ji34) then (if (ji34) < (x150001_2.length : Int) then ((some (x150001_2.set ((ji34) : Int).toNat (wrap64 ((rd x150001_2 (ji34)) + t155)) : List Int)).bind fun y159 => (if x28_2 < (x150001_2.length : Int) then ((some (y159.set (x28_2 : Int).toNat (wrap64 ((rd y159 x28_2) + t156)) : List Int)).bind fun y161 => (if 0 ≤ (mn 31 (wrap64 (x28_2 + 1))) then (if (mn 31 (wrap64 (x28_2 + 1))) < (x150001_2.length : Int) then (impl_DiffuseRow.l0 k2 l1 (wrap64 ((wrap64 ((wrap64 ((wrap64 ((wrap64 ((wrap64 ((rd l0 x28_2) + (rd l1 x28_2))) + x7_2)) - 255)) - t155)) - t156)) - t157)) l0 (l0.length : Int) (wrap64 (x28_2 + 1)) y154 (y161.set ((mn 31 (wrap64 (x28_2 + 1))) : Int).toNat (wrap64 ((rd y161 (mn 31 (wrap64 (x28_2 + 1)))) + t157)))) else (none)) else (none))) else (none))) else (none)) else (none)) = some (r1, r2, r3) := by first | (rw [hji34] at H; exact H) | (simp only [hji34] at H ⊢; exact H)
                          (try rw [hji34] at A31)
                          (try rw [hji34] at A32)
                          (try rw [hji34] at A33)
                          have hji34_ : (if 0 < (wrap64 (x28_2 - 1)) then (wrap64 (x28_2 - 1)) else 0) = ji34 := hji34
                          by_cases c35 : 0 ≤ (ji34)
                          · rw [if_pos c35] at H
                            have c35b0 : decide (0 ≤ (ji34)) = true := decide_eq_true c35
                            clear c35
                            by_cases c36 : (ji34) < (x150001_2.length : Int)
                            · rw [if_pos c36] at H
                              have c36b0 : decide ((ji34) < (x150001_2.length : Int)) = true := decide_eq_true c36
                              clear c36
                              obtain ⟨y159, hy159⟩ : ∃ y_ : List Int, y_ = (x150001_2.set ((ji34) : Int).toNat (wrap64 ((rd x150001_2 (ji34)) + t155))) := ⟨_, rfl⟩
                              replace H : (if x28_2 < (x150001_2.length : Int) then ((some (y159.set (x28_2 : Int).toNat (wrap64 ((rd y159 x28_2) + t156)) : List Int)).bind fun y161 => (if 0 ≤ (mn 31 (wrap64 (x28_2 + 1))) then (if (mn 31 (wrap64 (x28_2 + 1))) < (x150001_2.length : Int) then (impl_DiffuseRow.l0 k2 l1 (wrap64 ((wrap64 ((wrap64 ((wrap64 ((wrap64 ((wrap64 ((rd l0 x28_2) + (rd l1 x28_2))) + x7_2)) - 255)) - t155)) - t156)) - t157)) l0 (l0.length : Int) (wrap64 (x28_2 + 1)) y154 (y161.set ((mn 31 (wrap64 (x28_2 + 1))) : Int).toNat (wrap64 ((rd y161 (mn 31 (wrap64 (x28_2 + 1)))) + t157)))) else (none)) else (none))) else (none)) = some (r1, r2, r3) := by first | (rw [hy159]; with_reducible exact H) | (have H2_ := (Option.bind_some _ _).symm.trans H; rw [hy159]; with_reducible exact H2_) | (have H2_ := (Option.bind_some _ _).symm.trans H; with_reducible exact H2_) | with_reducible exact H | (rw [hy159]; exact H) | exact H
                              have Ny159 := Aside0.mk hy159
                              clear hy159
                              by_cases c38 : x28_2 < (x150001_2.length : Int)
                              · rw [if_pos c38] at H
                                have c38b0 : decide (x28_2 < (x150001_2.length : Int)) = true := decide_eq_true c38
                                clear c38
                                obtain ⟨y161, hy161⟩ : ∃ y_ : List Int, y_ = (y159.set (x28_2 : Int).toNat (wrap64 ((rd y159 x28_2) + t156))) := ⟨_, rfl⟩
                                replace H : (if 0 ≤ (mn 31 (wrap64 (x28_2 + 1))) then (if (mn 31 (wrap64 (x28_2 + 1))) < (x150001_2.length : Int) then (impl_DiffuseRow.l0 k2 l1 (wrap64 ((wrap64 ((wrap64 ((wrap64 ((wrap64 ((wrap64 ((rd l0 x28_2) + (rd l1 x28_2))) + x7_2)) - 255)) - t155)) - t156)) - t157)) l0 (l0.length : Int) (wrap64 (x28_2 + 1)) y154 (y161.set ((mn 31 (wrap64 (x28_2 + 1))) : Int).toNat (wrap64 ((rd y161 (mn 31 (wrap64 (x28_2 + 1)))) + t157)))) else (none)) else (none)) = some (r1, r2, r3) := by first | (rw [hy161]; with_reducible exact H) | (have H2_ := (Option.bind_some _ _).symm.trans H; rw [hy161]; with_reducible exact H2_) | (have H2_ := (Option.bind_some _ _).symm.trans H; with_reducible exact H2_) | with_reducible exact H | (rw [hy161]; exact H) | exact H
                                have Ny161 := Aside0.mk hy161
                                clear hy161
                                obtain ⟨ji40, hji40⟩ : ∃ j_ : Int, (mn 31 (wrap64 (x28_2 + 1))) = j_ := ⟨_, rfl⟩
                                replace H : (if 0 ≤ (ji40) then (if (ji40) < (x150001_2.length : Int) then (impl_DiffuseRow.l0 k2 l1 (wrap64 ((wrap64 ((wrap64 ((wrap64 ((wrap64 ((wrap64 ((rd l0 x28_2) + (rd l1 x28_2))) + x7_2)) - 255)) - t155)) - t156)) - t157)) l0 (l0.length : Int) (wrap64 (x28_2 + 1)) y154 (y161.set ((ji40) : Int).toNat (wrap64 ((rd y161 (ji40)) + t157)))) else (none)) else (none)) = some (r1, r2, r3) := by first | (rw [hji40] at H; exact H) | (simp only [hji40] at H ⊢; exact H)
                                (try rw [hji40] at A31)
                                (try rw [hji40] at A32)
                                (try rw [hji40] at A33)
                                have hji40_ : (if (wrap64 (x28_2 + 1)) < 31 then (wrap64 (x28_2 + 1)) else 31) = ji40 := hji40
                                by_cases c41 : 0 ≤ (ji40)
                                · rw [if_pos c41] at H
                                  have c41b0 : decide (0 ≤ (ji40)) = true := decide_eq_true c41
                                  clear c41
                                  by_cases c42 : (ji40) < (x150001_2.length : Int)
                                  · rw [if_pos c42] at H
                                    have c42b0 : decide ((ji40) < (x150001_2.length : Int)) = true := decide_eq_true c42
                                    clear c42
                                    obtain ⟨y163, hy163⟩ : ∃ y_ : List Int, y_ = (y161.set ((ji40) : Int).toNat (wrap64 ((rd y161 (ji40)) + t157))) := ⟨_, rfl⟩
                                    replace H : (impl_DiffuseRow.l0 k2 l1 (wrap64 ((wrap64 ((wrap64 ((wrap64 ((wrap64 ((wrap64 ((rd l0 x28_2) + (rd l1 x28_2))) + x7_2)) - 255)) - t155)) - t156)) - t157)) l0 (l0.length : Int) (wrap64 (x28_2 + 1)) y154 y163) = some (r1, r2, r3) := by first | (rw [hy163]; with_reducible exact H) | (have H2_ := (Option.bind_some _ _).symm.trans H; rw [hy163]; with_reducible exact H2_) | (have H2_ := (Option.bind_some _ _).symm.trans H; with_reducible exact H2_) | with_reducible exact H | (rw [hy163]; exact H) | exact H
                                    have Ny163 := Aside0.mk hy163
                                    clear hy163
                                    have H' := Aside0.mk H
                                    clear H
                                    have p152 : 0 ≤ (x28_2 : Int) := of_decide_eq_true (by first | (with_reducible assumption) | assumption)
                                    have q152 : x28_2 < (l0.length : Int) := of_decide_eq_true (by first | (with_reducible assumption) | assumption)
                                    obtain ⟨ad152, e152, hx152_0⟩ := Kd.at_int HR0.out x28_2 p152 q152
                                    cases e152
                                    replace hx152_0 := (HB.out.cell (World.block_lt_of_cell? w _ hx152_0)).trans hx152_0
                                    replace p152 := eq_true p152
                                    replace q152 := eq_true q152
                                    have p153 : 0 ≤ (x28_2 : Int) := of_decide_eq_true (by first | (with_reducible assumption) | assumption)
                                    have q153 : x28_2 < (l1.length : Int) := of_decide_eq_true (by first | (with_reducible assumption) | assumption)
                                    obtain ⟨ad153, e153, hx153_0⟩ := Kd.at_int HR1.out x28_2 p153 q153
                                    cases e153
                                    replace hx153_0 := (HB.out.cell (World.block_lt_of_cell? w _ hx153_0)).trans hx153_0
                                    replace p153 := eq_true p153
                                    replace q153 := eq_true q153
                                    have hnb44 := NB149_140.out
                                    have hnc44 := NB140_149.out
                                    have hcz45_0 : wr.cell? ⟨gb149, 0, none⟩ = some (u150000) := (blk_cell BK149.out 0).trans rfl
                                    have hcz45_1 : wr.cell? ⟨gb149, 1, none⟩ = some (u150001) := (blk_cell BK149.out 1).trans rfl
                                    have hfz45_0 := blk_frozen BK149.out 0
                                    have hfz45_1 := blk_frozen BK149.out 1
                                    have p30 : 0 ≤ (x28_2 : Int) := of_decide_eq_true (by first | (with_reducible assumption) | assumption)
                                    have q30 : (x28_2 : Int) < ((x150000_2.length : Int) : Int) := of_decide_eq_true (by first | (with_reducible assumption) | assumption)
                                    obtain ⟨go30, co30, eo30, gb30, gl30, cl30, HG30⟩ := Kd.R_form HO_150000.out (by omega)
                                    (first | cases eo30 | (injection eo30 with ea_ en_ ec_; (first | subst ea_ | (injection ea_ with ea_; subst ea_)); subst ec_; clear en_))
                                    have GB30 := Aside0.mk gb30
                                    have GG30 := Aside0.mk HG30
                                    clear gb30 gl30 HG30
                                    obtain ⟨hx30_0, hf30_0⟩ := Kd.R_celln 0 HO_150000.out (x28_2 : Int) p30 q30
                                    replace p30 := eq_true p30
                                    replace q30 := eq_true q30
                                    have HP46 := Kd.R_putg HO_150000.out (x28_2 : Int) 1
                                    go_wp2_with (first | ((with_reducible refine gate_store (t := 3) (p := 46) rfl ?_); refine store_event (t := 3) (p := 46) (v := ?vo_w47) (w1 := (wr.setCell ⟨go30, (x28_2 : Int).toNat, none⟩ (.int .i64 1))) ?hg ?ho ?hn ?hr ?_; (case ho => rfl); (case hg => rfl); (case hn => rfl); (case hr => first | (go_simp; done) | (go_simp; rfl)); intro w47 hw; have hg : wr.grownBy w47 (some go30) := (by rw [hw]; exact HP46.2); have hp_ : Kd.R (Kd.int .i64) 3 w47 w.heap.size (fun k_ => some k_ ≠ (u150001 : Value).ownBlock) (.slice (some ⟨go30, 0, none⟩) x150000_2.length co30) y154 := (by rw [hw, Ny154.out]; exact HP46.1); clear HP46; have n0_ := Aside0.mk (hp_); have n1_ := Aside0.mk (Kd.R_after (v := (.slice (some ⟨go30, 0, none⟩) x150000_2.length co30)) (v1 := (.slice (some ⟨go30, 0, none⟩) x150000_2.length co30)) (ok := (fun _ => True)) (by (with_reducible repeat (first | apply Kd.R_alloc | apply Kd.R_drewN | apply Kd.R_drew)); exact Kd.R_mono HO_150001.out (fun _ hk => ⟨trivial, hk⟩)) hg (.inl rfl)); have n2_ := Aside0.mk (blk_grown (g := gb140) (o := .cells #[.slice none 0 0, .slice none 0 0] 92 (0, 0)) (Fix.uK BK140.out) hg (Kd.R_ne HO_150000.out BK140.out (by decide))); have n3_ := Aside0.mk (blk_grown (g := gb149) (o := .cells #[.slice (some ⟨go30, 0, none⟩) x150000_2.length co30, u150001] 92 (0, 0)) (Fix.uK BK149.out) hg (Kd.R_ne HO_150000.out BK149.out (by decide))); have n4_ := Aside0.mk ((by rw [hw]; exact below_set (HB.out) GB30.out : Below w.heap.size w w47)); clear HO_150000; clear HO_150001; clear BK140; clear BK149; clear HB; have HO_150000 := n0_; have HO_150001 := n1_; have BK140 := n2_; have BK149 := n3_; have HB := n4_; clear n0_ n1_ n2_ n3_ n4_; clear hg hw hp_) | ((with_reducible refine gate_callee (f := 98) rfl ?_); refine goesL_ (some 51) rfl rfl Try.func98 (by kernel_rfl) rfl #[.int .i64 (wrap64 (3 * (wrap64 ((wrap64 ((wrap64 ((rd l0 x28_2) + (rd l1 x28_2))) + x7_2)) - 255)))), .int .i64 16] rfl Fix.uA ?_; (with_reducible refine (impl_down.calls (wrap64 (3 * (wrap64 ((wrap64 ((wrap64 ((rd l0 x28_2) + (rd l1 x28_2))) + x7_2)) - 255)))) 16 t155 _ A31.out).mono ?_); rintro e w' ⟨rfl, ⟨nd, rfl⟩⟩; refine ⟨_, rfl, ?_⟩; (try (rw [drewN_self w47]; generalize hq_ : World.drewN w47 _ = w47; have n0_ : Aside0 (Kd.R (Kd.int .i64) 3 w47 w.heap.size (fun k_ => some k_ ≠ (u150001 : Value).ownBlock) (.slice (some ⟨go30, 0, none⟩) x150000_2.length co30) y154) := ⟨by rw [← hq_]; exact (Fix.uR HO_150000.out)⟩; have n1_ : Aside0 (Kd.R (Kd.int .i64) 3 w47 w.heap.size (fun k_ => some k_ ≠ (.slice (some ⟨go30, 0, none⟩) x150000_2.length co30 : Value).ownBlock) u150001 x150001_2) := ⟨by rw [← hq_]; exact (by (with_reducible repeat (first | apply Kd.R_alloc | apply Kd.R_drewN | apply Kd.R_drew)); exact Kd.R_mono HO_150001.out (fun _ hk => by first | exact hk | exact hk.2))⟩; have n2_ : Aside0 (w47.heap[gb140]? = some (.cells #[.slice none 0 0, .slice none 0 0] 92 (0, 0))) := ⟨by rw [← hq_]; exact (Fix.uK BK140.out)⟩; have n3_ : Aside0 (w47.heap[gb149]? = some (.cells #[.slice (some ⟨go30, 0, none⟩) x150000_2.length co30, u150001] 92 (0, 0))) := ⟨by rw [← hq_]; exact (Fix.uK BK149.out)⟩; have n4_ : Aside0 (Below w.heap.size w w47) := ⟨by rw [← hq_]; exact Fix.uB⟩; clear HO_150000 HO_150001 BK140 BK149 HB hq_; have HO_150000 := n0_; have HO_150001 := n1_; have BK140 := n2_; have BK149 := n3_; have HB := n4_; clear n0_ n1_ n2_ n3_ n4_))) | ((with_reducible refine gate_callee (f := 98) rfl ?_); refine goesL_ (some 54) rfl rfl Try.func98 (by kernel_rfl) rfl #[.int .i64 (wrap64 (5 * (wrap64 ((wrap64 ((wrap64 ((rd l0 x28_2) + (rd l1 x28_2))) + x7_2)) - 255)))), .int .i64 16] rfl Fix.uA ?_; (with_reducible refine (impl_down.calls (wrap64 (5 * (wrap64 ((wrap64 ((wrap64 ((rd l0 x28_2) + (rd l1 x28_2))) + x7_2)) - 255)))) 16 t156 _ A32.out).mono ?_); rintro e w' ⟨rfl, ⟨nd, rfl⟩⟩; refine ⟨_, rfl, ?_⟩; (try (rw [drewN_self w47]; generalize hq_ : World.drewN w47 _ = w47; have n0_ : Aside0 (Kd.R (Kd.int .i64) 3 w47 w.heap.size (fun k_ => some k_ ≠ (u150001 : Value).ownBlock) (.slice (some ⟨go30, 0, none⟩) x150000_2.length co30) y154) := ⟨by rw [← hq_]; exact (Fix.uR HO_150000.out)⟩; have n1_ : Aside0 (Kd.R (Kd.int .i64) 3 w47 w.heap.size (fun k_ => some k_ ≠ (.slice (some ⟨go30, 0, none⟩) x150000_2.length co30 : Value).ownBlock) u150001 x150001_2) := ⟨by rw [← hq_]; exact (by (with_reducible repeat (first | apply Kd.R_alloc | apply Kd.R_drewN | apply Kd.R_drew)); exact Kd.R_mono HO_150001.out (fun _ hk => by first | exact hk | exact hk.2))⟩; have n2_ : Aside0 (w47.heap[gb140]? = some (.cells #[.slice none 0 0, .slice none 0 0] 92 (0, 0))) := ⟨by rw [← hq_]; exact (Fix.uK BK140.out)⟩; have n3_ : Aside0 (w47.heap[gb149]? = some (.cells #[.slice (some ⟨go30, 0, none⟩) x150000_2.length co30, u150001] 92 (0, 0))) := ⟨by rw [← hq_]; exact (Fix.uK BK149.out)⟩; have n4_ : Aside0 (Below w.heap.size w w47) := ⟨by rw [← hq_]; exact Fix.uB⟩; clear HO_150000 HO_150001 BK140 BK149 HB hq_; have HO_150000 := n0_; have HO_150001 := n1_; have BK140 := n2_; have BK149 := n3_; have HB := n4_; clear n0_ n1_ n2_ n3_ n4_))) | ((with_reducible refine gate_callee (f := 98) rfl ?_); refine goesL_ (some 56) rfl rfl Try.func98 (by kernel_rfl) rfl #[.int .i64 (wrap64 ((wrap64 ((wrap64 ((rd l0 x28_2) + (rd l1 x28_2))) + x7_2)) - 255)), .int .i64 16] rfl Fix.uA ?_; (with_reducible refine (impl_down.calls (wrap64 ((wrap64 ((wrap64 ((rd l0 x28_2) + (rd l1 x28_2))) + x7_2)) - 255)) 16 t157 _ A33.out).mono ?_); rintro e w' ⟨rfl, ⟨nd, rfl⟩⟩; refine ⟨_, rfl, ?_⟩; (try (rw [drewN_self w47]; generalize hq_ : World.drewN w47 _ = w47; have n0_ : Aside0 (Kd.R (Kd.int .i64) 3 w47 w.heap.size (fun k_ => some k_ ≠ (u150001 : Value).ownBlock) (.slice (some ⟨go30, 0, none⟩) x150000_2.length co30) y154) := ⟨by rw [← hq_]; exact (Fix.uR HO_150000.out)⟩; have n1_ : Aside0 (Kd.R (Kd.int .i64) 3 w47 w.heap.size (fun k_ => some k_ ≠ (.slice (some ⟨go30, 0, none⟩) x150000_2.length co30 : Value).ownBlock) u150001 x150001_2) := ⟨by rw [← hq_]; exact (by (with_reducible repeat (first | apply Kd.R_alloc | apply Kd.R_drewN | apply Kd.R_drew)); exact Kd.R_mono HO_150001.out (fun _ hk => by first | exact hk | exact hk.2))⟩; have n2_ : Aside0 (w47.heap[gb140]? = some (.cells #[.slice none 0 0, .slice none 0 0] 92 (0, 0))) := ⟨by rw [← hq_]; exact (Fix.uK BK140.out)⟩; have n3_ : Aside0 (w47.heap[gb149]? = some (.cells #[.slice (some ⟨go30, 0, none⟩) x150000_2.length co30, u150001] 92 (0, 0))) := ⟨by rw [← hq_]; exact (Fix.uK BK149.out)⟩; have n4_ : Aside0 (Below w.heap.size w w47) := ⟨by rw [← hq_]; exact Fix.uB⟩; clear HO_150000 HO_150001 BK140 BK149 HB hq_; have HO_150000 := n0_; have HO_150001 := n1_; have BK140 := n2_; have BK149 := n3_; have HB := n4_; clear n0_ n1_ n2_ n3_ n4_)); have hcz48_0 : w47.cell? ⟨gb149, 0, none⟩ = some (.slice (some ⟨go30, 0, none⟩) x150000_2.length co30) := (blk_cell BK149.out 0).trans rfl; have hcz48_1 : w47.cell? ⟨gb149, 1, none⟩ = some (u150001) := (blk_cell BK149.out 1).trans rfl; have hfz48_0 := blk_frozen BK149.out 0; have hfz48_1 := blk_frozen BK149.out 1; obtain ⟨Ao49, co49, eo49⟩ := Kd.R_slice HO_150001.out; subst eo49; have p158 : 0 ≤ ((ji34) : Int) := of_decide_eq_true (by first | (with_reducible assumption) | assumption); have q158 : (ji34) < (x150001_2.length : Int) := of_decide_eq_true (by first | (with_reducible assumption) | assumption); obtain ⟨ad158, e158, hx158_0⟩ := Kd.at_int (Kd.R_reads' HO_150001.out).2.2 (ji34) p158 q158; cases e158; replace p158 := eq_true p158; replace q158 := eq_true q158; have p37 : 0 ≤ ((ji34) : Int) := of_decide_eq_true (by first | (with_reducible assumption) | assumption); have q37 : ((ji34) : Int) < ((x150001_2.length : Int) : Int) := of_decide_eq_true (by first | (with_reducible assumption) | assumption); obtain ⟨go37, co37, eo37, gb37, gl37, cl37, HG37⟩ := Kd.R_form HO_150001.out (by omega); (first | cases eo37 | (injection eo37 with ea_ en_ ec_; (first | subst ea_ | (injection ea_ with ea_; subst ea_)); subst ec_; clear en_)); have GB37 := Aside0.mk gb37; have GG37 := Aside0.mk HG37; clear gb37 gl37 HG37; (first | simp only [add_plain] at hx158_0 | skip); obtain ⟨hx37_0, hf37_0⟩ := Kd.R_celln 0 HO_150001.out ((ji34) : Int) p37 q37; replace p37 := eq_true p37; replace q37 := eq_true q37; have n_ := Aside0.mk (Kd.R_mono (ok' := (fun k_ => some k_ ≠ (.slice (some ⟨go30, 0, none⟩) x150000_2.length co30 : Value).ownBlock)) HO_150001.out (fun k_ hk => by first | exact hk | exact hk.2)); clear HO_150001; have HO_150001 := n_; clear n_; obtain ⟨hy50_, hz50_⟩ := Kd.R_celln 0 HO_150001.out ((ji34) : Int) (of_decide_eq_true (by first | (with_reducible assumption) | assumption)) (of_decide_eq_true (by first | (with_reducible assumption) | assumption)); have HP50 := Kd.R_putg HO_150001.out ((ji34) : Int) (wrap64 ((rd x150001_2 (ji34)) + t155))) | ((with_reducible refine gate_store (t := 3) (p := 66) rfl ?_); refine store_event (t := 3) (p := 66) (v := ?vo_w51) (w1 := (w47.setCell ⟨go37, ((ji34) : Int).toNat, none⟩ (.int .i64 (wrap64 ((rd x150001_2 (ji34)) + t155))))) ?hg ?ho ?hn ?hr ?_; (case ho => rfl); (case hg => rfl); (case hn => rfl); (case hr => first | (go_simp; done) | (go_simp; rfl)); intro w51 hw; have hg : w47.grownBy w51 (some go37) := (by rw [hw]; exact HP50.2); have hp_ : Kd.R (Kd.int .i64) 3 w51 w.heap.size (fun k_ => some k_ ≠ (.slice (some ⟨go30, 0, none⟩) x150000_2.length co30 : Value).ownBlock) (.slice (some ⟨go37, 0, none⟩) x150001_2.length co49) y159 := (by rw [hw, Ny159.out]; exact HP50.1); clear HP50; have n0_ := Aside0.mk (Kd.R_after (v := (.slice (some ⟨go37, 0, none⟩) x150001_2.length co49)) (v1 := (.slice (some ⟨go37, 0, none⟩) x150001_2.length co49)) (ok := (fun _ => True)) (by (with_reducible repeat (first | apply Kd.R_alloc | apply Kd.R_drewN | apply Kd.R_drew)); exact Kd.R_mono HO_150000.out (fun _ hk => ⟨trivial, hk⟩)) hg (.inl rfl)); have n1_ := Aside0.mk (hp_); have n2_ := Aside0.mk (blk_grown (g := gb140) (o := .cells #[.slice none 0 0, .slice none 0 0] 92 (0, 0)) (Fix.uK BK140.out) hg (Kd.R_ne HO_150001.out BK140.out (by decide))); have n3_ := Aside0.mk (blk_grown (g := gb149) (o := .cells #[.slice (some ⟨go30, 0, none⟩) x150000_2.length co30, .slice (some ⟨go37, 0, none⟩) x150001_2.length co49] 92 (0, 0)) (Fix.uK BK149.out) hg (Kd.R_ne HO_150001.out BK149.out (by decide))); have n4_ := Aside0.mk ((by rw [hw]; exact below_set (HB.out) GB37.out : Below w.heap.size w w51)); clear HO_150000; clear HO_150001; clear BK140; clear BK149; clear HB; have HO_150000 := n0_; have HO_150001 := n1_; have BK140 := n2_; have BK149 := n3_; have HB := n4_; clear n0_ n1_ n2_ n3_ n4_; clear hg hw hp_; have hcz52_0 : w51.cell? ⟨gb149, 0, none⟩ = some (.slice (some ⟨go30, 0, none⟩) x150000_2.length co30) := (blk_cell BK149.out 0).trans rfl; have hcz52_1 : w51.cell? ⟨gb149, 1, none⟩ = some (.slice (some ⟨go37, 0, none⟩) x150001_2.length co49) := (blk_cell BK149.out 1).trans rfl; have hfz52_0 := blk_frozen BK149.out 0; have hfz52_1 := blk_frozen BK149.out 1; have p160 : 0 ≤ (x28_2 : Int) := of_decide_eq_true (by first | (with_reducible assumption) | assumption); have q160 : x28_2 < (y159.length : Int) := (by have h_ : (x28_2 : Int) < ((x150001_2.length : Int) : Int) := of_decide_eq_true (by first | (with_reducible assumption) | assumption); first | (have e_ := (Kd.R_reads' HO_150001.out).1; omega) | simpa only [Ny159.out, List.length_set] using h_); have ql160 : ((x28_2 : Int) < ((x150001_2.length : Int) : Int)) = True := eq_true (of_decide_eq_true (by first | (with_reducible assumption) | assumption)); obtain ⟨ad160, e160, hx160_0⟩ := Kd.at_int (Kd.R_reads' HO_150001.out).2.2 x28_2 p160 q160; obtain rfl : (⟨go37, 0, none⟩ : Addr) = ad160 := (by injection e160); (first | simp only [add_plain] at hx160_0 | simp only [add_at] at hx160_0 | simp only [Addr.add, Nat.zero_add] at hx160_0 | skip); replace p160 := eq_true p160; replace q160 := eq_true q160; have p39 : 0 ≤ (x28_2 : Int) := of_decide_eq_true (by first | (with_reducible assumption) | assumption); have q39 : (x28_2 : Int) < ((x150001_2.length : Int) : Int) := of_decide_eq_true (by first | (with_reducible assumption) | assumption); obtain ⟨hx39_0, hf39_0⟩ := Kd.R_celln 0 HO_150001.out (x28_2 : Int) p39 q39; replace p39 := eq_true p39; replace q39 := eq_true q39; obtain ⟨hy53_, hz53_⟩ := Kd.R_celln 0 HO_150001.out (x28_2 : Int) (of_decide_eq_true (by first | (with_reducible assumption) | assumption)) (of_decide_eq_true (by first | (with_reducible assumption) | assumption)); have HP53 := Kd.R_putg HO_150001.out (x28_2 : Int) (wrap64 ((rd y159 x28_2) + t156))) | ((with_reducible refine gate_store (t := 3) (p := 74) rfl ?_); refine store_event (t := 3) (p := 74) (v := ?vo_w54) (w1 := (w51.setCell ⟨go37, (x28_2 : Int).toNat, none⟩ (.int .i64 (wrap64 ((rd y159 x28_2) + t156))))) ?hg ?ho ?hn ?hr ?_; (case ho => rfl); (case hg => rfl); (case hn => rfl); (case hr => first | (go_simp; done) | (go_simp; rfl)); intro w54 hw; have hg : w51.grownBy w54 (some go37) := (by rw [hw]; exact HP53.2); have hp_ : Kd.R (Kd.int .i64) 3 w54 w.heap.size (fun k_ => some k_ ≠ (.slice (some ⟨go30, 0, none⟩) x150000_2.length co30 : Value).ownBlock) (.slice (some ⟨go37, 0, none⟩) x150001_2.length co49) y161 := (by rw [hw, Ny161.out]; exact HP53.1); clear HP53; have n0_ := Aside0.mk (Kd.R_after (v := (.slice (some ⟨go37, 0, none⟩) x150001_2.length co49)) (v1 := (.slice (some ⟨go37, 0, none⟩) x150001_2.length co49)) (ok := (fun _ => True)) (Fix.uR HO_150000.out) hg (.inl rfl)); have n1_ := Aside0.mk (hp_); have n2_ := Aside0.mk (blk_grown (g := gb140) (o := .cells #[.slice none 0 0, .slice none 0 0] 92 (0, 0)) (Fix.uK BK140.out) hg (Kd.R_ne HO_150001.out BK140.out (by decide))); have n3_ := Aside0.mk (blk_grown (g := gb149) (o := .cells #[.slice (some ⟨go30, 0, none⟩) x150000_2.length co30, .slice (some ⟨go37, 0, none⟩) x150001_2.length co49] 92 (0, 0)) (Fix.uK BK149.out) hg (Kd.R_ne HO_150001.out BK149.out (by decide))); have n4_ := Aside0.mk ((by rw [hw]; exact below_set (HB.out) GB37.out : Below w.heap.size w w54)); clear HO_150000; clear HO_150001; clear BK140; clear BK149; clear HB; have HO_150000 := n0_; have HO_150001 := n1_; have BK140 := n2_; have BK149 := n3_; have HB := n4_; clear n0_ n1_ n2_ n3_ n4_; clear hg hw hp_; have hcz55_0 : w54.cell? ⟨gb149, 0, none⟩ = some (.slice (some ⟨go30, 0, none⟩) x150000_2.length co30) := (blk_cell BK149.out 0).trans rfl; have hcz55_1 : w54.cell? ⟨gb149, 1, none⟩ = some (.slice (some ⟨go37, 0, none⟩) x150001_2.length co49) := (blk_cell BK149.out 1).trans rfl; have hfz55_0 := blk_frozen BK149.out 0; have hfz55_1 := blk_frozen BK149.out 1; have p162 : 0 ≤ ((ji40) : Int) := of_decide_eq_true (by first | (with_reducible assumption) | assumption); have q162 : (ji40) < (y161.length : Int) := (by have h_ : ((ji40) : Int) < ((x150001_2.length : Int) : Int) := of_decide_eq_true (by first | (with_reducible assumption) | assumption); first | (have e_ := (Kd.R_reads' HO_150001.out).1; omega) | simpa only [Ny159.out, Ny161.out, List.length_set] using h_); have ql162 : (((ji40) : Int) < ((x150001_2.length : Int) : Int)) = True := eq_true (of_decide_eq_true (by first | (with_reducible assumption) | assumption)); obtain ⟨ad162, e162, hx162_0⟩ := Kd.at_int (Kd.R_reads' HO_150001.out).2.2 (ji40) p162 q162; obtain rfl : (⟨go37, 0, none⟩ : Addr) = ad162 := (by injection e162); (first | simp only [add_plain] at hx162_0 | simp only [add_at] at hx162_0 | simp only [Addr.add, Nat.zero_add] at hx162_0 | skip); replace p162 := eq_true p162; replace q162 := eq_true q162; have p43 : 0 ≤ ((ji40) : Int) := of_decide_eq_true (by first | (with_reducible assumption) | assumption); have q43 : ((ji40) : Int) < ((x150001_2.length : Int) : Int) := of_decide_eq_true (by first | (with_reducible assumption) | assumption); obtain ⟨hx43_0, hf43_0⟩ := Kd.R_celln 0 HO_150001.out ((ji40) : Int) p43 q43; replace p43 := eq_true p43; replace q43 := eq_true q43; obtain ⟨hy56_, hz56_⟩ := Kd.R_celln 0 HO_150001.out ((ji40) : Int) (of_decide_eq_true (by first | (with_reducible assumption) | assumption)) (of_decide_eq_true (by first | (with_reducible assumption) | assumption)); have HP56 := Kd.R_putg HO_150001.out ((ji40) : Int) (wrap64 ((rd y161 (ji40)) + t157))) | ((with_reducible refine gate_store (t := 3) (p := 84) rfl ?_); refine store_event (t := 3) (p := 84) (v := ?vo_w57) (w1 := (w54.setCell ⟨go37, ((ji40) : Int).toNat, none⟩ (.int .i64 (wrap64 ((rd y161 (ji40)) + t157))))) ?hg ?ho ?hn ?hr ?_; (case ho => rfl); (case hg => rfl); (case hn => rfl); (case hr => first | (go_simp; done) | (go_simp; rfl)); intro w57 hw; have hg : w54.grownBy w57 (some go37) := (by rw [hw]; exact HP56.2); have hp_ : Kd.R (Kd.int .i64) 3 w57 w.heap.size (fun k_ => some k_ ≠ (.slice (some ⟨go30, 0, none⟩) x150000_2.length co30 : Value).ownBlock) (.slice (some ⟨go37, 0, none⟩) x150001_2.length co49) y163 := (by rw [hw, Ny163.out]; exact HP56.1); clear HP56; have n0_ := Aside0.mk (Kd.R_after (v := (.slice (some ⟨go37, 0, none⟩) x150001_2.length co49)) (v1 := (.slice (some ⟨go37, 0, none⟩) x150001_2.length co49)) (ok := (fun _ => True)) (Fix.uR HO_150000.out) hg (.inl rfl)); have n1_ := Aside0.mk (hp_); have n2_ := Aside0.mk (blk_grown (g := gb140) (o := .cells #[.slice none 0 0, .slice none 0 0] 92 (0, 0)) (Fix.uK BK140.out) hg (Kd.R_ne HO_150001.out BK140.out (by decide))); have n3_ := Aside0.mk (blk_grown (g := gb149) (o := .cells #[.slice (some ⟨go30, 0, none⟩) x150000_2.length co30, .slice (some ⟨go37, 0, none⟩) x150001_2.length co49] 92 (0, 0)) (Fix.uK BK149.out) hg (Kd.R_ne HO_150001.out BK149.out (by decide))); have n4_ := Aside0.mk ((by rw [hw]; exact below_set (HB.out) GB37.out : Below w.heap.size w w57)); clear HO_150000; clear HO_150001; clear BK140; clear BK149; clear HB; have HO_150000 := n0_; have HO_150001 := n1_; have BK140 := n2_; have BK149 := n3_; have HB := n4_; clear n0_ n1_ n2_ n3_ n4_; clear hg hw hp_))
                                    go_roundg k2
                                    case measure => have := HJ2.out; have := HK2.out; omega
                                    case rel => exact ⟨(wrap64 ((wrap64 ((wrap64 ((wrap64 ((wrap64 ((wrap64 ((rd l0 x28_2) + (rd l1 x28_2))) + x7_2)) - 255)) - t155)) - t156)) - t157)), (wrap64 (x28_2 + 1)), (y154), (y163), (.slice (some ⟨go30, 0, none⟩) x150000_2.length co30), (.slice (some ⟨go37, 0, none⟩) x150001_2.length co49), (by first | rfl | (simp; done) | (simp [*]; done)), (by first | rfl | (simp; done) | (simp [*]; done)), H', ⟨by have := HJ2.out; have := HK2.out; omega⟩, ⟨by (with_reducible repeat (first | apply Kd.R_alloc | apply Kd.R_drewN | apply Kd.R_drew)); exact Kd.R_mono HO_150000.out (fun _ hk => by first | exact hk | exact hk.2)⟩, ⟨by (with_reducible repeat (first | apply Kd.R_alloc | apply Kd.R_drewN | apply Kd.R_drew)); exact HO_150001.out⟩, ⟨by (with_reducible repeat (first | refine Fix.kN ?_ _ | refine Fix.kD ?_ | refine Fix.kA ?_ _)); exact BK140.out⟩, ⟨by (with_reducible repeat (first | refine Fix.kN ?_ _ | refine Fix.kD ?_ | refine Fix.kA ?_ _)); exact BK149.out⟩, ⟨Fix.uB⟩⟩
                                  · rw [if_neg c42] at H
                                    exact absurd H (by simp)
                                · rw [if_neg c41] at H
                                  exact absurd H (by simp)
                              · rw [if_neg c38] at H
                                exact absurd H (by simp)
                            · rw [if_neg c36] at H
                              exact absurd H (by simp)
                          · rw [if_neg c35] at H
                            exact absurd H (by simp)
                        · rw [if_neg c29] at H
                          exact absurd H (by simp)
                      · rw [if_neg c28] at H
                        have c28b0 : decide (128 ≤ (wrap64 ((wrap64 ((rd l0 x28_2) + (rd l1 x28_2))) + x7_2))) = false := decide_eq_false c28
                        clear c28
                        replace H := Option.bind_eq_some_iff.mp H
                        obtain ⟨t164, A580, H⟩ := H
                        replace H : ((impl_down.f (wrap64 (5 * (wrap64 ((wrap64 ((rd l0 x28_2) + (rd l1 x28_2))) + x7_2)))) 16).bind fun t165 => ((impl_down.f (wrap64 ((wrap64 ((rd l0 x28_2) + (rd l1 x28_2))) + x7_2)) 16).bind fun t166 => (if 0 ≤ (mx 0 (wrap64 (x28_2 - 1))) then (if (mx 0 (wrap64 (x28_2 - 1))) < (x150001_2.length : Int) then ((some (x150001_2.set ((mx 0 (wrap64 (x28_2 - 1))) : Int).toNat (wrap64 ((rd x150001_2 (mx 0 (wrap64 (x28_2 - 1)))) + t164)) : List Int)).bind fun y168 => (if x28_2 < (x150001_2.length : Int) then ((some (y168.set (x28_2 : Int).toNat (wrap64 ((rd y168 x28_2) + t165)) : List Int)).bind fun y170 => (if 0 ≤ (mn 31 (wrap64 (x28_2 + 1))) then (if (mn 31 (wrap64 (x28_2 + 1))) < (x150001_2.length : Int) then (impl_DiffuseRow.l0 k2 l1 (wrap64 ((wrap64 ((wrap64 ((wrap64 ((wrap64 ((rd l0 x28_2) + (rd l1 x28_2))) + x7_2)) - t164)) - t165)) - t166)) l0 (l0.length : Int) (wrap64 (x28_2 + 1)) x150000_2 (y170.set ((mn 31 (wrap64 (x28_2 + 1))) : Int).toNat (wrap64 ((rd y170 (mn 31 (wrap64 (x28_2 + 1)))) + t166)))) else (none)) else (none))) else (none))) else (none)) else (none)))) = some (r1, r2, r3) := H
                        have A58 := Aside0.mk A580
                        clear A580
                        replace H := Option.bind_eq_some_iff.mp H
                        obtain ⟨t165, A590, H⟩ := H
                        replace H : ((impl_down.f (wrap64 ((wrap64 ((rd l0 x28_2) + (rd l1 x28_2))) + x7_2)) 16).bind fun t166 => (if 0 ≤ (mx 0 (wrap64 (x28_2 - 1))) then (if (mx 0 (wrap64 (x28_2 - 1))) < (x150001_2.length : Int) then ((some (x150001_2.set ((mx 0 (wrap64 (x28_2 - 1))) : Int).toNat (wrap64 ((rd x150001_2 (mx 0 (wrap64 (x28_2 - 1)))) + t164)) : List Int)).bind fun y168 => (if x28_2 < (x150001_2.length : Int) then ((some (y168.set (x28_2 : Int).toNat (wrap64 ((rd y168 x28_2) + t165)) : List Int)).bind fun y170 => (if 0 ≤ (mn 31 (wrap64 (x28_2 + 1))) then (if (mn 31 (wrap64 (x28_2 + 1))) < (x150001_2.length : Int) then (impl_DiffuseRow.l0 k2 l1 (wrap64 ((wrap64 ((wrap64 ((wrap64 ((wrap64 ((rd l0 x28_2) + (rd l1 x28_2))) + x7_2)) - t164)) - t165)) - t166)) l0 (l0.length : Int) (wrap64 (x28_2 + 1)) x150000_2 (y170.set ((mn 31 (wrap64 (x28_2 + 1))) : Int).toNat (wrap64 ((rd y170 (mn 31 (wrap64 (x28_2 + 1)))) + t166)))) else (none)) else (none))) else (none))) else (none)) else (none))) = some (r1, r2, r3) := H
                        have A59 := Aside0.mk A590
                        clear A590
                        replace H := Option.bind_eq_some_iff.mp H
                        obtain ⟨t166, A600, H⟩ := H
                        replace H : (if 0 ≤ (mx 0 (wrap64 (x28_2 - 1))) then (if (mx 0 (wrap64 (x28_2 - 1))) < (x150001_2.length : Int) then ((some (x150001_2.set ((mx 0 (wrap64 (x28_2 - 1))) : Int).toNat (wrap64 ((rd x150001_2 (mx 0 (wrap64 (x28_2 - 1)))) + t164)) : List Int)).bind fun y168 => (if x28_2 < (x150001_2.length : Int) then ((some (y168.set (x28_2 : Int).toNat (wrap64 ((rd y168 x28_2) + t165)) : List Int)).bind fun y170 => (if 0 ≤ (mn 31 (wrap64 (x28_2 + 1))) then (if (mn 31 (wrap64 (x28_2 + 1))) < (x150001_2.length : Int) then (impl_DiffuseRow.l0 k2 l1 (wrap64 ((wrap64 ((wrap64 ((wrap64 ((wrap64 ((rd l0 x28_2) + (rd l1 x28_2))) + x7_2)) - t164)) - t165)) - t166)) l0 (l0.length : Int) (wrap64 (x28_2 + 1)) x150000_2 (y170.set ((mn 31 (wrap64 (x28_2 + 1))) : Int).toNat (wrap64 ((rd y170 (mn 31 (wrap64 (x28_2 + 1)))) + t166)))) else (none)) else (none))) else (none))) else (none)) else (none)) = some (r1, r2, r3) := H
                        have A60 := Aside0.mk A600
                        clear A600
                        obtain ⟨ji61, hji61⟩ : ∃ j_ : Int, (mx 0 (wrap64 (x28_2 - 1))) = j_ := ⟨_, rfl⟩
                        replace H : (if 0 ≤ (ji61) then (if (ji61) < (x150001_2.length : Int) then ((some (x150001_2.set ((ji61) : Int).toNat (wrap64 ((rd x150001_2 (ji61)) + t164)) : List Int)).bind fun y168 => (if x28_2 < (x150001_2.length : Int) then ((some (y168.set (x28_2 : Int).toNat (wrap64 ((rd y168 x28_2) + t165)) : List Int)).bind fun y170 => (if 0 ≤ (mn 31 (wrap64 (x28_2 + 1))) then (if (mn 31 (wrap64 (x28_2 + 1))) < (x150001_2.length : Int) then (impl_DiffuseRow.l0 k2 l1 (wrap64 ((wrap64 ((wrap64 ((wrap64 ((wrap64 ((rd l0 x28_2) + (rd l1 x28_2))) + x7_2)) - t164)) - t165)) - t166)) l0 (l0.length : Int) (wrap64 (x28_2 + 1)) x150000_2 (y170.set ((mn 31 (wrap64 (x28_2 + 1))) : Int).toNat (wrap64 ((rd y170 (mn 31 (wrap64 (x28_2 + 1)))) + t166)))) else (none)) else (none))) else (none))) else (none)) else (none)) = some (r1, r2, r3) := by first | (rw [hji61] at H; exact H) | (simp only [hji61] at H ⊢; exact H)
                        (try rw [hji61] at A58)
                        (try rw [hji61] at A59)
                        (try rw [hji61] at A60)
                        have hji61_ : (if 0 < (wrap64 (x28_2 - 1)) then (wrap64 (x28_2 - 1)) else 0) = ji61 := hji61
                        by_cases c62 : 0 ≤ (ji61)
                        · rw [if_pos c62] at H
                          have c62b0 : decide (0 ≤ (ji61)) = true := decide_eq_true c62
                          clear c62
                          by_cases c63 : (ji61) < (x150001_2.length : Int)
                          · rw [if_pos c63] at H
                            have c63b0 : decide ((ji61) < (x150001_2.length : Int)) = true := decide_eq_true c63
                            clear c63
                            obtain ⟨y168, hy168⟩ : ∃ y_ : List Int, y_ = (x150001_2.set ((ji61) : Int).toNat (wrap64 ((rd x150001_2 (ji61)) + t164))) := ⟨_, rfl⟩
                            replace H : (if x28_2 < (x150001_2.length : Int) then ((some (y168.set (x28_2 : Int).toNat (wrap64 ((rd y168 x28_2) + t165)) : List Int)).bind fun y170 => (if 0 ≤ (mn 31 (wrap64 (x28_2 + 1))) then (if (mn 31 (wrap64 (x28_2 + 1))) < (x150001_2.length : Int) then (impl_DiffuseRow.l0 k2 l1 (wrap64 ((wrap64 ((wrap64 ((wrap64 ((wrap64 ((rd l0 x28_2) + (rd l1 x28_2))) + x7_2)) - t164)) - t165)) - t166)) l0 (l0.length : Int) (wrap64 (x28_2 + 1)) x150000_2 (y170.set ((mn 31 (wrap64 (x28_2 + 1))) : Int).toNat (wrap64 ((rd y170 (mn 31 (wrap64 (x28_2 + 1)))) + t166)))) else (none)) else (none))) else (none)) = some (r1, r2, r3) := by first | (rw [hy168]; with_reducible exact H) | (have H2_ := (Option.bind_some _ _).symm.trans H; rw [hy168]; with_reducible exact H2_) | (have H2_ := (Option.bind_some _ _).symm.trans H; with_reducible exact H2_) | with_reducible exact H | (rw [hy168]; exact H) | exact H
                            have Ny168 := Aside0.mk hy168
                            clear hy168
                            by_cases c65 : x28_2 < (x150001_2.length : Int)
                            · rw [if_pos c65] at H
                              have c65b0 : decide (x28_2 < (x150001_2.length : Int)) = true := decide_eq_true c65
                              clear c65
                              obtain ⟨y170, hy170⟩ : ∃ y_ : List Int, y_ = (y168.set (x28_2 : Int).toNat (wrap64 ((rd y168 x28_2) + t165))) := ⟨_, rfl⟩
                              replace H : (if 0 ≤ (mn 31 (wrap64 (x28_2 + 1))) then (if (mn 31 (wrap64 (x28_2 + 1))) < (x150001_2.length : Int) then (impl_DiffuseRow.l0 k2 l1 (wrap64 ((wrap64 ((wrap64 ((wrap64 ((wrap64 ((rd l0 x28_2) + (rd l1 x28_2))) + x7_2)) - t164)) - t165)) - t166)) l0 (l0.length : Int) (wrap64 (x28_2 + 1)) x150000_2 (y170.set ((mn 31 (wrap64 (x28_2 + 1))) : Int).toNat (wrap64 ((rd y170 (mn 31 (wrap64 (x28_2 + 1)))) + t166)))) else (none)) else (none)) = some (r1, r2, r3) := by first | (rw [hy170]; with_reducible exact H) | (have H2_ := (Option.bind_some _ _).symm.trans H; rw [hy170]; with_reducible exact H2_) | (have H2_ := (Option.bind_some _ _).symm.trans H; with_reducible exact H2_) | with_reducible exact H | (rw [hy170]; exact H) | exact H
                              have Ny170 := Aside0.mk hy170
                              clear hy170
                              obtain ⟨ji67, hji67⟩ : ∃ j_ : Int, (mn 31 (wrap64 (x28_2 + 1))) = j_ := ⟨_, rfl⟩
                              replace H : (if 0 ≤ (ji67) then (if (ji67) < (x150001_2.length : Int) then (impl_DiffuseRow.l0 k2 l1 (wrap64 ((wrap64 ((wrap64 ((wrap64 ((wrap64 ((rd l0 x28_2) + (rd l1 x28_2))) + x7_2)) - t164)) - t165)) - t166)) l0 (l0.length : Int) (wrap64 (x28_2 + 1)) x150000_2 (y170.set ((ji67) : Int).toNat (wrap64 ((rd y170 (ji67)) + t166)))) else (none)) else (none)) = some (r1, r2, r3) := by first | (rw [hji67] at H; exact H) | (simp only [hji67] at H ⊢; exact H)
                              (try rw [hji67] at A58)
                              (try rw [hji67] at A59)
                              (try rw [hji67] at A60)
                              have hji67_ : (if (wrap64 (x28_2 + 1)) < 31 then (wrap64 (x28_2 + 1)) else 31) = ji67 := hji67
                              by_cases c68 : 0 ≤ (ji67)
                              · rw [if_pos c68] at H
                                have c68b0 : decide (0 ≤ (ji67)) = true := decide_eq_true c68
                                clear c68
                                by_cases c69 : (ji67) < (x150001_2.length : Int)
                                · rw [if_pos c69] at H
                                  have c69b0 : decide ((ji67) < (x150001_2.length : Int)) = true := decide_eq_true c69
                                  clear c69
                                  obtain ⟨y172, hy172⟩ : ∃ y_ : List Int, y_ = (y170.set ((ji67) : Int).toNat (wrap64 ((rd y170 (ji67)) + t166))) := ⟨_, rfl⟩
                                  replace H : (impl_DiffuseRow.l0 k2 l1 (wrap64 ((wrap64 ((wrap64 ((wrap64 ((wrap64 ((rd l0 x28_2) + (rd l1 x28_2))) + x7_2)) - t164)) - t165)) - t166)) l0 (l0.length : Int) (wrap64 (x28_2 + 1)) x150000_2 y172) = some (r1, r2, r3) := by first | (rw [hy172]; with_reducible exact H) | (have H2_ := (Option.bind_some _ _).symm.trans H; rw [hy172]; with_reducible exact H2_) | (have H2_ := (Option.bind_some _ _).symm.trans H; with_reducible exact H2_) | with_reducible exact H | (rw [hy172]; exact H) | exact H
                                  have Ny172 := Aside0.mk hy172
                                  clear hy172
                                  have H' := Aside0.mk H
                                  clear H
                                  have p152 : 0 ≤ (x28_2 : Int) := of_decide_eq_true (by first | (with_reducible assumption) | assumption)
                                  have q152 : x28_2 < (l0.length : Int) := of_decide_eq_true (by first | (with_reducible assumption) | assumption)
                                  obtain ⟨ad152, e152, hx152_0⟩ := Kd.at_int HR0.out x28_2 p152 q152
                                  cases e152
                                  replace hx152_0 := (HB.out.cell (World.block_lt_of_cell? w _ hx152_0)).trans hx152_0
                                  replace p152 := eq_true p152
                                  replace q152 := eq_true q152
                                  have p153 : 0 ≤ (x28_2 : Int) := of_decide_eq_true (by first | (with_reducible assumption) | assumption)
                                  have q153 : x28_2 < (l1.length : Int) := of_decide_eq_true (by first | (with_reducible assumption) | assumption)
                                  obtain ⟨ad153, e153, hx153_0⟩ := Kd.at_int HR1.out x28_2 p153 q153
                                  cases e153
                                  replace hx153_0 := (HB.out.cell (World.block_lt_of_cell? w _ hx153_0)).trans hx153_0
                                  replace p153 := eq_true p153
                                  replace q153 := eq_true q153
                                  go_wp2_with (first | ((with_reducible refine gate_callee (f := 98) rfl ?_); refine goesL_ (some 51) rfl rfl Try.func98 (by kernel_rfl) rfl #[.int .i64 (wrap64 (3 * (wrap64 ((wrap64 ((rd l0 x28_2) + (rd l1 x28_2))) + x7_2)))), .int .i64 16] rfl Fix.uA ?_; (with_reducible refine (impl_down.calls (wrap64 (3 * (wrap64 ((wrap64 ((rd l0 x28_2) + (rd l1 x28_2))) + x7_2)))) 16 t164 _ A58.out).mono ?_); rintro e w' ⟨rfl, ⟨nd, rfl⟩⟩; refine ⟨_, rfl, ?_⟩; (try (rw [drewN_self wr]; generalize hq_ : World.drewN wr _ = wr; have n0_ : Aside0 (Kd.R (Kd.int .i64) 3 wr w.heap.size (fun k_ => some k_ ≠ (u150001 : Value).ownBlock) u150000 x150000_2) := ⟨by rw [← hq_]; exact (Fix.uR HO_150000.out)⟩; have n1_ : Aside0 (Kd.R (Kd.int .i64) 3 wr w.heap.size (fun k_ => some k_ ≠ (u150000 : Value).ownBlock) u150001 x150001_2) := ⟨by rw [← hq_]; exact (Fix.uR HO_150001.out)⟩; have n2_ : Aside0 (wr.heap[gb140]? = some (.cells #[.slice none 0 0, .slice none 0 0] 92 (0, 0))) := ⟨by rw [← hq_]; exact (Fix.uK BK140.out)⟩; have n3_ : Aside0 (wr.heap[gb149]? = some (.cells #[u150000, u150001] 92 (0, 0))) := ⟨by rw [← hq_]; exact (Fix.uK BK149.out)⟩; have n4_ : Aside0 (Below w.heap.size w wr) := ⟨by rw [← hq_]; exact Fix.uB⟩; clear HO_150000 HO_150001 BK140 BK149 HB hq_; have HO_150000 := n0_; have HO_150001 := n1_; have BK140 := n2_; have BK149 := n3_; have HB := n4_; clear n0_ n1_ n2_ n3_ n4_))) | ((with_reducible refine gate_callee (f := 98) rfl ?_); refine goesL_ (some 54) rfl rfl Try.func98 (by kernel_rfl) rfl #[.int .i64 (wrap64 (5 * (wrap64 ((wrap64 ((rd l0 x28_2) + (rd l1 x28_2))) + x7_2)))), .int .i64 16] rfl Fix.uA ?_; (with_reducible refine (impl_down.calls (wrap64 (5 * (wrap64 ((wrap64 ((rd l0 x28_2) + (rd l1 x28_2))) + x7_2)))) 16 t165 _ A59.out).mono ?_); rintro e w' ⟨rfl, ⟨nd, rfl⟩⟩; refine ⟨_, rfl, ?_⟩; (try (rw [drewN_self wr]; generalize hq_ : World.drewN wr _ = wr; have n0_ : Aside0 (Kd.R (Kd.int .i64) 3 wr w.heap.size (fun k_ => some k_ ≠ (u150001 : Value).ownBlock) u150000 x150000_2) := ⟨by rw [← hq_]; exact (Fix.uR HO_150000.out)⟩; have n1_ : Aside0 (Kd.R (Kd.int .i64) 3 wr w.heap.size (fun k_ => some k_ ≠ (u150000 : Value).ownBlock) u150001 x150001_2) := ⟨by rw [← hq_]; exact (Fix.uR HO_150001.out)⟩; have n2_ : Aside0 (wr.heap[gb140]? = some (.cells #[.slice none 0 0, .slice none 0 0] 92 (0, 0))) := ⟨by rw [← hq_]; exact (Fix.uK BK140.out)⟩; have n3_ : Aside0 (wr.heap[gb149]? = some (.cells #[u150000, u150001] 92 (0, 0))) := ⟨by rw [← hq_]; exact (Fix.uK BK149.out)⟩; have n4_ : Aside0 (Below w.heap.size w wr) := ⟨by rw [← hq_]; exact Fix.uB⟩; clear HO_150000 HO_150001 BK140 BK149 HB hq_; have HO_150000 := n0_; have HO_150001 := n1_; have BK140 := n2_; have BK149 := n3_; have HB := n4_; clear n0_ n1_ n2_ n3_ n4_))) | ((with_reducible refine gate_callee (f := 98) rfl ?_); refine goesL_ (some 56) rfl rfl Try.func98 (by kernel_rfl) rfl #[.int .i64 (wrap64 ((wrap64 ((rd l0 x28_2) + (rd l1 x28_2))) + x7_2)), .int .i64 16] rfl Fix.uA ?_; (with_reducible refine (impl_down.calls (wrap64 ((wrap64 ((rd l0 x28_2) + (rd l1 x28_2))) + x7_2)) 16 t166 _ A60.out).mono ?_); rintro e w' ⟨rfl, ⟨nd, rfl⟩⟩; refine ⟨_, rfl, ?_⟩; (try (rw [drewN_self wr]; generalize hq_ : World.drewN wr _ = wr; have n0_ : Aside0 (Kd.R (Kd.int .i64) 3 wr w.heap.size (fun k_ => some k_ ≠ (u150001 : Value).ownBlock) u150000 x150000_2) := ⟨by rw [← hq_]; exact (Fix.uR HO_150000.out)⟩; have n1_ : Aside0 (Kd.R (Kd.int .i64) 3 wr w.heap.size (fun k_ => some k_ ≠ (u150000 : Value).ownBlock) u150001 x150001_2) := ⟨by rw [← hq_]; exact (Fix.uR HO_150001.out)⟩; have n2_ : Aside0 (wr.heap[gb140]? = some (.cells #[.slice none 0 0, .slice none 0 0] 92 (0, 0))) := ⟨by rw [← hq_]; exact (Fix.uK BK140.out)⟩; have n3_ : Aside0 (wr.heap[gb149]? = some (.cells #[u150000, u150001] 92 (0, 0))) := ⟨by rw [← hq_]; exact (Fix.uK BK149.out)⟩; have n4_ : Aside0 (Below w.heap.size w wr) := ⟨by rw [← hq_]; exact Fix.uB⟩; clear HO_150000 HO_150001 BK140 BK149 HB hq_; have HO_150000 := n0_; have HO_150001 := n1_; have BK140 := n2_; have BK149 := n3_; have HB := n4_; clear n0_ n1_ n2_ n3_ n4_)); have hnb71 := NB149_140.out; have hnc71 := NB140_149.out; have hcz72_0 : wr.cell? ⟨gb149, 0, none⟩ = some (u150000) := (blk_cell BK149.out 0).trans rfl; have hcz72_1 : wr.cell? ⟨gb149, 1, none⟩ = some (u150001) := (blk_cell BK149.out 1).trans rfl; have hfz72_0 := blk_frozen BK149.out 0; have hfz72_1 := blk_frozen BK149.out 1; obtain ⟨Ao73, co73, eo73⟩ := Kd.R_slice HO_150001.out; subst eo73; have p167 : 0 ≤ ((ji61) : Int) := of_decide_eq_true (by first | (with_reducible assumption) | assumption); have q167 : (ji61) < (x150001_2.length : Int) := of_decide_eq_true (by first | (with_reducible assumption) | assumption); obtain ⟨ad167, e167, hx167_0⟩ := Kd.at_int (Kd.R_reads' HO_150001.out).2.2 (ji61) p167 q167; cases e167; replace p167 := eq_true p167; replace q167 := eq_true q167; have p64 : 0 ≤ ((ji61) : Int) := of_decide_eq_true (by first | (with_reducible assumption) | assumption); have q64 : ((ji61) : Int) < ((x150001_2.length : Int) : Int) := of_decide_eq_true (by first | (with_reducible assumption) | assumption); obtain ⟨go64, co64, eo64, gb64, gl64, cl64, HG64⟩ := Kd.R_form HO_150001.out (by omega); (first | cases eo64 | (injection eo64 with ea_ en_ ec_; (first | subst ea_ | (injection ea_ with ea_; subst ea_)); subst ec_; clear en_)); have GB64 := Aside0.mk gb64; have GG64 := Aside0.mk HG64; clear gb64 gl64 HG64; (first | simp only [add_plain] at hx167_0 | skip); obtain ⟨hx64_0, hf64_0⟩ := Kd.R_celln 0 HO_150001.out ((ji61) : Int) p64 q64; replace p64 := eq_true p64; replace q64 := eq_true q64; obtain ⟨hy74_, hz74_⟩ := Kd.R_celln 0 HO_150001.out ((ji61) : Int) (of_decide_eq_true (by first | (with_reducible assumption) | assumption)) (of_decide_eq_true (by first | (with_reducible assumption) | assumption)); have HP74 := Kd.R_putg HO_150001.out ((ji61) : Int) (wrap64 ((rd x150001_2 (ji61)) + t164))) | ((with_reducible refine gate_store (t := 3) (p := 66) rfl ?_); refine store_event (t := 3) (p := 66) (v := ?vo_w75) (w1 := (wr.setCell ⟨go64, ((ji61) : Int).toNat, none⟩ (.int .i64 (wrap64 ((rd x150001_2 (ji61)) + t164))))) ?hg ?ho ?hn ?hr ?_; (case ho => rfl); (case hg => rfl); (case hn => rfl); (case hr => first | (go_simp; done) | (go_simp; rfl)); intro w75 hw; have hg : wr.grownBy w75 (some go64) := (by rw [hw]; exact HP74.2); have hp_ : Kd.R (Kd.int .i64) 3 w75 w.heap.size (fun k_ => some k_ ≠ (u150000 : Value).ownBlock) (.slice (some ⟨go64, 0, none⟩) x150001_2.length co73) y168 := (by rw [hw, Ny168.out]; exact HP74.1); clear HP74; have n0_ := Aside0.mk (Kd.R_after (v := (.slice (some ⟨go64, 0, none⟩) x150001_2.length co73)) (v1 := (.slice (some ⟨go64, 0, none⟩) x150001_2.length co73)) (ok := (fun _ => True)) (by (with_reducible repeat (first | apply Kd.R_alloc | apply Kd.R_drewN | apply Kd.R_drew)); exact Kd.R_mono HO_150000.out (fun _ hk => ⟨trivial, hk⟩)) hg (.inl rfl)); have n1_ := Aside0.mk (hp_); have n2_ := Aside0.mk (blk_grown (g := gb140) (o := .cells #[.slice none 0 0, .slice none 0 0] 92 (0, 0)) (Fix.uK BK140.out) hg (Kd.R_ne HO_150001.out BK140.out (by decide))); have n3_ := Aside0.mk (blk_grown (g := gb149) (o := .cells #[u150000, .slice (some ⟨go64, 0, none⟩) x150001_2.length co73] 92 (0, 0)) (Fix.uK BK149.out) hg (Kd.R_ne HO_150001.out BK149.out (by decide))); have n4_ := Aside0.mk ((by rw [hw]; exact below_set (HB.out) GB64.out : Below w.heap.size w w75)); clear HO_150000; clear HO_150001; clear BK140; clear BK149; clear HB; have HO_150000 := n0_; have HO_150001 := n1_; have BK140 := n2_; have BK149 := n3_; have HB := n4_; clear n0_ n1_ n2_ n3_ n4_; clear hg hw hp_; have hcz76_0 : w75.cell? ⟨gb149, 0, none⟩ = some (u150000) := (blk_cell BK149.out 0).trans rfl; have hcz76_1 : w75.cell? ⟨gb149, 1, none⟩ = some (.slice (some ⟨go64, 0, none⟩) x150001_2.length co73) := (blk_cell BK149.out 1).trans rfl; have hfz76_0 := blk_frozen BK149.out 0; have hfz76_1 := blk_frozen BK149.out 1; have p169 : 0 ≤ (x28_2 : Int) := of_decide_eq_true (by first | (with_reducible assumption) | assumption); have q169 : x28_2 < (y168.length : Int) := (by have h_ : (x28_2 : Int) < ((x150001_2.length : Int) : Int) := of_decide_eq_true (by first | (with_reducible assumption) | assumption); first | (have e_ := (Kd.R_reads' HO_150001.out).1; omega) | simpa only [Ny168.out, List.length_set] using h_); have ql169 : ((x28_2 : Int) < ((x150001_2.length : Int) : Int)) = True := eq_true (of_decide_eq_true (by first | (with_reducible assumption) | assumption)); obtain ⟨ad169, e169, hx169_0⟩ := Kd.at_int (Kd.R_reads' HO_150001.out).2.2 x28_2 p169 q169; obtain rfl : (⟨go64, 0, none⟩ : Addr) = ad169 := (by injection e169); (first | simp only [add_plain] at hx169_0 | simp only [add_at] at hx169_0 | simp only [Addr.add, Nat.zero_add] at hx169_0 | skip); replace p169 := eq_true p169; replace q169 := eq_true q169; have p66 : 0 ≤ (x28_2 : Int) := of_decide_eq_true (by first | (with_reducible assumption) | assumption); have q66 : (x28_2 : Int) < ((x150001_2.length : Int) : Int) := of_decide_eq_true (by first | (with_reducible assumption) | assumption); obtain ⟨hx66_0, hf66_0⟩ := Kd.R_celln 0 HO_150001.out (x28_2 : Int) p66 q66; replace p66 := eq_true p66; replace q66 := eq_true q66; obtain ⟨hy77_, hz77_⟩ := Kd.R_celln 0 HO_150001.out (x28_2 : Int) (of_decide_eq_true (by first | (with_reducible assumption) | assumption)) (of_decide_eq_true (by first | (with_reducible assumption) | assumption)); have HP77 := Kd.R_putg HO_150001.out (x28_2 : Int) (wrap64 ((rd y168 x28_2) + t165))) | ((with_reducible refine gate_store (t := 3) (p := 74) rfl ?_); refine store_event (t := 3) (p := 74) (v := ?vo_w78) (w1 := (w75.setCell ⟨go64, (x28_2 : Int).toNat, none⟩ (.int .i64 (wrap64 ((rd y168 x28_2) + t165))))) ?hg ?ho ?hn ?hr ?_; (case ho => rfl); (case hg => rfl); (case hn => rfl); (case hr => first | (go_simp; done) | (go_simp; rfl)); intro w78 hw; have hg : w75.grownBy w78 (some go64) := (by rw [hw]; exact HP77.2); have hp_ : Kd.R (Kd.int .i64) 3 w78 w.heap.size (fun k_ => some k_ ≠ (u150000 : Value).ownBlock) (.slice (some ⟨go64, 0, none⟩) x150001_2.length co73) y170 := (by rw [hw, Ny170.out]; exact HP77.1); clear HP77; have n0_ := Aside0.mk (Kd.R_after (v := (.slice (some ⟨go64, 0, none⟩) x150001_2.length co73)) (v1 := (.slice (some ⟨go64, 0, none⟩) x150001_2.length co73)) (ok := (fun _ => True)) (Fix.uR HO_150000.out) hg (.inl rfl)); have n1_ := Aside0.mk (hp_); have n2_ := Aside0.mk (blk_grown (g := gb140) (o := .cells #[.slice none 0 0, .slice none 0 0] 92 (0, 0)) (Fix.uK BK140.out) hg (Kd.R_ne HO_150001.out BK140.out (by decide))); have n3_ := Aside0.mk (blk_grown (g := gb149) (o := .cells #[u150000, .slice (some ⟨go64, 0, none⟩) x150001_2.length co73] 92 (0, 0)) (Fix.uK BK149.out) hg (Kd.R_ne HO_150001.out BK149.out (by decide))); have n4_ := Aside0.mk ((by rw [hw]; exact below_set (HB.out) GB64.out : Below w.heap.size w w78)); clear HO_150000; clear HO_150001; clear BK140; clear BK149; clear HB; have HO_150000 := n0_; have HO_150001 := n1_; have BK140 := n2_; have BK149 := n3_; have HB := n4_; clear n0_ n1_ n2_ n3_ n4_; clear hg hw hp_; have hcz79_0 : w78.cell? ⟨gb149, 0, none⟩ = some (u150000) := (blk_cell BK149.out 0).trans rfl; have hcz79_1 : w78.cell? ⟨gb149, 1, none⟩ = some (.slice (some ⟨go64, 0, none⟩) x150001_2.length co73) := (blk_cell BK149.out 1).trans rfl; have hfz79_0 := blk_frozen BK149.out 0; have hfz79_1 := blk_frozen BK149.out 1; have p171 : 0 ≤ ((ji67) : Int) := of_decide_eq_true (by first | (with_reducible assumption) | assumption); have q171 : (ji67) < (y170.length : Int) := (by have h_ : ((ji67) : Int) < ((x150001_2.length : Int) : Int) := of_decide_eq_true (by first | (with_reducible assumption) | assumption); first | (have e_ := (Kd.R_reads' HO_150001.out).1; omega) | simpa only [Ny168.out, Ny170.out, List.length_set] using h_); have ql171 : (((ji67) : Int) < ((x150001_2.length : Int) : Int)) = True := eq_true (of_decide_eq_true (by first | (with_reducible assumption) | assumption)); obtain ⟨ad171, e171, hx171_0⟩ := Kd.at_int (Kd.R_reads' HO_150001.out).2.2 (ji67) p171 q171; obtain rfl : (⟨go64, 0, none⟩ : Addr) = ad171 := (by injection e171); (first | simp only [add_plain] at hx171_0 | simp only [add_at] at hx171_0 | simp only [Addr.add, Nat.zero_add] at hx171_0 | skip); replace p171 := eq_true p171; replace q171 := eq_true q171; have p70 : 0 ≤ ((ji67) : Int) := of_decide_eq_true (by first | (with_reducible assumption) | assumption); have q70 : ((ji67) : Int) < ((x150001_2.length : Int) : Int) := of_decide_eq_true (by first | (with_reducible assumption) | assumption); obtain ⟨hx70_0, hf70_0⟩ := Kd.R_celln 0 HO_150001.out ((ji67) : Int) p70 q70; replace p70 := eq_true p70; replace q70 := eq_true q70; obtain ⟨hy80_, hz80_⟩ := Kd.R_celln 0 HO_150001.out ((ji67) : Int) (of_decide_eq_true (by first | (with_reducible assumption) | assumption)) (of_decide_eq_true (by first | (with_reducible assumption) | assumption)); have HP80 := Kd.R_putg HO_150001.out ((ji67) : Int) (wrap64 ((rd y170 (ji67)) + t166))) | ((with_reducible refine gate_store (t := 3) (p := 84) rfl ?_); refine store_event (t := 3) (p := 84) (v := ?vo_w81) (w1 := (w78.setCell ⟨go64, ((ji67) : Int).toNat, none⟩ (.int .i64 (wrap64 ((rd y170 (ji67)) + t166))))) ?hg ?ho ?hn ?hr ?_; (case ho => rfl); (case hg => rfl); (case hn => rfl); (case hr => first | (go_simp; done) | (go_simp; rfl)); intro w81 hw; have hg : w78.grownBy w81 (some go64) := (by rw [hw]; exact HP80.2); have hp_ : Kd.R (Kd.int .i64) 3 w81 w.heap.size (fun k_ => some k_ ≠ (u150000 : Value).ownBlock) (.slice (some ⟨go64, 0, none⟩) x150001_2.length co73) y172 := (by rw [hw, Ny172.out]; exact HP80.1); clear HP80; have n0_ := Aside0.mk (Kd.R_after (v := (.slice (some ⟨go64, 0, none⟩) x150001_2.length co73)) (v1 := (.slice (some ⟨go64, 0, none⟩) x150001_2.length co73)) (ok := (fun _ => True)) (Fix.uR HO_150000.out) hg (.inl rfl)); have n1_ := Aside0.mk (hp_); have n2_ := Aside0.mk (blk_grown (g := gb140) (o := .cells #[.slice none 0 0, .slice none 0 0] 92 (0, 0)) (Fix.uK BK140.out) hg (Kd.R_ne HO_150001.out BK140.out (by decide))); have n3_ := Aside0.mk (blk_grown (g := gb149) (o := .cells #[u150000, .slice (some ⟨go64, 0, none⟩) x150001_2.length co73] 92 (0, 0)) (Fix.uK BK149.out) hg (Kd.R_ne HO_150001.out BK149.out (by decide))); have n4_ := Aside0.mk ((by rw [hw]; exact below_set (HB.out) GB64.out : Below w.heap.size w w81)); clear HO_150000; clear HO_150001; clear BK140; clear BK149; clear HB; have HO_150000 := n0_; have HO_150001 := n1_; have BK140 := n2_; have BK149 := n3_; have HB := n4_; clear n0_ n1_ n2_ n3_ n4_; clear hg hw hp_))
                                  go_roundg k2
                                  case measure => have := HJ2.out; have := HK2.out; omega
                                  case rel => exact ⟨(wrap64 ((wrap64 ((wrap64 ((wrap64 ((wrap64 ((rd l0 x28_2) + (rd l1 x28_2))) + x7_2)) - t164)) - t165)) - t166)), (wrap64 (x28_2 + 1)), (x150000_2), (y172), (u150000), (.slice (some ⟨go64, 0, none⟩) x150001_2.length co73), (by first | rfl | (simp; done) | (simp [*]; done)), (by first | rfl | (simp; done) | (simp [*]; done)), H', ⟨by have := HJ2.out; have := HK2.out; omega⟩, ⟨by (with_reducible repeat (first | apply Kd.R_alloc | apply Kd.R_drewN | apply Kd.R_drew)); exact Kd.R_mono HO_150000.out (fun _ hk => by first | exact hk | exact hk.2)⟩, ⟨by (with_reducible repeat (first | apply Kd.R_alloc | apply Kd.R_drewN | apply Kd.R_drew)); exact HO_150001.out⟩, ⟨by (with_reducible repeat (first | refine Fix.kN ?_ _ | refine Fix.kD ?_ | refine Fix.kA ?_ _)); exact BK140.out⟩, ⟨by (with_reducible repeat (first | refine Fix.kN ?_ _ | refine Fix.kD ?_ | refine Fix.kA ?_ _)); exact BK149.out⟩, ⟨Fix.uB⟩⟩
                                · rw [if_neg c69] at H
                                  exact absurd H (by simp)
                              · rw [if_neg c68] at H
                                exact absurd H (by simp)
                            · rw [if_neg c65] at H
                              exact absurd H (by simp)
                          · rw [if_neg c63] at H
                            exact absurd H (by simp)
                        · rw [if_neg c62] at H
                          exact absurd H (by simp)
                    · rw [if_neg c27] at H
                      exact absurd H (by simp)
                  · rw [if_neg c26] at H
                    exact absurd H (by simp)
                · rw [if_neg c25] at H
                  exact absurd H (by simp)
              · rw [if_neg c24] at H
                have c24b0 : decide (x28_2 < (l0.length : Int)) = false := decide_eq_false c24
                clear c24
                by_cases c82 : 31 < (x150001_2.length : Int)
                · rw [if_pos c82] at H
                  have c82b0 : decide (31 < (x150001_2.length : Int)) = true := decide_eq_true c82
                  have c82b1 : decide (31 < x150001_2.length) = true := decide_eq_true (by omega)
                  clear c82
                  obtain ⟨y151, hy151⟩ : ∃ y_ : List Int, y_ = (x150001_2.set (31 : Int).toNat (wrap64 ((rd x150001_2 31) + x7_2))) := ⟨_, rfl⟩
                  replace H : (some (x150000_2, y151, true)) = some (r1, r2, r3) := by first | (rw [hy151]; with_reducible exact H) | (have H2_ := (Option.bind_some _ _).symm.trans H; rw [hy151]; with_reducible exact H2_) | (have H2_ := (Option.bind_some _ _).symm.trans H; with_reducible exact H2_) | with_reducible exact H | (rw [hy151]; exact H) | exact H
                  have Ny151 := Aside0.mk hy151
                  clear hy151
                  simp only [Option.some.injEq, Prod.mk.injEq] at H
                  obtain ⟨rfl, rfl, rfl⟩ := H
                  have hnb84 := NB149_140.out
                  have hnc84 := NB140_149.out
                  have hcz85_0 : wr.cell? ⟨gb149, 0, none⟩ = some (u150000) := (blk_cell BK149.out 0).trans rfl
                  have hcz85_1 : wr.cell? ⟨gb149, 1, none⟩ = some (u150001) := (blk_cell BK149.out 1).trans rfl
                  have hfz85_0 := blk_frozen BK149.out 0
                  have hfz85_1 := blk_frozen BK149.out 1
                  obtain ⟨Ao86, co86, eo86⟩ := Kd.R_slice HO_150001.out
                  subst eo86
                  have p150 : 0 ≤ (31 : Int) := (by omega)
                  have q150 : 31 < (x150001_2.length : Int) := of_decide_eq_true (by first | (with_reducible assumption) | assumption)
                  obtain ⟨ad150, e150, hx150_0⟩ := Kd.at_int (Kd.R_reads' HO_150001.out).2.2 31 p150 q150
                  cases e150
                  (try simp only [show (31 : Int).toNat = 31 from rfl, Nat.reduceMul, Nat.reduceEqDiff, Go.Addr.add, ↓reduceIte] at hx150_0)
                  have qi150 : (31 < x150001_2.length) = True := eq_true (by omega)
                  (try rw [show ((31 : Int)).toNat = 31 from rfl] at hx150_0)
                  replace p150 := eq_true p150
                  replace q150 := eq_true q150
                  have p83 : 0 ≤ (31 : Int) := (by omega)
                  have q83 : (31 : Int) < ((x150001_2.length : Int) : Int) := of_decide_eq_true (by first | (with_reducible assumption) | assumption)
                  have qi83 : (31 < x150001_2.length) = True := eq_true (by omega)
                  obtain ⟨go83, co83, eo83, gb83, gl83, cl83, HG83⟩ := Kd.R_form HO_150001.out (by omega)
                  (first | cases eo83 | (injection eo83 with ea_ en_ ec_; (first | subst ea_ | (injection ea_ with ea_; subst ea_)); subst ec_; clear en_))
                  have GB83 := Aside0.mk gb83
                  have GG83 := Aside0.mk HG83
                  clear gb83 gl83 HG83
                  (first | simp only [add_plain] at hx150_0 | skip)
                  obtain ⟨hx83_0, hf83_0⟩ := Kd.R_celln 0 HO_150001.out (31 : Int) p83 q83
                  (try rw [show ((31 : Int)).toNat = 31 from rfl] at hx83_0)
                  (try simp only [Nat.reduceMul, Nat.zero_mul, Nat.zero_add, Nat.reduceAdd] at hx83_0)
                  (try rw [show ((31 : Int)).toNat = 31 from rfl] at hf83_0)
                  (try simp only [Nat.reduceMul, Nat.zero_mul, Nat.zero_add, Nat.reduceAdd] at hf83_0)
                  replace p83 := eq_true p83
                  replace q83 := eq_true q83
                  have HP87 := Kd.R_putg HO_150001.out (31 : Int) (wrap64 ((rd x150001_2 31) + x7_2))
                  go_wp2_with (first | ((with_reducible refine gate_store (t := 3) (p := 99) rfl ?_); refine store_event (t := 3) (p := 99) (v := ?vo_w88) (w1 := (wr.setCell ⟨go83, (31 : Int).toNat, none⟩ (.int .i64 (wrap64 ((rd x150001_2 31) + x7_2))))) ?hg ?ho ?hn ?hr ?_; (case ho => rfl); (case hg => rfl); (case hn => rfl); (case hr => first | (go_simp; done) | (go_simp; rfl)); intro w88 hw; have hg : wr.grownBy w88 (some go83) := (by rw [hw]; exact HP87.2); have hp_ : Kd.R (Kd.int .i64) 3 w88 w.heap.size (fun k_ => some k_ ≠ (u150000 : Value).ownBlock) (.slice (some ⟨go83, 0, none⟩) x150001_2.length co86) y151 := (by rw [hw, Ny151.out]; exact HP87.1); clear HP87; have n0_ := Aside0.mk (Kd.R_after (v := (.slice (some ⟨go83, 0, none⟩) x150001_2.length co86)) (v1 := (.slice (some ⟨go83, 0, none⟩) x150001_2.length co86)) (ok := (fun _ => True)) (by (with_reducible repeat (first | apply Kd.R_alloc | apply Kd.R_drewN | apply Kd.R_drew)); exact Kd.R_mono HO_150000.out (fun _ hk => ⟨trivial, hk⟩)) hg (.inl rfl)); have n1_ := Aside0.mk (hp_); have n2_ := Aside0.mk (blk_grown (g := gb140) (o := .cells #[.slice none 0 0, .slice none 0 0] 92 (0, 0)) (Fix.uK BK140.out) hg (Kd.R_ne HO_150001.out BK140.out (by decide))); have n3_ := Aside0.mk (blk_grown (g := gb149) (o := .cells #[u150000, .slice (some ⟨go83, 0, none⟩) x150001_2.length co86] 92 (0, 0)) (Fix.uK BK149.out) hg (Kd.R_ne HO_150001.out BK149.out (by decide))); have n4_ := Aside0.mk ((by rw [hw]; exact below_set (HB.out) GB83.out : Below w.heap.size w w88)); clear HO_150000; clear HO_150001; clear BK140; clear BK149; clear HB; have HO_150000 := n0_; have HO_150001 := n1_; have BK140 := n2_; have BK149 := n3_; have HB := n4_; clear n0_ n1_ n2_ n3_ n4_; clear hg hw hp_; have hcz89_0 : w88.cell? ⟨gb149, 0, none⟩ = some (u150000) := (blk_cell BK149.out 0).trans rfl; have hcz89_1 : w88.cell? ⟨gb149, 1, none⟩ = some (.slice (some ⟨go83, 0, none⟩) x150001_2.length co86) := (blk_cell BK149.out 1).trans rfl; have hfz89_0 := blk_frozen BK149.out 0; have hfz89_1 := blk_frozen BK149.out 1; obtain ⟨Ao90, co90, eo90⟩ := Kd.R_slice HO_150000.out; subst eo90; have hcz91_0 : w88.cell? ⟨gb140, 0, none⟩ = some (.slice none 0 0) := (blk_cell BK140.out 0).trans rfl; have hcz91_1 : w88.cell? ⟨gb140, 1, none⟩ = some (.slice none 0 0) := (blk_cell BK140.out 1).trans rfl; have hfz91_0 := blk_frozen BK140.out 0; have hfz91_1 := blk_frozen BK140.out 1))
                  refine bodyPost_ret (results_ct rfl _ _ gb140 92 #[.slice Ao90 x150000_2.length co90, .slice (some ⟨go83, 0, none⟩) x150001_2.length co86] (0, 0) _ rfl (by (with_reducible repeat (first | refine Fix.kN ?_ _ | refine Fix.kD ?_ | refine Fix.kA ?_ _)); refine blk_put (cs := #[.slice Ao90 x150000_2.length co90, .slice none 0 0]) ?_ 1 _ rfl; (with_reducible repeat (first | refine Fix.kN ?_ _ | refine Fix.kD ?_ | refine Fix.kA ?_ _)); refine blk_put (cs := #[.slice none 0 0, .slice none 0 0]) ?_ 0 _ rfl; (with_reducible repeat (first | refine Fix.kN ?_ _ | refine Fix.kD ?_ | refine Fix.kA ?_ _)); exact BK140.out) Try.underlying92 rfl (by kernel_rfl)) rfl ?_
                  exact ⟨_, _, by first | rfl | (simp [errW_none, errW_some] <;> rfl) | (simp [*, errW_none, errW_some] <;> rfl), by (with_reducible repeat (first | apply Kd.R_alloc | apply Kd.R_drewN | apply Kd.R_drew)); exact Kd.R_mono (Kd.R_far (p := ⟨gb140, 1, none⟩) (Kd.R_far (p := ⟨gb140, 0, none⟩) (Kd.R_types HO_150000.out BK140.out (by decide)) (fun _ hk => by first | exact hk | exact hk.2) (.slice Ao90 x150000_2.length co90)) (fun _ hk => by first | exact hk | exact hk.2) (.slice (some ⟨go83, 0, none⟩) x150001_2.length co86)) (fun _ hk => hk.1.2), by (with_reducible repeat (first | apply Kd.R_alloc | apply Kd.R_drewN | apply Kd.R_drew)); exact Kd.R_mono (Kd.R_far (p := ⟨gb140, 1, none⟩) (Kd.R_far (p := ⟨gb140, 0, none⟩) (Kd.R_types HO_150001.out BK140.out (by decide)) (fun _ hk => by first | exact hk | exact hk.2) (.slice Ao90 x150000_2.length co90)) (fun _ hk => by first | exact hk | exact hk.2) (.slice (some ⟨go83, 0, none⟩) x150001_2.length co86)) (fun _ hk => hk.1), Fix.uB⟩
                · rw [if_neg c82] at H
                  exact absurd H (by simp)
        · rw [if_neg c10] at H
          exact absurd H (by simp)

end Go.Proofs.Ytaceidiookkocaa.PFnExactHalftonePage
