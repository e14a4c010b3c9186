/- FnHalftones: the functions that the law reaches, each as a plain Lean function, and that a call does what it says. Made by a program of this work (wip/mp.py) out of the kit's print. No condition. -/
import Derived.Test.YtaceidiookkocaaQFnHalftones0
import Derived.Test.YtaceidiookkocaaQFnHalftones1
import Derived.Test.YtaceidiookkocaaQFnHalftones2
import Derived.Test.YtaceidiookkocaaQFnHalftones4
namespace Go.Proofs.Ytaceidiookkocaa.PFnHalftones
open Go.RowKit Go.Proofs.YtaceidiookkocaaW.PrintWords Go.Proofs.YtaceidiookkocaaW.PrintLast Go.Proofs.YtaceidiookkocaaW.PrintMore
attribute [local go_sem] max2_int min2_int max_two min_two max_three min_three max_four min_four
attribute [local go_sem] Fix.isSome_setCell
set_option linter.unusedVariables false
set_option linter.unusedSimpArgs false

/-! ### slices_Repeat_int_int: function 50 -/
def slices_Repeat_int_int.f (l0 : List Int) (a1 : Int) : Option (List Int) := if l0.length = 1 then (if a1 = 32 then some (List.replicate 32 (rd l0 0)) else none) else none
def slices_Repeat_int_int.T9 : Bool × List (List Nat × List Nat) := (true, [([], []), ([], []), ([], []), ([1, 2], [1, 2]), ([], []), ([], []), ([4, 5], [4, 5]), ([3, 6], [3, 6]), ([0, 7], [0, 7]), ([8, 7, 0, 1, 2, 3, 4, 5, 6, 7, 8], [0, 2, 5, 8])])
def slices_Repeat_int_int.B9 : List Nat := [0, 0, 0, 6, 0, 0, 48, 126, 255, 511]
theorem slices_Repeat_int_int.tab9 : rtab .any (opsOf Try.f50 9) = slices_Repeat_int_int.T9 := by kernel_rfl
theorem slices_Repeat_int_int.bits9 : waitsOk slices_Repeat_int_int.T9.2 slices_Repeat_int_int.B9 = true := by kernel_rfl
set_option maxHeartbeats 8000000 in
set_option maxRecDepth 100000 in
theorem slices_Repeat_int_int.calls (A0 : Option Addr) (c0 : Nat) (l0 : List Int) (a1 : Int) (r : List Int) (w : World) (hr0 : Kd.C (Kd.int .i64) w A0 l0.length l0) (hc0 : l0.length ≤ c0) (h : slices_Repeat_int_int.f l0 a1 = some r) :
    Calls Try.prog 50 #[.slice A0 l0.length c0, .int .i64 a1] w fun e w' => ∃ v0_ : Value, e = .returned (v0_) ∧ Kd.R (Kd.int .i64) 3 w' w.heap.size (fun _ => True) v0_ r ∧ Below w.heap.size w w' := by
  unfold slices_Repeat_int_int.f at h
  by_cases c1 : l0.length = 1
  · rw [if_pos c1] at h
    by_cases c2 : a1 = 32
    · rw [if_pos c2] at h
      subst c2
      obtain rfl := Option.some.inj h
      clear h
      obtain ⟨ad, ea, hx⟩ := Kd.at_int hr0 0 (by omega) (by omega)
      subst ea
      have hx0 : w.cell? ad = some (.int .i64 (rd l0 0)) := by simpa [Addr.add] using hx
      generalize rd l0 0 = v at hx0 ⊢
      rw [c1] at hc0 ⊢
      clear hr0 c1 hx
      have HX := Aside0.mk hx0
      have HC := Aside0.mk hc0
      clear hx0 hc0
      have HB := Aside0.mk (Below.refl w.heap.size w)
      have hmul : bits_Mul.f 1 32 = some (0, 32) := by kernel_rfl
      go_enter Try.func50, Try.ntmps50
      go_wp2_with (first | (go_at_call 80; refine (bits_Mul.calls 1 32 0 32 _ hmul).mono ?_; rintro e w3 ⟨rfl, hd⟩; obtain ⟨nd, rfl⟩ := hd.out) | ((with_reducible refine gate_dst (N := 30) rfl ?_); refine Kd.R_make (Kd.int .i64) w.heap.size 3 rfl (w0 := w) (N := 30) rfl 39 _ _ rfl 32 rfl rfl Try.underlying39 (.int .i64 0) 8 info3 rfl (by decide) (by omega) 0 (ok := fun _ => True) (okp := fun _ => True) rfl (fun _ hk => hk) trivial (by omega) (by omega) (by repeat (first | exact HB.out | apply Fix.bA | apply Fix.bN | apply Fix.b1)) (by first | exact Nat.le_refl _ | exact below_size (by repeat (first | exact HB.out | apply Fix.bA | apply Fix.bN | apply Fix.b1))) ?_; intro v1 w2 ho hb hg_ hnew_; obtain ⟨go, co, eo, gb, gl, cl, HG⟩ := Kd.R_form ho (by simp); (first | cases eo | skip); have hroom := (Kd.R_reads' ho).2.1; replace ho : Kd.R (Kd.int .i64) 3 w2 w.heap.size (fun _ => True) (.slice (some ⟨go, 0, none⟩) 32 co) (List.replicate 0 v ++ List.replicate (1 + 31) 0) := ho; replace hroom : 32 ≤ co := hroom; have hxx := (hb.cell (World.block_lt_of_cell? w _ HX.out)).trans HX.out; have hcp := Rep.run_copy_in (P := Try.prog) 39 3 Try.underlying39 (by kernel_rfl) v 0 31 ho ad hxx c0; rw [show goInt 1 = Value.int .i64 1 from rfl] at hcp; have HO := Aside0.mk (Rep.fill v 0 1 0 31 ho); have n1_ := Aside0.mk (Rep.below_sets (List.replicate 1 (.int .i64 v)) 0 hb gb); have GB := Aside0.mk (And.intro gb hroom); clear HB ho hb hg_ hnew_ gb gl HG hxx hroom; have HB := n1_; clear n1_; generalize w2.setCells go 0 (List.replicate 1 (Value.int .i64 v)) = w4 at hcp HO HB))
      go_loopg [8] 33 (fun kq v8 w' => ∃ i : Nat, v8 = .int .i64 (i : Int) ∧ Aside0 (1 ≤ i ∧ i ≤ 32 ∧ 33 ≤ i + kq) ∧ Aside0 (Kd.R (Kd.int .i64) 3 w' w.heap.size (fun _ => True) (.slice (some ⟨go, 0, none⟩) 32 co) (List.replicate i v ++ List.replicate (32 - i) 0)) ∧ Aside0 (Below w.heap.size w w'))
      case atStart => exact ⟨1, (by first | rfl | (simp; done) | (simp [*]; done)), ⟨by omega⟩, ⟨HO.out⟩, ⟨HB.out⟩⟩
      case round =>
        clear HO HB
        obtain ⟨i, rfl, HI, HO, HB⟩ := hrel
        cases gk with
        | zero => exact absurd HI.out (by omega)
        | succ k1 =>
        by_cases c3 : i < 32
        · have hI := HI.out
          have hG := GB.out
          obtain ⟨i0, hi0, _, hsz, _⟩ := info_parts info3
          have hcutA := Rep.cut_rest (P := Try.prog) 39 3 Try.underlying39 hi0 hsz go 32 co i c3 hG.2
          have hcutB := cut_to (P := Try.prog) 39 3 .i64 Try.underlying39 hi0 (some ⟨go, 0, none⟩) 32 co (i : Int) (by omega) (by omega) hG.2
          rw [Int.toNat_natCast] at hcutB
          obtain ⟨m, hm⟩ : ∃ m, m = Nat.min i (32 - i) := ⟨_, rfl⟩
          have hm1 : 1 ≤ m ∧ m ≤ i ∧ i + m ≤ 32 := by rw [hm]; show 1 ≤ min i (32 - i) ∧ min i (32 - i) ≤ i ∧ i + min i (32 - i) ≤ 32; omega
          have ho := HO.out
          rw [show 32 - i = m + (32 - (i + m)) by omega] at ho
          have p3 : decide ((i : Int) < 32) = true := decide_eq_true (by omega)
          have hs1 : wrap64 ((i : Int) + (m : Int)) = ((i + m : Nat) : Int) := by unfold wrap64; omega
          have HO2 := Aside0.mk ho
          have HM := Aside0.mk (And.intro hm.symm hm1)
          have HS := Aside0.mk hs1
          clear ho HO hm hm1 hI hG hs1 c3 hi0 hsz
          try go_wp2
          have n0_ := Aside0.mk (Kd.R_drew HO2.out)
          have n1_ := Aside0.mk (below_drew1 HB.out)
          clear HO2 HB
          have HO := n0_
          have HB := n1_
          clear n0_ n1_
          refine start_ (n := 10) (S := fun w' => True) (ds := []) #[false, false, false, false, false, false, false, false, false, false] (by kernel_rfl) rfl rfl trivial (fun hHeld => ?_)
          refine with_tabW slices_Repeat_int_int.tab9 slices_Repeat_int_int.bits9 (fun HT_ HW_ => ?_)
          generalize wr.drew = w11 at HO HB hHeld ⊢
          refine pure_ (i := 0) (N := some 38) (v := ?_) (a' := ?_) #[true, false, false, false, false, false, false, false, false, false] rfl rfl (any_of HT_.out (by kernel_rfl)) (fun _ _ _ h => h) (Or.inl ⟨by rfl, ?_⟩) ?_ ?_
          rotate_left
          · intro w'
            go_simp
            with_reducible rfl
          rotate_left
          · simp only [Act.put, List.setIfInBounds_toArray, List.set_cons_zero, List.set_cons_succ, i64_w, i32_w]
            rfl
          refine pure_ (i := 1) (N := some 39) (v := ?_) (a' := ?_) #[true, true, false, false, false, false, false, false, false, false] rfl rfl (any_of HT_.out (by kernel_rfl)) (fun _ _ _ h => h) (Or.inl ⟨by rfl, ?_⟩) ?_ ?_
          rotate_left
          · intro w'
            go_simp
            with_reducible rfl
          rotate_left
          · simp only [Act.put, List.setIfInBounds_toArray, List.set_cons_zero, List.set_cons_succ, i64_w, i32_w]
            rfl
          refine pure_ (i := 2) (N := some 40) (v := ?_) (a' := ?_) #[true, true, true, false, false, false, false, false, false, false] rfl rfl (any_of HT_.out (by kernel_rfl)) (fun _ _ _ h => h) (Or.inl ⟨by rfl, ?_⟩) ?_ ?_
          rotate_left
          · intro w'
            go_simp
            with_reducible rfl
          rotate_left
          · simp only [Act.put, List.setIfInBounds_toArray, List.set_cons_zero, List.set_cons_succ, i64_w, i32_w]
            rfl
          refine pure_ (i := 3) (N := some 41) (v := ?_) (a' := ?_) #[true, true, true, true, false, false, false, false, false, false] rfl rfl (any_of HT_.out (by kernel_rfl)) (fun _ _ _ h => h) (Or.inl ⟨by rfl, ?_⟩) ?_ ?_
          rotate_left
          · intro w'
            go_simp
            with_reducible rfl
          rotate_left
          · simp only [Act.put, List.setIfInBounds_toArray, List.set_cons_zero, List.set_cons_succ, i64_w, i32_w]
            rfl
          refine pure_ (i := 4) (N := some 42) (v := ?_) (a' := ?_) #[true, true, true, true, true, false, false, false, false, false] rfl rfl (any_of HT_.out (by kernel_rfl)) (fun _ _ _ h => h) (Or.inl ⟨by rfl, ?_⟩) ?_ ?_
          rotate_left
          · intro w'
            go_simp
            with_reducible rfl
          rotate_left
          · simp only [Act.put, List.setIfInBounds_toArray, List.set_cons_zero, List.set_cons_succ, i64_w, i32_w]
            rfl
          refine pure_ (i := 5) (N := some 43) (v := ?_) (a' := ?_) #[true, true, true, true, true, true, false, false, false, false] rfl rfl (any_of HT_.out (by kernel_rfl)) (fun _ _ _ h => h) (Or.inl ⟨by rfl, ?_⟩) ?_ ?_
          rotate_left
          · intro w'
            go_simp
            with_reducible rfl
          rotate_left
          · simp only [Act.put, List.setIfInBounds_toArray, List.set_cons_zero, List.set_cons_succ, i64_w, i32_w]
            rfl
          refine pure_ (i := 6) (N := some 44) (v := ?_) (a' := ?_) #[true, true, true, true, true, true, true, false, false, false] rfl rfl (any_of HT_.out (by kernel_rfl)) (fun _ _ _ h => h) (Or.inl ⟨by rfl, ?_⟩) ?_ ?_
          rotate_left
          · intro w'
            go_simp
            with_reducible rfl
          rotate_left
          · simp only [Act.put, List.setIfInBounds_toArray, List.set_cons_zero, List.set_cons_succ, i64_w, i32_w]
            rfl
          refine one_ (i := 7) (N := some 45) #[true, true, true, true, true, true, true, true, false, false] rfl rfl (one_of HT_.out (by kernel_rfl)) (by decide) (fun K hK => ?_)
          refine Rep.copy_step (W1 := w11.setCells go i (List.replicate m (.int .i64 v))) (by rfl) (.tmp 41) (.tmp 44) 39 rfl (.slice (some ⟨go, i, none⟩) (32 - i) (co - i)) (.slice (some ⟨go, 0, none⟩) i co) rfl rfl (v := goInt m) (fun ty => ?_) ?_
          · exact Rep.run_copy (P := Try.prog) 39 3 Try.underlying39 (by kernel_rfl) v 0 (32 - (i + m)) HO.out ⟨go, 0, none⟩ rfl i (32 - i) HM.out.1 HM.out.2.2.1 ty
          have n0_ := Aside0.mk (Rep.fill v 0 m i (32 - (i + m)) HO.out)
          have n1_ := Aside0.mk (Rep.below_sets (List.replicate m (.int .i64 v)) i HB.out GB.out.1)
          clear HO HB
          have HO := n0_
          have HB := n1_
          clear n0_ n1_
          generalize w11.setCells go i (List.replicate m (.int .i64 v)) = w12 at HO HB ⊢
          refine hK.out _ _ trivial (fun hHeld => ?_)
          clear hK K
          refine norm_ (a' := ?_) ?_ ?_
          rotate_left
          · show Act.put _ (some 45) _ = _
            simp only [Act.put, List.setIfInBounds_toArray, List.set_cons_zero, List.set_cons_succ, i64_w, i32_w]
            rfl
          refine pure_ (i := 8) (N := some 46) (v := ?_) (a' := ?_) #[true, true, true, true, true, true, true, true, true, false] rfl rfl (any_of HT_.out (by kernel_rfl)) (fun _ _ _ h => h) (Or.inl ⟨by rfl, ?_⟩) ?_ ?_
          rotate_left
          · intro w'
            go_simp
            with_reducible rfl
          rotate_left
          · simp only [Act.put, List.setIfInBounds_toArray, List.set_cons_zero, List.set_cons_succ, i64_w, i32_w]
            rfl
          refine pure_ (i := 9) (N := some 8) (v := ?_) (a' := ?_) #[true, true, true, true, true, true, true, true, true, true] rfl rfl (any_of HT_.out (by kernel_rfl)) (fun _ _ _ h => h) (Or.inl ⟨by rfl, ?_⟩) ?_ ?_
          rotate_left
          · intro w'
            go_simp
            with_reducible rfl
          rotate_left
          · simp only [Act.put, List.setIfInBounds_toArray, List.set_cons_zero, List.set_cons_succ, i64_w, i32_w]
            rfl
          refine done_ (done_of HT_.out (by kernel_rfl)) ?_
          try go_wp2
          go_roundg k1
          case measure => omega
          case rel => exact ⟨i + m, congrArg (Value.int .i64) HS.out, ⟨by have := HI.out; have := HM.out; omega⟩, ⟨HO.out⟩, ⟨HB.out⟩⟩
        · have p3 : decide ((i : Int) < 32) = false := decide_eq_false (by omega)
          obtain rfl : i = 32 := by have := HI.out; omega
          clear c3
          go_wp2
          go_ret
          have ho := HO.out
          simp only [Nat.sub_self, List.replicate_zero, List.append_nil] at ho
          exact ⟨_, rfl, ho, HB.out⟩
    · rw [if_neg c2] at h
      exact absurd h (by simp)
  · rw [if_neg c1] at h
    exact absurd h (by simp)

/-! ### impl_WhiteRows: function 22 -/
def impl_WhiteRows.l0 : Nat → Int → List (List Int) → Option ((List (List Int)))
  | 0, _, _ => none
  | k + 1, x0, x3 => if x0 > 0 then ((slices_Repeat_int_int.f (([255] : List Int)) 32).bind fun t292 => (if x3.length < 5864062014805 then (impl_WhiteRows.l0 k (wrap64 (x0 - 1)) (x3 ++ [t292])) else (none))) else (some x3)
def impl_WhiteRows.f (k : Nat) (a0 : Int) : Option ((List (List Int))) := (impl_within.f a0 0 32).bind fun t288 => (if t288 = true then (impl_WhiteRows.l0 k a0 ([] : List (List Int))) else (some ([] : List (List Int))))
theorem impl_WhiteRows.mono_l : ∀ k, (∀ y0 y1, LeO (impl_WhiteRows.l0 k y0 y1) (impl_WhiteRows.l0 (k + 1) y0 y1))
  | 0 => fun _ _ r h => by simp [impl_WhiteRows.l0] at h
  | k + 1 => by
    have ih0 := impl_WhiteRows.mono_l k
    · intro y0 y1
      unfold impl_WhiteRows.l0
      repeat' first
      | (with_reducible exact ih0 _ _)
      | (with_reducible exact LeO.refl _)
      | (with_reducible exact LeO.none _)
      | (with_reducible refine LeO.ite ?_ ?_)
      | (with_reducible refine LeO.bind ?_ (fun _ => ?_))
      | exact ih0 _ _
      | exact LeO.none _
      | refine LeO.ite ?_ ?_
      | refine LeO.bind ?_ (fun _ => ?_)
theorem impl_WhiteRows.mono : ∀ a0 k, LeO (impl_WhiteRows.f k a0) (impl_WhiteRows.f (k + 1) a0) := by
  intro a0 k
  have ih0 := impl_WhiteRows.mono_l k
  unfold impl_WhiteRows.f
  repeat' first
      | (with_reducible exact ih0 _ _)
      | (with_reducible exact LeO.refl _)
      | (with_reducible exact LeO.none _)
      | (with_reducible refine LeO.ite ?_ ?_)
      | (with_reducible refine LeO.bind ?_ (fun _ => ?_))
      | exact ih0 _ _
      | exact LeO.none _
      | refine LeO.ite ?_ ?_
      | refine LeO.bind ?_ (fun _ => ?_)
set_option maxHeartbeats 8000000 in
set_option maxRecDepth 100000 in
theorem impl_WhiteRows.calls (k : Nat) (a0 : Int) (r : List (List Int)) (w : World) (h : impl_WhiteRows.f k a0 = some r) :
    Calls Try.prog 22 #[.int .i64 a0] w fun e w' => ∃ v0_ : Value, e = .returned (v0_) ∧ Kd.S (Kd.slice 3 (Kd.int .i64)) 39 w' w.heap.size (fun _ => True) v0_ r ∧ Below w.heap.size w w' := by
  have HB := Aside0.mk (Below.refl w.heap.size w)
  have H : ((impl_within.f a0 0 32).bind fun t288 => (if t288 = true then (impl_WhiteRows.l0 k a0 ([] : List (List Int))) else (some ([] : List (List Int))))) = some r := h
  clear h
  replace H := Option.bind_eq_some_iff.mp H
  obtain ⟨t288, A20, H⟩ := H
  replace H : (if t288 = true then (impl_WhiteRows.l0 k a0 ([] : List (List Int))) else (some ([] : List (List Int)))) = some r := H
  have A2 := Aside0.mk A20
  clear A20
  by_cases c3 : t288 = true
  · subst c3
    have H1 : (impl_WhiteRows.l0 k a0 ([] : List (List Int))) = some r := by rw [if_pos rfl] at H; exact H
    clear H
    have H := H1
    clear H1
    have H' := Aside0.mk H
    clear H
    go_enter Try.func22, Try.ntmps22
    go_wp2_with (first | ((with_reducible refine gate_callee (f := 49) rfl ?_); refine goesL_ (some 5) rfl rfl Try.func49 (by kernel_rfl) rfl #[.int .i64 a0, .int .i64 0, .int .i64 32] rfl Fix.uA ?_; (with_reducible refine (impl_within.calls a0 0 32 true _ A2.out).mono ?_); rintro e w' ⟨rfl, ⟨nd, rfl⟩⟩; refine ⟨_, rfl, ?_⟩))
    go_loopg [0, 3] k (fun kq v0 v3 w' => ∃ (x0_1 : Int) (x3_1 : List (List Int)), v0 = .int .i64 x0_1 ∧ Aside0 (impl_WhiteRows.l0 kq x0_1 x3_1 = some r) ∧ Aside0 (kq ≤ k) ∧ Aside0 (Kd.S (Kd.slice 3 (Kd.int .i64)) 39 w' w.heap.size (fun _ => True) v3 x3_1) ∧ Aside0 (Below w.heap.size w w'))
    case atStart => exact ⟨(a0), (([] : List (List Int))), (by first | rfl | (simp; done) | (simp [*]; done)), H', ⟨Nat.le_refl _⟩, ⟨by first | exact Kd.S_nil _ _ _ _ _ | exact Kd.N_nil _ _ _ _ _ | exact Kd.V_nil _ _ _ _ _ | exact Kd.Q_nil _ _ _ _ _ | exact Kd.R_nil _ _ _ _ _⟩, ⟨Fix.uB⟩⟩
    case round =>
      clear H'
      try clear c2
      try clear p2
      try clear c3
      obtain ⟨x0_1, x3_1, rfl, HA, HK1, HO_3, HB⟩ := hrel
      cases gk with
      | zero => exact absurd HA.out (by simp [impl_WhiteRows.l0])
      | succ k1 =>
        have H := HA.out
        clear HA
        simp only [impl_WhiteRows.l0] at H
        by_cases c4 : x0_1 > 0
        · rw [if_pos c4] at H
          have c4b0 : decide (0 < x0_1) = true := decide_eq_true c4
          clear c4
          obtain ⟨y289, hy289⟩ : ∃ y_ : List Int, y_ = (([255] : List Int)) := ⟨_, rfl⟩
          replace H : ((slices_Repeat_int_int.f y289 32).bind fun t292 => (if x3_1.length < 5864062014805 then (impl_WhiteRows.l0 k1 (wrap64 (x0_1 - 1)) (x3_1 ++ [t292])) else (none))) = some r := by first | (rw [hy289]; with_reducible exact H) | (have H2_ := (Option.bind_some _ _).symm.trans H; rw [hy289]; with_reducible exact H2_) | (have H2_ := (Option.bind_some _ _).symm.trans H; with_reducible exact H2_) | with_reducible exact H | (rw [hy289]; exact H) | exact H
          have Ny289 := Aside0.mk hy289
          clear hy289
          replace H := Option.bind_eq_some_iff.mp H
          obtain ⟨t292, A50, H⟩ := H
          replace H : (if x3_1.length < 5864062014805 then (impl_WhiteRows.l0 k1 (wrap64 (x0_1 - 1)) (x3_1 ++ [t292])) else (none)) = some r := H
          have A5 := Aside0.mk A50
          clear A50
          by_cases c6 : x3_1.length < 5864062014805
          · rw [if_pos c6] at H
            have LMc6 := Aside0.mk c6
            clear c6
            obtain ⟨y295, hy295⟩ : ∃ y_ : List (List Int), y_ = (x3_1 ++ [t292]) := ⟨_, rfl⟩
            replace H : (impl_WhiteRows.l0 k1 (wrap64 (x0_1 - 1)) y295) = some r := by first | (rw [hy295]; with_reducible exact H) | (have H2_ := (Option.bind_some _ _).symm.trans H; rw [hy295]; with_reducible exact H2_) | (have H2_ := (Option.bind_some _ _).symm.trans H; with_reducible exact H2_) | with_reducible exact H | (rw [hy295]; exact H) | exact H
            have Ny295 := Aside0.mk hy295
            clear hy295
            have H' := Aside0.mk H
            clear H
            go_wp2_with (first | ((with_reducible refine gate_dst (N := 12) rfl ?_); refine Kd.R_lit (Kd.int .i64) _ 3 ?hg (N := 12) ?hd (xs := ([255] : List Int)) (inner := [.int .i64 255]) (ok := fun _ => True) (okp := fun _ => True) ?hr ?hp (fun _ hk => hk) trivial (Below.refl _ _) (Nat.le_refl _) (by simp) ?_; (case hd => rfl); (case hg => rfl); (case hr => first | (go_simp; done) | (go_simp; rfl)); (case hp => exact (Reps.one (show Kd.M (Kd.int .i64) _ _ _ 255 [.int .i64 255] from rfl) (Reps.none _ _))); intro v290 w7 ho8 hb hg_ hnew_; clear hg_ hnew_; (first | rw [← Ny289.out] at ho8 | (simp only [Int.reduceToNat] at ho8; rw [← Ny289.out] at ho8)); have n0_ := Aside0.mk (Kd.S_elder' (Fix.uS HO_3.out) (Kd.R_base ho8) hb); have n1_ := Aside0.mk (Kd.R_lower ho8 (below_size Fix.uB)); have n2_ := Aside0.mk (below_step Fix.uB hb); clear HO_3; clear HB; have HO_3 := n0_; have HO291 := n1_; have HB := n2_; clear n0_ n1_ n2_; clear hb ho8; obtain ⟨Ao9, co9, eo9⟩ := Kd.R_slice HO291.out; subst eo9) | ((with_reducible refine gate_callee (f := 50) rfl ?_); refine goesL_ (some 13) rfl rfl Try.func50 (by kernel_rfl) rfl #[.slice Ao9 y289.length co9, .int .i64 32] rfl Fix.uA ?_; (with_reducible refine (slices_Repeat_int_int.calls _ _ y289 32 t292 _ ?side1 ?side2 A5.out).mono ?_); (case side1 => exact Fix.uC (Kd.R_reads' HO291.out).2.2); (case side2 => exact (Kd.R_reads' HO291.out).2.1); rintro e w10 ⟨v293, rfl, ho0, hb⟩; refine ⟨_, rfl, ?_⟩; have n0_ := Aside0.mk (Kd.S_elder' (Fix.uS HO_3.out) (Kd.R_base ho0) hb); have n1_ := Aside0.mk (Kd.R_elder' (Fix.uR HO291.out) (Kd.R_base ho0) hb); have n2_ := Aside0.mk (Kd.R_lower (Kd.R_new' ho0 (Kd.R_lt (Fix.uR HO291.out))) (below_size Fix.uB)); have n3_ := Aside0.mk (below_step Fix.uB hb); clear HO_3; clear HO291; clear HB; have HO_3 := n0_; have HO291 := n1_; have HO294 := n2_; have HB := n3_; clear n0_ n1_ n2_ n3_; (try clear hb); (try clear hb2); (try clear hk); (try clear hi); (try clear ho0); obtain ⟨Ao12, co12, eo12⟩ := Kd.R_slice HO294.out; subst eo12) | ((with_reducible refine gate_builtin (b := .append) (xs := #[.tmp 11, .tmp 14]) rfl ?_); at_builtin; refine Kd.S_append (Kd.slice 3 (Kd.int .i64)) (w0 := w) w.heap.size rfl (.tmp 11) (.tmp 14) 22 39 (.slice none 0 0) 24 rfl Try.underlying22 info39 rfl (by decide) (by omega) u3 x3_1 t292 [.slice Ao12 t292.length co12] (fun k_ => some k_ ≠ (.slice Ao9 y289.length co9 : Value).ownBlock) (fun k_ => some k_ = (.slice Ao12 t292.length co12 : Value).ownBlock) rfl rfl ?aP (fun k_ hk_ => ((Kd.R_mono (ok' := fun k_ => ((fun k_ => some k_ ≠ (.slice Ao9 y289.length co9 : Value).ownBlock)) k_ ∧ some k_ ≠ (u3 : Value).ownBlock) (Kd.R_apart' (HO294.out) (Kd.S_typed HO_3.out) (by decide)) (fun k_ hk => ⟨hk.1.2, hk.2⟩))).1 k_ hk_.symm) ?aF ?aO ?aB ?aS ?aL ?_; (case aP => exact Kd.M_row (Kd.R_mono (Kd.R_tight rfl (Kd.R_mono (ok' := fun k_ => ((fun k_ => some k_ ≠ (.slice Ao9 y289.length co9 : Value).ownBlock)) k_ ∧ some k_ ≠ (u3 : Value).ownBlock) (Kd.R_apart' (HO294.out) (Kd.S_typed HO_3.out) (by decide)) (fun k_ hk => ⟨hk.1.2, hk.2⟩))) (fun _ h_ => h_))); (case aB => exact Fix.uB); (case aF => exact (fun k_ hk => Kd.fresh' (Kd.R_lt (Fix.uR HO291.out)) k_ hk)); (case aO => exact (by (with_reducible repeat (first | apply Kd.S_alloc | apply Kd.S_drewN | apply Kd.S_drew)); exact Kd.S_mono HO_3.out (fun k_ hk => ⟨hk.1.2, fun e_ => hk.2 e_⟩))); (case aS => exact (below_size Fix.uB)); (case aL => have := LMc6.out; omega); intro v296 w11 ho hb hg hat; rw [← Ny295.out] at ho; have n0_ := Aside0.mk (Kd.R_over' (Fix.uR HO291.out) (Kd.S_typed (Fix.uS HO_3.out)) (by decide) hg); have n1_ := Aside0.mk (hb); have n2_ := Aside0.mk (ho); clear HO291; clear HB; clear HO_3; clear HO294; have HO291 := n0_; have HB := n1_; have HO297 := n2_; clear n0_ n1_ n2_; clear ho hb hg hat))
            go_roundg k1
            case measure => have := HK1.out; omega
            case rel => exact ⟨(wrap64 (x0_1 - 1)), (y295), (by first | rfl | (simp; done) | (simp [*]; done)), H', ⟨by have := HK1.out; omega⟩, ⟨by (with_reducible repeat (first | apply Kd.S_alloc | apply Kd.S_drewN | apply Kd.S_drew)); exact Kd.S_mono HO297.out (fun _ hk => trivial)⟩, ⟨Fix.uB⟩⟩
          · rw [if_neg c6] at H
            exact absurd H (by simp)
        · rw [if_neg c4] at H
          have c4b0 : decide (0 < x0_1) = false := decide_eq_false c4
          clear c4
          obtain rfl := Option.some.inj H
          go_wp2
          go_ret
          exact ⟨_, by first | rfl | (simp [errW_none, errW_some] <;> rfl) | (simp [*, errW_none, errW_some] <;> rfl), by (with_reducible repeat (first | apply Kd.S_alloc | apply Kd.S_drewN | apply Kd.S_drew)); exact HO_3.out, Fix.uB⟩
  · replace c3 := Bool.eq_false_iff.mpr c3
    subst c3
    have H1 : (some ([] : List (List Int))) = some r := by rw [if_neg (show ¬ (false = true) by decide)] at H; exact H
    clear H
    have H := H1
    clear H1
    obtain rfl := Option.some.inj H
    go_enter Try.func22, Try.ntmps22
    go_wp2_with (first | ((with_reducible refine gate_callee (f := 49) rfl ?_); refine goesL_ (some 5) rfl rfl Try.func49 (by kernel_rfl) rfl #[.int .i64 a0, .int .i64 0, .int .i64 32] rfl Fix.uA ?_; (with_reducible refine (impl_within.calls a0 0 32 false _ A2.out).mono ?_); rintro e w' ⟨rfl, ⟨nd, rfl⟩⟩; refine ⟨_, rfl, ?_⟩))
    go_ret
    exact ⟨_, by first | rfl | (simp [errW_none, errW_some] <;> rfl) | (simp [*, errW_none, errW_some] <;> rfl), by first | exact Kd.S_nil _ _ _ _ _ | exact Kd.N_nil _ _ _ _ _ | exact Kd.V_nil _ _ _ _ _ | exact Kd.Q_nil _ _ _ _ _ | exact Kd.R_nil _ _ _ _ _, Fix.uB⟩

/-! ### laws_FnHalftones: function 5 -/
mutual
def laws_FnHalftones.l0 : Nat → List (List Int) → List (List Int) → Bool → List (List Int) → Bool → Int → Int → Option (Bool)
  | 0, _, _, _, _, _, _, _ => none
  | k + 1, x3, x4, x5, x6, x7, x8, x9 => if x9 < (x3.length : Int) then (laws_FnHalftones.l1 k x3 x4 x5 x6 x7 x8 x9 0) else ((impl_CountOnes.f k x6).bind fun t312 => ((impl_InkCoverage.f k x6).bind fun t313 => ((impl_WhiteRows.f k 3).bind fun t314 => ((impl_HalftonePage.f k t314 true).bind fun bt317 => (if x5 = true then (if x7 = true then ((impl_BitsOk.f k x4).bind fun t321 => (if t321 = true then ((impl_BitsOk.f k x6).bind fun t322 => (if t322 = true then (if (x4.length : Int) = (x3.length : Int) then (if (x6.length : Int) = (x3.length : Int) then (if (wrap64 ((wrap64 (255 * t312)) - x8)) ≤ 8160 then (if (wrap64 (-(wrap64 ((wrap64 (255 * t312)) - x8)))) ≤ 8160 then (if t313 ≥ 0 then (if t313 ≤ 1000 then ((impl_CountOnes.f k bt317.1).bind fun t323 => (some (t323 == 0))) else (some false)) else (some false)) else (some false)) else (some false)) else (some false)) else (some false)) else (some false))) else (some false))) else (some false)) else (some false))))))
def laws_FnHalftones.l1 : Nat → List (List Int) → List (List Int) → Bool → List (List Int) → Bool → Int → Int → Int → Option (Bool)
  | 0, _, _, _, _, _, _, _, _ => none
  | k + 1, x3, x4, x5, x6, x7, x8, x9, x10 => if x10 < 32 then (if 0 ≤ x9 then (if x9 < (x3.length : Int) then (if 0 ≤ x10 then (if x10 < ((rd_L1 x3 x9).length : Int) then (laws_FnHalftones.l1 k x3 x4 x5 x6 x7 (wrap64 ((wrap64 (x8 + 255)) - (rd (rd_L1 x3 x9) x10))) x9 (wrap64 (x10 + 1))) else (none)) else (none)) else (none)) else (none)) else (laws_FnHalftones.l0 k x3 x4 x5 x6 x7 x8 (wrap64 (x9 + 1)))
end
def laws_FnHalftones.f (k : Nat) (l0 : List Int) : Option (Bool) := (laws_big.f l0).bind fun t298 => (if t298 = true then (some true) else ((spec_DrawRows.f k l0).bind fun t299 => ((impl_HalftonePage.f k t299 true).bind fun bt302 => ((impl_HalftonePage.f k t299 false).bind fun bt306 => (laws_FnHalftones.l0 k t299 bt302.1 bt302.2 bt306.1 bt306.2 0 0)))))
theorem laws_FnHalftones.mono_l : ∀ k, (∀ y0 y1 y2 y3 y4 y5 y6, LeO (laws_FnHalftones.l0 k y0 y1 y2 y3 y4 y5 y6) (laws_FnHalftones.l0 (k + 1) y0 y1 y2 y3 y4 y5 y6)) ∧ (∀ y0 y1 y2 y3 y4 y5 y6 y7, LeO (laws_FnHalftones.l1 k y0 y1 y2 y3 y4 y5 y6 y7) (laws_FnHalftones.l1 (k + 1) y0 y1 y2 y3 y4 y5 y6 y7))
  | 0 => ⟨fun _ _ _ _ _ _ _ r h => by simp [laws_FnHalftones.l0] at h, fun _ _ _ _ _ _ _ _ r h => by simp [laws_FnHalftones.l1] at h⟩
  | k + 1 => by
    obtain ⟨ih0, ih1⟩ := laws_FnHalftones.mono_l k
    refine ⟨?_, ?_⟩
    · intro y0 y1 y2 y3 y4 y5 y6
      unfold laws_FnHalftones.l0
      repeat' first
      | (with_reducible exact ih0 _ _ _ _ _ _ _)
      | (with_reducible exact ih1 _ _ _ _ _ _ _ _)
      | (with_reducible exact impl_BitsOk.mono _ _)
      | (with_reducible exact impl_CountOnes.mono _ _)
      | (with_reducible exact impl_HalftonePage.mono _ _ _)
      | (with_reducible exact impl_InkCoverage.mono _ _)
      | (with_reducible exact impl_WhiteRows.mono _ _)
      | (with_reducible exact spec_DrawRows.mono _ _)
      | (with_reducible exact LeO.refl _)
      | (with_reducible exact LeO.none _)
      | (with_reducible refine LeO.ite ?_ ?_)
      | (with_reducible refine LeO.bind ?_ (fun _ => ?_))
      | exact ih0 _ _ _ _ _ _ _
      | exact ih1 _ _ _ _ _ _ _ _
      | exact impl_BitsOk.mono _ _
      | exact impl_CountOnes.mono _ _
      | exact impl_HalftonePage.mono _ _ _
      | exact impl_InkCoverage.mono _ _
      | exact impl_WhiteRows.mono _ _
      | exact spec_DrawRows.mono _ _
      | exact LeO.none _
      | refine LeO.ite ?_ ?_
      | refine LeO.bind ?_ (fun _ => ?_)
    · intro y0 y1 y2 y3 y4 y5 y6 y7
      unfold laws_FnHalftones.l1
      repeat' first
      | (with_reducible exact ih0 _ _ _ _ _ _ _)
      | (with_reducible exact ih1 _ _ _ _ _ _ _ _)
      | (with_reducible exact impl_BitsOk.mono _ _)
      | (with_reducible exact impl_CountOnes.mono _ _)
      | (with_reducible exact impl_HalftonePage.mono _ _ _)
      | (with_reducible exact impl_InkCoverage.mono _ _)
      | (with_reducible exact impl_WhiteRows.mono _ _)
      | (with_reducible exact spec_DrawRows.mono _ _)
      | (with_reducible exact LeO.refl _)
      | (with_reducible exact LeO.none _)
      | (with_reducible refine LeO.ite ?_ ?_)
      | (with_reducible refine LeO.bind ?_ (fun _ => ?_))
      | exact ih0 _ _ _ _ _ _ _
      | exact ih1 _ _ _ _ _ _ _ _
      | exact impl_BitsOk.mono _ _
      | exact impl_CountOnes.mono _ _
      | exact impl_HalftonePage.mono _ _ _
      | exact impl_InkCoverage.mono _ _
      | exact impl_WhiteRows.mono _ _
      | exact spec_DrawRows.mono _ _
      | exact LeO.none _
      | refine LeO.ite ?_ ?_
      | refine LeO.bind ?_ (fun _ => ?_)
theorem laws_FnHalftones.mono : ∀ a0 k, LeO (laws_FnHalftones.f k a0) (laws_FnHalftones.f (k + 1) a0) := by
  intro a0 k
  obtain ⟨ih0, ih1⟩ := laws_FnHalftones.mono_l k
  unfold laws_FnHalftones.f
  repeat' first
      | (with_reducible exact ih0 _ _ _ _ _ _ _)
      | (with_reducible exact ih1 _ _ _ _ _ _ _ _)
      | (with_reducible exact impl_BitsOk.mono _ _)
      | (with_reducible exact impl_CountOnes.mono _ _)
      | (with_reducible exact impl_HalftonePage.mono _ _ _)
      | (with_reducible exact impl_InkCoverage.mono _ _)
      | (with_reducible exact impl_WhiteRows.mono _ _)
      | (with_reducible exact spec_DrawRows.mono _ _)
      | (with_reducible exact LeO.refl _)
      | (with_reducible exact LeO.none _)
      | (with_reducible refine LeO.ite ?_ ?_)
      | (with_reducible refine LeO.bind ?_ (fun _ => ?_))
      | exact ih0 _ _ _ _ _ _ _
      | exact ih1 _ _ _ _ _ _ _ _
      | exact impl_BitsOk.mono _ _
      | exact impl_CountOnes.mono _ _
      | exact impl_HalftonePage.mono _ _ _
      | exact impl_InkCoverage.mono _ _
      | exact impl_WhiteRows.mono _ _
      | exact spec_DrawRows.mono _ _
      | exact LeO.none _
      | refine LeO.ite ?_ ?_
      | refine LeO.bind ?_ (fun _ => ?_)
set_option maxHeartbeats 8000000 in
set_option maxRecDepth 100000 in
theorem laws_FnHalftones.calls (k : Nat) (A0 : Option Addr) (c0 : Nat) (l0 : List Int) (r : Bool) (w : World) (hr0 : Kd.C (Kd.int .u8) w A0 l0.length l0) (hc0 : l0.length ≤ c0) (hT : r = true) (h : laws_FnHalftones.f k l0 = some r) :
    Calls Try.prog 5 #[.slice A0 l0.length c0] w fun e w' => e = .returned (.bool r) ∧ Below w.heap.size w w' := by
  have HR0 := Aside0.mk hr0
  have HC0 := Aside0.mk hc0
  (try clear hr0); (try clear hc0)
  replace hT := Aside0.mk hT
  have HB := Aside0.mk (Below.refl w.heap.size w)
  have H : ((laws_big.f l0).bind fun t298 => (if t298 = true then (some true) else ((spec_DrawRows.f k l0).bind fun t299 => ((impl_HalftonePage.f k t299 true).bind fun bt302 => ((impl_HalftonePage.f k t299 false).bind fun bt306 => (laws_FnHalftones.l0 k t299 bt302.1 bt302.2 bt306.1 bt306.2 0 0)))))) = some r := h
  clear h
  replace H := Option.bind_eq_some_iff.mp H
  obtain ⟨t298, A20, H⟩ := H
  replace H : (if t298 = true then (some true) else ((spec_DrawRows.f k l0).bind fun t299 => ((impl_HalftonePage.f k t299 true).bind fun bt302 => ((impl_HalftonePage.f k t299 false).bind fun bt306 => (laws_FnHalftones.l0 k t299 bt302.1 bt302.2 bt306.1 bt306.2 0 0))))) = some r := H
  have A2 := Aside0.mk A20
  clear A20
  by_cases c3 : t298 = true
  · subst c3
    have H1 : (some true) = some r := by rw [if_pos rfl] at H; exact H
    clear H
    have H := H1
    clear H1
    obtain rfl := Option.some.inj H
    go_enter Try.func5, Try.ntmps5
    go_wp2_with (first | ((with_reducible refine gate_callee (f := 18) rfl ?_); refine goesL_ (some 16) rfl rfl Try.func18 (by kernel_rfl) rfl #[.slice A0 l0.length c0] rfl Fix.uA ?_; (with_reducible refine (laws_big.calls _ _ l0 true _ ?side1 ?side2 A2.out).mono ?_); (case side1 => exact Fix.uC HR0.out); (case side2 => exact HC0.out); rintro e w' ⟨rfl, ⟨nd, rfl⟩⟩; refine ⟨_, rfl, ?_⟩))
    go_ret
    exact ⟨by first | rfl | (simp [errW_none, errW_some] <;> rfl) | (simp [*, errW_none, errW_some] <;> rfl), Fix.uB⟩
  · replace c3 := Bool.eq_false_iff.mpr c3
    subst c3
    have H1 : ((spec_DrawRows.f k l0).bind fun t299 => ((impl_HalftonePage.f k t299 true).bind fun bt302 => ((impl_HalftonePage.f k t299 false).bind fun bt306 => (laws_FnHalftones.l0 k t299 bt302.1 bt302.2 bt306.1 bt306.2 0 0)))) = some r := by rw [if_neg (show ¬ (false = true) by decide)] at H; exact H
    clear H
    have H := H1
    clear H1
    replace H := Option.bind_eq_some_iff.mp H
    obtain ⟨t299, A40, H⟩ := H
    replace H : ((impl_HalftonePage.f k t299 true).bind fun bt302 => ((impl_HalftonePage.f k t299 false).bind fun bt306 => (laws_FnHalftones.l0 k t299 bt302.1 bt302.2 bt306.1 bt306.2 0 0))) = some r := H
    have A4 := Aside0.mk A40
    clear A40
    replace H := Option.bind_eq_some_iff.mp H
    obtain ⟨⟨t302, t303⟩, A50, H⟩ := H
    replace H : ((impl_HalftonePage.f k t299 false).bind fun bt306 => (laws_FnHalftones.l0 k t299 t302 t303 bt306.1 bt306.2 0 0)) = some r := H
    have A5 := Aside0.mk A50
    clear A50
    replace H := Option.bind_eq_some_iff.mp H
    obtain ⟨⟨t306, t307⟩, A60, H⟩ := H
    replace H : (laws_FnHalftones.l0 k t299 t302 t303 t306 t307 0 0) = some r := H
    have A6 := Aside0.mk A60
    clear A60
    have H' := Aside0.mk H
    clear H
    go_enter Try.func5, Try.ntmps5
    go_wp2_with (first | ((with_reducible refine gate_callee (f := 18) rfl ?_); refine goesL_ (some 16) rfl rfl Try.func18 (by kernel_rfl) rfl #[.slice A0 l0.length c0] rfl Fix.uA ?_; (with_reducible refine (laws_big.calls _ _ l0 false _ ?side1 ?side2 A2.out).mono ?_); (case side1 => exact Fix.uC HR0.out); (case side2 => exact HC0.out); rintro e w' ⟨rfl, ⟨nd, rfl⟩⟩; refine ⟨_, rfl, ?_⟩) | ((with_reducible refine gate_callee (f := 19) rfl ?_); refine goesL_ (some 18) rfl rfl Try.func19 (by kernel_rfl) rfl #[.slice A0 l0.length c0] rfl Fix.uA ?_; (with_reducible refine (spec_DrawRows.calls k _ _ l0 t299 _ ?side1 ?side2 A4.out).mono ?_); (case side1 => exact Fix.uC HR0.out); (case side2 => exact HC0.out); rintro e w7 ⟨v300, rfl, ho0, hb⟩; refine ⟨_, rfl, ?_⟩; have n0_ := Aside0.mk (Kd.S_lower ho0 (below_size Fix.uB)); have n1_ := Aside0.mk (below_step Fix.uB hb); clear HB; have HO301 := n0_; have HB := n1_; clear n0_ n1_; (try clear hb); (try clear hb2); (try clear hk); (try clear hi); (try clear ho0); obtain ⟨Ao8, co8, eo8⟩ := Kd.S_slice HO301.out; subst eo8) | ((with_reducible refine gate_callee (f := 20) rfl ?_); refine goesL_ (some 21) rfl rfl Try.func20 (by kernel_rfl) rfl #[.slice Ao8 t299.length co8, .bool true] rfl Fix.uA ?_; (with_reducible refine (impl_HalftonePage.calls k _ _ t299 true t302 t303 _ ?side1 ?side2 A5.out).mono ?_); (case side1 => exact Fix.uC (Kd.S_reads' HO301.out).2.2); (case side2 => exact (Kd.S_reads' HO301.out).2.1); rintro e w9 ⟨v304, rfl, ho0, hb⟩; refine ⟨_, rfl, ?_⟩; have n0_ := Aside0.mk (Kd.S_elder' (Fix.uS HO301.out) (Kd.S_base ho0) hb); have n1_ := Aside0.mk (Kd.S_lower (Kd.S_new' ho0 (Kd.S_lt (Fix.uS HO301.out))) (below_size Fix.uB)); have n2_ := Aside0.mk (below_step Fix.uB hb); clear HO301; clear HB; have HO301 := n0_; have HO305 := n1_; have HB := n2_; clear n0_ n1_ n2_; (try clear hb); (try clear hb2); (try clear hk); (try clear hi); (try clear ho0)) | ((with_reducible refine gate_callee (f := 20) rfl ?_); refine goesL_ (some 26) rfl rfl Try.func20 (by kernel_rfl) rfl #[.slice Ao8 t299.length co8, .bool false] rfl Fix.uA ?_; (with_reducible refine (impl_HalftonePage.calls k _ _ t299 false t306 t307 _ ?side1 ?side2 A6.out).mono ?_); (case side1 => exact Fix.uC (Kd.S_reads' HO301.out).2.2); (case side2 => exact (Kd.S_reads' HO301.out).2.1); rintro e w10 ⟨v308, rfl, ho0, hb⟩; refine ⟨_, rfl, ?_⟩; have n0_ := Aside0.mk (Kd.S_elder' (Fix.uS HO301.out) (Kd.S_base ho0) hb); have n1_ := Aside0.mk (Kd.S_elder' (Fix.uS HO305.out) (Kd.S_base ho0) hb); have n2_ := Aside0.mk (Kd.S_lower (Kd.S_new' (Kd.S_new' ho0 (Kd.S_lt (Fix.uS HO301.out))) (Kd.S_lt (Fix.uS HO305.out))) (below_size Fix.uB)); have n3_ := Aside0.mk (below_step Fix.uB hb); clear HO301; clear HO305; clear HB; have HO301 := n0_; have HO305 := n1_; have HO309 := n2_; have HB := n3_; clear n0_ n1_ n2_ n3_; (try clear hb); (try clear hb2); (try clear hk); (try clear hi); (try clear ho0)))
    go_loopg [8, 9] k (fun kq v8 v9 w' => ∃ (x8_1 : Int) (x9_1 : Int), v8 = .int .i64 x8_1 ∧ v9 = .int .i64 x9_1 ∧ Aside0 (laws_FnHalftones.l0 kq t299 t302 t303 t306 t307 x8_1 x9_1 = some r) ∧ Aside0 (kq ≤ k) ∧ Aside0 (Kd.S (Kd.slice 3 (Kd.int .i64)) 39 w' w.heap.size (fun k_ => some k_ ≠ (v304 : Value).ownBlock ∧ some k_ ≠ (v308 : Value).ownBlock) (.slice Ao8 t299.length co8) t299) ∧ Aside0 (Kd.S (Kd.slice 3 (Kd.int .i64)) 39 w' w.heap.size (fun k_ => some k_ ≠ Fix.o Ao8 t299.length co8 ∧ some k_ ≠ (v308 : Value).ownBlock) v304 t302) ∧ Aside0 (Kd.S (Kd.slice 3 (Kd.int .i64)) 39 w' w.heap.size (fun k_ => some k_ ≠ Fix.o Ao8 t299.length co8 ∧ some k_ ≠ (v304 : Value).ownBlock) v308 t306) ∧ Aside0 (Below w.heap.size w w'))
    case atStart => exact ⟨(0), (0), (by first | rfl | (simp; done) | (simp [*]; done)), (by first | rfl | (simp; done) | (simp [*]; done)), H', ⟨Nat.le_refl _⟩, ⟨by (with_reducible repeat (first | apply Kd.S_alloc | apply Kd.S_drewN | apply Kd.S_drew)); exact Kd.S_mono HO301.out (fun _ hk => ⟨hk.1.2, hk.2⟩)⟩, ⟨by (with_reducible repeat (first | apply Kd.S_alloc | apply Kd.S_drewN | apply Kd.S_drew)); exact Kd.S_mono HO305.out (fun _ hk => ⟨hk.1.2, hk.2⟩)⟩, ⟨by (with_reducible repeat (first | apply Kd.S_alloc | apply Kd.S_drewN | apply Kd.S_drew)); exact Kd.S_mono HO309.out (fun _ hk => ⟨hk.1.2, hk.2⟩)⟩, ⟨Fix.uB⟩⟩
    case round =>
      clear H'
      try clear c1
      try clear c2
      try clear p2
      try clear c3
      try clear c5
      obtain ⟨x8_1, x9_1, rfl, rfl, HA, HK1, HO_3, HO_4, HO_6, HB⟩ := hrel
      cases gk with
      | zero => exact absurd HA.out (by simp [laws_FnHalftones.l0])
      | succ k1 =>
        have H := HA.out
        clear HA
        simp only [laws_FnHalftones.l0] at H
        by_cases c11 : x9_1 < (t299.length : Int)
        · rw [if_pos c11] at H
          have c11b0 : decide (x9_1 < (t299.length : Int)) = true := decide_eq_true c11
          clear c11
          have H' := Aside0.mk H
          clear H
          go_wp2
          go_loopg [8, 10] k1 (fun kq v8 v10 w' => ∃ (x8_2 : Int) (x10_2 : Int), v8 = .int .i64 x8_2 ∧ v10 = .int .i64 x10_2 ∧ Aside0 (laws_FnHalftones.l1 kq t299 t302 t303 t306 t307 x8_2 x9_1 x10_2 = some r) ∧ Aside0 (kq ≤ k1) ∧ Aside0 (Kd.S (Kd.slice 3 (Kd.int .i64)) 39 w' w.heap.size (fun k_ => some k_ ≠ (v304 : Value).ownBlock ∧ some k_ ≠ (v308 : Value).ownBlock) (.slice Ao8 t299.length co8) t299) ∧ Aside0 (Kd.S (Kd.slice 3 (Kd.int .i64)) 39 w' w.heap.size (fun k_ => some k_ ≠ Fix.o Ao8 t299.length co8 ∧ some k_ ≠ (v308 : Value).ownBlock) v304 t302) ∧ Aside0 (Kd.S (Kd.slice 3 (Kd.int .i64)) 39 w' w.heap.size (fun k_ => some k_ ≠ Fix.o Ao8 t299.length co8 ∧ some k_ ≠ (v304 : Value).ownBlock) v308 t306) ∧ Aside0 (Below w.heap.size w w'))
          case atStart => exact ⟨(x8_1), (0), (by first | rfl | (simp; done) | (simp [*]; done)), (by first | rfl | (simp; done) | (simp [*]; done)), H', ⟨Nat.le_refl _⟩, ⟨by (with_reducible repeat (first | apply Kd.S_alloc | apply Kd.S_drewN | apply Kd.S_drew)); exact HO_3.out⟩, ⟨by (with_reducible repeat (first | apply Kd.S_alloc | apply Kd.S_drewN | apply Kd.S_drew)); exact HO_4.out⟩, ⟨by (with_reducible repeat (first | apply Kd.S_alloc | apply Kd.S_drewN | apply Kd.S_drew)); exact HO_6.out⟩, ⟨Fix.uB⟩⟩
          case round =>
            clear H'
            try clear c1
            try clear c2
            try clear p2
            try clear c3
            try clear c5
            try clear c11
            try clear c11b0
            try clear p2
            obtain ⟨x8_2, x10_2, rfl, rfl, HA, HK2, HO_3, HO_4, HO_6, HB⟩ := hrel
            cases gk with
            | zero => exact absurd HA.out (by simp [laws_FnHalftones.l1])
            | succ k2 =>
              have H := HA.out
              clear HA
              simp only [laws_FnHalftones.l1] at H
              by_cases c12 : x10_2 < 32
              · rw [if_pos c12] at H
                have c12b0 : decide (x10_2 < 32) = true := decide_eq_true c12
                clear c12
                by_cases c13 : 0 ≤ x9_1
                · rw [if_pos c13] at H
                  have c13b0 : decide (0 ≤ x9_1) = true := decide_eq_true c13
                  clear c13
                  by_cases c14 : x9_1 < (t299.length : Int)
                  · rw [if_pos c14] at H
                    have c14b0 : decide (x9_1 < (t299.length : Int)) = true := decide_eq_true c14
                    clear c14
                    by_cases c15 : 0 ≤ x10_2
                    · rw [if_pos c15] at H
                      have c15b0 : decide (0 ≤ x10_2) = true := decide_eq_true c15
                      clear c15
                      by_cases c16 : x10_2 < ((rd_L1 t299 x9_1).length : Int)
                      · rw [if_pos c16] at H
                        have c16b0 : decide (x10_2 < ((rd_L1 t299 x9_1).length : Int)) = true := decide_eq_true c16
                        clear c16
                        have H' := Aside0.mk H
                        clear H
                        have p310 : 0 ≤ (x9_1 : Int) := of_decide_eq_true (by first | (with_reducible assumption) | assumption)
                        have q310 : x9_1 < (t299.length : Int) := of_decide_eq_true (by first | (with_reducible assumption) | assumption)
                        obtain ⟨ad310, A310_0, c310_0, e310, hx310_0, hl310_0, hi310_0⟩ := at_L1 (Kd.S_reads' HO_3.out).2.2 x9_1 p310 q310
                        cases e310
                        obtain ⟨ce310, hce310, hMe310, hcc310⟩ := Kd.S_get HO_3.out [] x9_1 p310 (by first | exact q310 | exact of_decide_eq_true (by first | (with_reducible assumption) | assumption) | (have e_ := (Kd.S_reads' HO_3.out).1; omega))
                        obtain ⟨ve310_0, rfl, ge310_0⟩ := hMe310
                        have hv310_0 := hcc310 0 _ rfl
                        rw [Nat.add_zero, show ((Kd.slice 3 (Kd.int .i64))).sz = 1 from rfl, Nat.mul_one] at hv310_0
                        replace hv310_0 := Option.some.inj (hv310_0.symm.trans hx310_0)
                        rw [hv310_0] at ge310_0
                        have HL310_0 := Aside0.mk (show Kd.R (Kd.int .i64) 3 _ _ _ _ (rd_L1 t299 x9_1) from ge310_0)
                        clear hv310_0 ge310_0
                        (try clear hcc310); (try clear hce310)
                        have HR310_0 := Aside0.mk hi310_0
                        have HC310_0 := Aside0.mk hl310_0
                        clear hi310_0 hl310_0
                        replace p310 := eq_true p310
                        replace q310 := eq_true q310
                        have p311 : 0 ≤ (x10_2 : Int) := of_decide_eq_true (by first | (with_reducible assumption) | assumption)
                        have q311 : x10_2 < ((rd_L1 t299 x9_1).length : Int) := of_decide_eq_true (by first | (with_reducible assumption) | assumption)
                        obtain ⟨ad311, e311, hx311_0⟩ := Kd.at_int (by repeat (first | (with_reducible exact HR310_0.out) | (with_reducible refine Kd.C_alloc ?_ _) | (with_reducible refine Kd.C_drewN ?_ _) | (with_reducible refine Kd.C_drew ?_) | exact HR310_0.out)) x10_2 p311 q311
                        cases e311
                        replace p311 := eq_true p311
                        replace q311 := eq_true q311
                        go_wp2
                        go_roundg k2
                        case measure => have := HK1.out; have := HK2.out; omega
                        case rel => exact ⟨(wrap64 ((wrap64 (x8_2 + 255)) - (rd (rd_L1 t299 x9_1) x10_2))), (wrap64 (x10_2 + 1)), (by first | rfl | (simp; done) | (simp [*]; done)), (by first | rfl | (simp; done) | (simp [*]; done)), H', ⟨by have := HK1.out; have := HK2.out; omega⟩, ⟨by (with_reducible repeat (first | apply Kd.S_alloc | apply Kd.S_drewN | apply Kd.S_drew)); exact HO_3.out⟩, ⟨by (with_reducible repeat (first | apply Kd.S_alloc | apply Kd.S_drewN | apply Kd.S_drew)); exact HO_4.out⟩, ⟨by (with_reducible repeat (first | apply Kd.S_alloc | apply Kd.S_drewN | apply Kd.S_drew)); exact HO_6.out⟩, ⟨Fix.uB⟩⟩
                      · rw [if_neg c16] at H
                        exact absurd H (by simp)
                    · rw [if_neg c15] at H
                      exact absurd H (by simp)
                  · rw [if_neg c14] at H
                    exact absurd H (by simp)
                · rw [if_neg c13] at H
                  exact absurd H (by simp)
              · rw [if_neg c12] at H
                have c12b0 : decide (x10_2 < 32) = false := decide_eq_false c12
                clear c12
                have H' := Aside0.mk H
                clear H
                go_wp2
                go_roundg k2
                case measure => have := HK1.out; have := HK2.out; omega
                case rel => exact ⟨(x8_2), (wrap64 (x9_1 + 1)), (by first | rfl | (simp; done) | (simp [*]; done)), (by first | rfl | (simp; done) | (simp [*]; done)), H', ⟨by have := HK1.out; have := HK2.out; omega⟩, ⟨by (with_reducible repeat (first | apply Kd.S_alloc | apply Kd.S_drewN | apply Kd.S_drew)); exact HO_3.out⟩, ⟨by (with_reducible repeat (first | apply Kd.S_alloc | apply Kd.S_drewN | apply Kd.S_drew)); exact HO_4.out⟩, ⟨by (with_reducible repeat (first | apply Kd.S_alloc | apply Kd.S_drewN | apply Kd.S_drew)); exact HO_6.out⟩, ⟨Fix.uB⟩⟩
        · rw [if_neg c11] at H
          have c11b0 : decide (x9_1 < (t299.length : Int)) = false := decide_eq_false c11
          clear c11
          replace H := Option.bind_eq_some_iff.mp H
          obtain ⟨t312, A170, H⟩ := H
          replace H : ((impl_InkCoverage.f k1 t306).bind fun t313 => ((impl_WhiteRows.f k1 3).bind fun t314 => ((impl_HalftonePage.f k1 t314 true).bind fun bt317 => (if t303 = true then (if t307 = true then ((impl_BitsOk.f k1 t302).bind fun t321 => (if t321 = true then ((impl_BitsOk.f k1 t306).bind fun t322 => (if t322 = true then (if (t302.length : Int) = (t299.length : Int) then (if (t306.length : Int) = (t299.length : Int) then (if (wrap64 ((wrap64 (255 * t312)) - x8_1)) ≤ 8160 then (if (wrap64 (-(wrap64 ((wrap64 (255 * t312)) - x8_1)))) ≤ 8160 then (if t313 ≥ 0 then (if t313 ≤ 1000 then ((impl_CountOnes.f k1 bt317.1).bind fun t323 => (some (t323 == 0))) else (some false)) else (some false)) else (some false)) else (some false)) else (some false)) else (some false)) else (some false))) else (some false))) else (some false)) else (some false))))) = some r := H
          have A17 := Aside0.mk A170
          clear A170
          replace H := Option.bind_eq_some_iff.mp H
          obtain ⟨t313, A180, H⟩ := H
          replace H : ((impl_WhiteRows.f k1 3).bind fun t314 => ((impl_HalftonePage.f k1 t314 true).bind fun bt317 => (if t303 = true then (if t307 = true then ((impl_BitsOk.f k1 t302).bind fun t321 => (if t321 = true then ((impl_BitsOk.f k1 t306).bind fun t322 => (if t322 = true then (if (t302.length : Int) = (t299.length : Int) then (if (t306.length : Int) = (t299.length : Int) then (if (wrap64 ((wrap64 (255 * t312)) - x8_1)) ≤ 8160 then (if (wrap64 (-(wrap64 ((wrap64 (255 * t312)) - x8_1)))) ≤ 8160 then (if t313 ≥ 0 then (if t313 ≤ 1000 then ((impl_CountOnes.f k1 bt317.1).bind fun t323 => (some (t323 == 0))) else (some false)) else (some false)) else (some false)) else (some false)) else (some false)) else (some false)) else (some false))) else (some false))) else (some false)) else (some false)))) = some r := H
          have A18 := Aside0.mk A180
          clear A180
          replace H := Option.bind_eq_some_iff.mp H
          obtain ⟨t314, A190, H⟩ := H
          replace H : ((impl_HalftonePage.f k1 t314 true).bind fun bt317 => (if t303 = true then (if t307 = true then ((impl_BitsOk.f k1 t302).bind fun t321 => (if t321 = true then ((impl_BitsOk.f k1 t306).bind fun t322 => (if t322 = true then (if (t302.length : Int) = (t299.length : Int) then (if (t306.length : Int) = (t299.length : Int) then (if (wrap64 ((wrap64 (255 * t312)) - x8_1)) ≤ 8160 then (if (wrap64 (-(wrap64 ((wrap64 (255 * t312)) - x8_1)))) ≤ 8160 then (if t313 ≥ 0 then (if t313 ≤ 1000 then ((impl_CountOnes.f k1 bt317.1).bind fun t323 => (some (t323 == 0))) else (some false)) else (some false)) else (some false)) else (some false)) else (some false)) else (some false)) else (some false))) else (some false))) else (some false)) else (some false))) = some r := H
          have A19 := Aside0.mk A190
          clear A190
          replace H := Option.bind_eq_some_iff.mp H
          obtain ⟨⟨t317, t318⟩, A200, H⟩ := H
          replace H : (if t303 = true then (if t307 = true then ((impl_BitsOk.f k1 t302).bind fun t321 => (if t321 = true then ((impl_BitsOk.f k1 t306).bind fun t322 => (if t322 = true then (if (t302.length : Int) = (t299.length : Int) then (if (t306.length : Int) = (t299.length : Int) then (if (wrap64 ((wrap64 (255 * t312)) - x8_1)) ≤ 8160 then (if (wrap64 (-(wrap64 ((wrap64 (255 * t312)) - x8_1)))) ≤ 8160 then (if t313 ≥ 0 then (if t313 ≤ 1000 then ((impl_CountOnes.f k1 t317).bind fun t323 => (some (t323 == 0))) else (some false)) else (some false)) else (some false)) else (some false)) else (some false)) else (some false)) else (some false))) else (some false))) else (some false)) else (some false)) = some r := H
          have A20 := Aside0.mk A200
          clear A200
          by_cases c21 : t303 = true
          · subst c21
            have H1 : (if t307 = true then ((impl_BitsOk.f k1 t302).bind fun t321 => (if t321 = true then ((impl_BitsOk.f k1 t306).bind fun t322 => (if t322 = true then (if (t302.length : Int) = (t299.length : Int) then (if (t306.length : Int) = (t299.length : Int) then (if (wrap64 ((wrap64 (255 * t312)) - x8_1)) ≤ 8160 then (if (wrap64 (-(wrap64 ((wrap64 (255 * t312)) - x8_1)))) ≤ 8160 then (if t313 ≥ 0 then (if t313 ≤ 1000 then ((impl_CountOnes.f k1 t317).bind fun t323 => (some (t323 == 0))) else (some false)) else (some false)) else (some false)) else (some false)) else (some false)) else (some false)) else (some false))) else (some false))) else (some false)) = some r := by rw [if_pos rfl] at H; exact H
            clear H
            have H := H1
            clear H1
            by_cases c22 : t307 = true
            · subst c22
              have H1 : ((impl_BitsOk.f k1 t302).bind fun t321 => (if t321 = true then ((impl_BitsOk.f k1 t306).bind fun t322 => (if t322 = true then (if (t302.length : Int) = (t299.length : Int) then (if (t306.length : Int) = (t299.length : Int) then (if (wrap64 ((wrap64 (255 * t312)) - x8_1)) ≤ 8160 then (if (wrap64 (-(wrap64 ((wrap64 (255 * t312)) - x8_1)))) ≤ 8160 then (if t313 ≥ 0 then (if t313 ≤ 1000 then ((impl_CountOnes.f k1 t317).bind fun t323 => (some (t323 == 0))) else (some false)) else (some false)) else (some false)) else (some false)) else (some false)) else (some false)) else (some false))) else (some false))) = some r := by rw [if_pos rfl] at H; exact H
              clear H
              have H := H1
              clear H1
              replace H := Option.bind_eq_some_iff.mp H
              obtain ⟨t321, A230, H⟩ := H
              replace H : (if t321 = true then ((impl_BitsOk.f k1 t306).bind fun t322 => (if t322 = true then (if (t302.length : Int) = (t299.length : Int) then (if (t306.length : Int) = (t299.length : Int) then (if (wrap64 ((wrap64 (255 * t312)) - x8_1)) ≤ 8160 then (if (wrap64 (-(wrap64 ((wrap64 (255 * t312)) - x8_1)))) ≤ 8160 then (if t313 ≥ 0 then (if t313 ≤ 1000 then ((impl_CountOnes.f k1 t317).bind fun t323 => (some (t323 == 0))) else (some false)) else (some false)) else (some false)) else (some false)) else (some false)) else (some false)) else (some false))) else (some false)) = some r := H
              have A23 := Aside0.mk A230
              clear A230
              by_cases c24 : t321 = true
              · subst c24
                have H1 : ((impl_BitsOk.f k1 t306).bind fun t322 => (if t322 = true then (if (t302.length : Int) = (t299.length : Int) then (if (t306.length : Int) = (t299.length : Int) then (if (wrap64 ((wrap64 (255 * t312)) - x8_1)) ≤ 8160 then (if (wrap64 (-(wrap64 ((wrap64 (255 * t312)) - x8_1)))) ≤ 8160 then (if t313 ≥ 0 then (if t313 ≤ 1000 then ((impl_CountOnes.f k1 t317).bind fun t323 => (some (t323 == 0))) else (some false)) else (some false)) else (some false)) else (some false)) else (some false)) else (some false)) else (some false))) = some r := by rw [if_pos rfl] at H; exact H
                clear H
                have H := H1
                clear H1
                replace H := Option.bind_eq_some_iff.mp H
                obtain ⟨t322, A250, H⟩ := H
                replace H : (if t322 = true then (if (t302.length : Int) = (t299.length : Int) then (if (t306.length : Int) = (t299.length : Int) then (if (wrap64 ((wrap64 (255 * t312)) - x8_1)) ≤ 8160 then (if (wrap64 (-(wrap64 ((wrap64 (255 * t312)) - x8_1)))) ≤ 8160 then (if t313 ≥ 0 then (if t313 ≤ 1000 then ((impl_CountOnes.f k1 t317).bind fun t323 => (some (t323 == 0))) else (some false)) else (some false)) else (some false)) else (some false)) else (some false)) else (some false)) else (some false)) = some r := H
                have A25 := Aside0.mk A250
                clear A250
                by_cases c26 : t322 = true
                · subst c26
                  have H1 : (if (t302.length : Int) = (t299.length : Int) then (if (t306.length : Int) = (t299.length : Int) then (if (wrap64 ((wrap64 (255 * t312)) - x8_1)) ≤ 8160 then (if (wrap64 (-(wrap64 ((wrap64 (255 * t312)) - x8_1)))) ≤ 8160 then (if t313 ≥ 0 then (if t313 ≤ 1000 then ((impl_CountOnes.f k1 t317).bind fun t323 => (some (t323 == 0))) else (some false)) else (some false)) else (some false)) else (some false)) else (some false)) else (some false)) = some r := by rw [if_pos rfl] at H; exact H
                  clear H
                  have H := H1
                  clear H1
                  by_cases c27 : (t302.length : Int) = (t299.length : Int)
                  · rw [if_pos c27] at H
                    have c27b0 : ((t302.length : Int) == (t299.length : Int)) = true := beq_iff_eq.mpr c27
                    have c27b1 : ((t302.length : Int) != (t299.length : Int)) = false := bne_eq_false_iff_eq.mpr c27
                    have c27b2 : (t302.length == t299.length) = true := by first | simpa using c27 | (simp at c27 ⊢; omega)
                    clear c27
                    by_cases c28 : (t306.length : Int) = (t299.length : Int)
                    · rw [if_pos c28] at H
                      have c28b0 : ((t306.length : Int) == (t299.length : Int)) = true := beq_iff_eq.mpr c28
                      have c28b1 : ((t306.length : Int) != (t299.length : Int)) = false := bne_eq_false_iff_eq.mpr c28
                      have c28b2 : (t306.length == t299.length) = true := by first | simpa using c28 | (simp at c28 ⊢; omega)
                      clear c28
                      by_cases c29 : (wrap64 ((wrap64 (255 * t312)) - x8_1)) ≤ 8160
                      · rw [if_pos c29] at H
                        have c29b0 : decide ((wrap64 ((wrap64 (255 * t312)) - x8_1)) ≤ 8160) = true := decide_eq_true c29
                        clear c29
                        by_cases c30 : (wrap64 (-(wrap64 ((wrap64 (255 * t312)) - x8_1)))) ≤ 8160
                        · rw [if_pos c30] at H
                          have c30b0 : decide ((wrap64 (-(wrap64 ((wrap64 (255 * t312)) - x8_1)))) ≤ 8160) = true := decide_eq_true c30
                          clear c30
                          by_cases c31 : t313 ≥ 0
                          · rw [if_pos c31] at H
                            have c31b0 : decide (0 ≤ t313) = true := decide_eq_true c31
                            clear c31
                            by_cases c32 : t313 ≤ 1000
                            · rw [if_pos c32] at H
                              have c32b0 : decide (t313 ≤ 1000) = true := decide_eq_true c32
                              clear c32
                              replace H := Option.bind_eq_some_iff.mp H
                              obtain ⟨t323, A330, H⟩ := H
                              replace H : (some (t323 == 0)) = some r := H
                              have A33 := Aside0.mk A330
                              clear A330
                              obtain rfl := Option.some.inj H
                              obtain ⟨Ao34, co34, eo34⟩ := Kd.S_slice HO_6.out
                              subst eo34
                              go_wp2_with (first | ((with_reducible refine gate_callee (f := 21) rfl ?_); refine goesL_ (some 50) rfl rfl Try.func21 (by kernel_rfl) rfl #[.slice Ao34 t306.length co34] rfl Fix.uA ?_; (with_reducible refine (impl_CountOnes.calls k1 _ _ t306 t312 _ ?side1 ?side2 A17.out).mono ?_); (case side1 => exact Fix.uC (Kd.S_reads' HO_6.out).2.2); (case side2 => exact (Kd.S_reads' HO_6.out).2.1); rintro e w' ⟨rfl, ⟨nd, rfl⟩⟩; refine ⟨_, rfl, ?_⟩) | ((with_reducible refine gate_callee (f := 11) rfl ?_); refine goesL_ (some 55) rfl rfl Try.func11 (by kernel_rfl) rfl #[.slice Ao34 t306.length co34] rfl Fix.uA ?_; (with_reducible refine (impl_InkCoverage.calls k1 _ _ t306 t313 _ ?side1 ?side2 A18.out).mono ?_); (case side1 => exact Fix.uC (Kd.S_reads' HO_6.out).2.2); (case side2 => exact (Kd.S_reads' HO_6.out).2.1); rintro e w' ⟨rfl, ⟨nd, rfl⟩⟩; refine ⟨_, rfl, ?_⟩) | ((with_reducible refine gate_callee (f := 22) rfl ?_); refine goesL_ (some 57) rfl rfl Try.func22 (by kernel_rfl) rfl #[.int .i64 3] rfl Fix.uA ?_; (with_reducible refine (impl_WhiteRows.calls k1 3 t314 _ A19.out).mono ?_); rintro e w35 ⟨v315, rfl, ho0, hb⟩; refine ⟨_, rfl, ?_⟩; have n0_ := Aside0.mk (Kd.S_elder' (Fix.uS HO_3.out) (Kd.S_base ho0) hb); have n1_ := Aside0.mk (Kd.S_elder' (Fix.uS HO_4.out) (Kd.S_base ho0) hb); have n2_ := Aside0.mk (Kd.S_elder' (Fix.uS HO_6.out) (Kd.S_base ho0) hb); have n3_ := Aside0.mk (Kd.S_lower (Kd.S_new' (Kd.S_new' (Kd.S_new' ho0 (Kd.S_lt (Fix.uS HO_3.out))) (Kd.S_lt (Fix.uS HO_4.out))) (Kd.S_lt (Fix.uS HO_6.out))) (below_size Fix.uB)); have n4_ := Aside0.mk (below_step Fix.uB hb); clear HO_3; clear HO_4; clear HO_6; clear HB; have HO_3 := n0_; have HO_4 := n1_; have HO_6 := n2_; have HO316 := n3_; have HB := n4_; clear n0_ n1_ n2_ n3_ n4_; (try clear hb); (try clear hb2); (try clear hk); (try clear hi); (try clear ho0); obtain ⟨Ao36, co36, eo36⟩ := Kd.S_slice HO316.out; subst eo36) | ((with_reducible refine gate_callee (f := 20) rfl ?_); refine goesL_ (some 58) rfl rfl Try.func20 (by kernel_rfl) rfl #[.slice Ao36 t314.length co36, .bool true] rfl Fix.uA ?_; (with_reducible refine (impl_HalftonePage.calls k1 _ _ t314 true t317 t318 _ ?side1 ?side2 A20.out).mono ?_); (case side1 => exact Fix.uC (Kd.S_reads' HO316.out).2.2); (case side2 => exact (Kd.S_reads' HO316.out).2.1); rintro e w37 ⟨v319, rfl, ho0, hb⟩; refine ⟨_, rfl, ?_⟩; have n0_ := Aside0.mk (Kd.S_elder' (Fix.uS HO_3.out) (Kd.S_base ho0) hb); have n1_ := Aside0.mk (Kd.S_elder' (Fix.uS HO_4.out) (Kd.S_base ho0) hb); have n2_ := Aside0.mk (Kd.S_elder' (Fix.uS HO_6.out) (Kd.S_base ho0) hb); have n3_ := Aside0.mk (Kd.S_elder' (Fix.uS HO316.out) (Kd.S_base ho0) hb); have n4_ := Aside0.mk (Kd.S_lower (Kd.S_new' (Kd.S_new' (Kd.S_new' (Kd.S_new' ho0 (Kd.S_lt (Fix.uS HO_3.out))) (Kd.S_lt (Fix.uS HO_4.out))) (Kd.S_lt (Fix.uS HO_6.out))) (Kd.S_lt (Fix.uS HO316.out))) (below_size Fix.uB)); have n5_ := Aside0.mk (below_step Fix.uB hb); clear HO_3; clear HO_4; clear HO_6; clear HO316; clear HB; have HO_3 := n0_; have HO_4 := n1_; have HO_6 := n2_; have HO316 := n3_; have HO320 := n4_; have HB := n5_; clear n0_ n1_ n2_ n3_ n4_ n5_; (try clear hb); (try clear hb2); (try clear hk); (try clear hi); (try clear ho0); obtain ⟨Ao38, co38, eo38⟩ := Kd.S_slice HO_4.out; subst eo38) | (go_at_call 23; (with_reducible refine (impl_BitsOk.calls k1 _ _ t302 true _ ?side1 ?side2 A23.out).mono ?_); (case side1 => exact Fix.uC (Kd.S_reads' HO_4.out).2.2); (case side2 => exact (Kd.S_reads' HO_4.out).2.1); rintro e w' ⟨rfl, ⟨nd, rfl⟩⟩) | (go_at_call 23; (with_reducible refine (impl_BitsOk.calls k1 _ _ t306 true _ ?side1 ?side2 A25.out).mono ?_); (case side1 => exact Fix.uC (Kd.S_reads' HO_6.out).2.2); (case side2 => exact (Kd.S_reads' HO_6.out).2.1); rintro e w' ⟨rfl, ⟨nd, rfl⟩⟩; obtain ⟨Ao39, co39, eo39⟩ := Kd.S_slice HO320.out; subst eo39) | (go_at_call 21; (with_reducible refine (impl_CountOnes.calls k1 _ _ t317 t323 _ ?side1 ?side2 A33.out).mono ?_); (case side1 => exact Fix.uC (Kd.S_reads' HO320.out).2.2); (case side2 => exact (Kd.S_reads' HO320.out).2.1); rintro e w' ⟨rfl, ⟨nd, rfl⟩⟩))
                              go_ret
                              exact ⟨by first | rfl | (simp [errW_none, errW_some] <;> rfl) | (simp [*, errW_none, errW_some] <;> rfl), Fix.uB⟩
                            · rw [if_neg c32] at H
                              have c32b0 : decide (t313 ≤ 1000) = false := decide_eq_false c32
                              clear c32
                              exact absurd (hT.out ▸ H) (by simp)
                          · rw [if_neg c31] at H
                            have c31b0 : decide (0 ≤ t313) = false := decide_eq_false c31
                            clear c31
                            exact absurd (hT.out ▸ H) (by simp)
                        · rw [if_neg c30] at H
                          have c30b0 : decide ((wrap64 (-(wrap64 ((wrap64 (255 * t312)) - x8_1)))) ≤ 8160) = false := decide_eq_false c30
                          clear c30
                          exact absurd (hT.out ▸ H) (by simp)
                      · rw [if_neg c29] at H
                        have c29b0 : decide ((wrap64 ((wrap64 (255 * t312)) - x8_1)) ≤ 8160) = false := decide_eq_false c29
                        clear c29
                        exact absurd (hT.out ▸ H) (by simp)
                    · rw [if_neg c28] at H
                      have c28b0 : ((t306.length : Int) == (t299.length : Int)) = false := beq_eq_false_iff_ne.mpr c28
                      have c28b1 : ((t306.length : Int) != (t299.length : Int)) = true := bne_iff_ne.mpr c28
                      have c28b2 : (t306.length == t299.length) = false := by first | simpa using c28 | (simp at c28 ⊢; omega)
                      exact absurd (hT.out ▸ H) (by simp)
                  · rw [if_neg c27] at H
                    have c27b0 : ((t302.length : Int) == (t299.length : Int)) = false := beq_eq_false_iff_ne.mpr c27
                    have c27b1 : ((t302.length : Int) != (t299.length : Int)) = true := bne_iff_ne.mpr c27
                    have c27b2 : (t302.length == t299.length) = false := by first | simpa using c27 | (simp at c27 ⊢; omega)
                    exact absurd (hT.out ▸ H) (by simp)
                · replace c26 := Bool.eq_false_iff.mpr c26
                  subst c26
                  have H1 : (some false) = some r := by rw [if_neg (show ¬ (false = true) by decide)] at H; exact H
                  clear H
                  have H := H1
                  clear H1
                  exact absurd (hT.out ▸ H) (by simp)
              · replace c24 := Bool.eq_false_iff.mpr c24
                subst c24
                have H1 : (some false) = some r := by rw [if_neg (show ¬ (false = true) by decide)] at H; exact H
                clear H
                have H := H1
                clear H1
                exact absurd (hT.out ▸ H) (by simp)
            · replace c22 := Bool.eq_false_iff.mpr c22
              subst c22
              have H1 : (some false) = some r := by rw [if_neg (show ¬ (false = true) by decide)] at H; exact H
              clear H
              have H := H1
              clear H1
              exact absurd (hT.out ▸ H) (by simp)
          · replace c21 := Bool.eq_false_iff.mpr c21
            subst c21
            have H1 : (some false) = some r := by rw [if_neg (show ¬ (false = true) by decide)] at H; exact H
            clear H
            have H := H1
            clear H1
            exact absurd (hT.out ▸ H) (by simp)

end Go.Proofs.Ytaceidiookkocaa.PFnHalftones
