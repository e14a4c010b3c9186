/- FnExactHalftonePage: the functions that the law reaches, each as a plain Lean function, and that a call does what it says. Made by a program of this work (wip/mp.py) out of the kit's print. No condition. -/
import Derived.Test.YtaceidiookkocaaQFnExactHalftonePage0
import Derived.Test.YtaceidiookkocaaQFnExactHalftonePage1
import Derived.Test.YtaceidiookkocaaQFnExactHalftonePage3
import Derived.Test.YtaceidiookkocaaQFnExactHalftonePage6
namespace Go.Proofs.Ytaceidiookkocaa.PFnExactHalftonePage
open Go.RowKit Go.Proofs.YtaceidiookkocaaW.PrintWords Go.Proofs.YtaceidiookkocaaW.PrintLast Go.Proofs.YtaceidiookkocaaW.PrintMore
attribute [local go_sem] max2_int min2_int max_two min_two max_three min_three max_four min_four
attribute [local go_sem] Fix.isSome_setCell
set_option linter.unusedVariables false
set_option linter.unusedSimpArgs false

/-! ### laws_FnExactHalftonePage: function 6: by hand -/
def laws_FnExactHalftonePage.f (k : Nat) (l0 : List (List Int)) (a1 : Bool) : Option Bool := (laws_szIntSS.f k l0 1048576).bind fun t2 => if t2 < 0 then some true else (laws_toIntSS.f k l0).bind fun xR4 => (spec_HalftonePage.f k xR4 a1).bind fun x_ => match x_ with | (xR6, s7) => (laws_toIntSS.f k l0).bind fun xR9 => (impl_HalftonePage.f k xR9 a1).bind fun x_ => match x_ with | (xR11, s12) => (laws_eqIntSS.f k xR11 xR6).bind fun e14 => if e14 = true then (if s12 = s7 then ((laws_toIntSS.f k l0).bind fun xR16 => (laws_eqIntSS.f k xR9 xR16).bind fun e18 => if e18 = true then ((laws_markIntSS.f k xR9 1).bind fun x_ => match x_ with | (m20, y21) => if 0 ≤ m20 then ((laws_markIntSS.f k xR11 1).bind fun x_ => match x_ with | (m25, y26) => (laws_heldIntSS.f k y26 1).bind fun q28 => if 0 ≤ q28 then (if q28 = m25 then ((laws_toIntSS.f k l0).bind fun xR30 => (impl_HalftonePage.f k xR30 a1).bind fun x_ => match x_ with | (xR32, s33) => (laws_eqIntSS.f k xR32 xR6).bind fun e35 => if e35 = true then (if s33 = s7 then (some true) else none) else none) else none) else none) else none) else none) else none) else none
set_option maxHeartbeats 8000000 in
set_option maxRecDepth 100000 in
theorem laws_FnExactHalftonePage.calls (k : Nat) (A0 : Option Addr) (c0 : Nat) (l0 : List (List Int)) (a1 : Bool) (r : Bool) (w : World) (hr0 : Kd.C (Kd.slice 3 (Kd.int .i64)) w A0 l0.length l0) (hc0 : l0.length ≤ c0) (h : laws_FnExactHalftonePage.f k l0 a1 = some r) (hT : r = true) :
    Calls Try.prog 6 #[.slice A0 l0.length c0, .bool a1] w fun e w' => e = .returned (.bool r) ∧ Below w.heap.size w w' := by
  subst hT
  have HR0 := Aside0.mk hr0
  have HC0 := Aside0.mk hc0
  clear hr0 hc0
  have HB := Aside0.mk (Below.refl w.heap.size w)
  have HZ := Aside0.mk (Nat.zero_le w.heap.size)
  unfold laws_FnExactHalftonePage.f at h
  replace h := Option.bind_eq_some_iff.mp h
  obtain ⟨t2, A1_, h⟩ := h
  have A1 := Aside0.mk A1_
  clear A1_
  by_cases ct : t2 < 0
  · clear h
    have ct0 : decide (t2 < 0) = true := decide_eq_true ct
    clear ct
    go_enter Try.func6, Try.ntmps6
    go_wp2_with (first | ((with_reducible refine gate_callee (f := 8) rfl ?_); (try (refine gate_guard (by rfl) ?_; dsimp only)); refine goesL_ (some 18) rfl rfl Try.func8 (by kernel_rfl) rfl #[.slice A0 l0.length c0, .int .i64 1048576] rfl Fix.uA ?_; (with_reducible refine (laws_szIntSS.calls k _ _ l0 1048576 t2 _ (Kd.C_below HR0.out HB.out) HC0.out A1.out).mono ?_); rintro e w_ ⟨rfl, hd⟩; refine ⟨_, rfl, ?_⟩; obtain ⟨j_, rfl⟩ := hd.out; have r_ := Aside0.mk (pw_below_drewN HB.out j_); clear HB; have HB := r_; clear r_ hd))
    go_ret
    exact ⟨rfl, by first | exact HB.out | exact ⟨HB.out.os, HB.out.tape, HB.out.output, HB.out.size, HB.out.block⟩⟩
  · rw [if_neg ct] at h
    have ct0 : decide (t2 < 0) = false := decide_eq_false ct
    clear ct
    replace h := Option.bind_eq_some_iff.mp h
    obtain ⟨xR4, A3_, h⟩ := h
    have A3 := Aside0.mk A3_
    clear A3_
    replace h := Option.bind_eq_some_iff.mp h
    obtain ⟨⟨xR6, s7⟩, A5_, h⟩ := h
    dsimp only at h
    have A5 := Aside0.mk A5_
    clear A5_
    replace h := Option.bind_eq_some_iff.mp h
    obtain ⟨xR9, A8_, h⟩ := h
    have A8 := Aside0.mk A8_
    clear A8_
    replace h := Option.bind_eq_some_iff.mp h
    obtain ⟨⟨xR11, s12⟩, A10_, h⟩ := h
    dsimp only at h
    have A10 := Aside0.mk A10_
    clear A10_
    replace h := Option.bind_eq_some_iff.mp h
    obtain ⟨e14, A13_, h⟩ := h
    have A13 := Aside0.mk A13_
    clear A13_
    replace h := Hand.ite_some h
    obtain ⟨q_, h⟩ := h
    subst q_
    replace h := Hand.ite_some h
    obtain ⟨q_, h⟩ := h
    subst q_
    replace h := Option.bind_eq_some_iff.mp h
    obtain ⟨xR16, A15_, h⟩ := h
    have A15 := Aside0.mk A15_
    clear A15_
    replace h := Option.bind_eq_some_iff.mp h
    obtain ⟨e18, A17_, h⟩ := h
    have A17 := Aside0.mk A17_
    clear A17_
    replace h := Hand.ite_some h
    obtain ⟨q_, h⟩ := h
    subst q_
    replace h := Option.bind_eq_some_iff.mp h
    obtain ⟨⟨m20, y21⟩, A19_, h⟩ := h
    dsimp only at h
    have A19 := Aside0.mk A19_
    clear A19_
    replace h := Hand.ite_some h
    obtain ⟨q_, h⟩ := h
    have d_m20 : decide (m20 < 0) = false := decide_eq_false (by omega)
    clear q_
    replace h := Option.bind_eq_some_iff.mp h
    obtain ⟨⟨m25, y26⟩, A24_, h⟩ := h
    dsimp only at h
    have A24 := Aside0.mk A24_
    clear A24_
    replace h := Option.bind_eq_some_iff.mp h
    obtain ⟨q28, A27_, h⟩ := h
    have A27 := Aside0.mk A27_
    clear A27_
    replace h := Hand.ite_some h
    obtain ⟨q_, h⟩ := h
    have d_q28 : decide (q28 < 0) = false := decide_eq_false (by omega)
    clear q_
    replace h := Hand.ite_some h
    obtain ⟨q_, h⟩ := h
    subst q_
    replace h := Option.bind_eq_some_iff.mp h
    obtain ⟨xR30, A29_, h⟩ := h
    have A29 := Aside0.mk A29_
    clear A29_
    replace h := Option.bind_eq_some_iff.mp h
    obtain ⟨⟨xR32, s33⟩, A31_, h⟩ := h
    dsimp only at h
    have A31 := Aside0.mk A31_
    clear A31_
    replace h := Option.bind_eq_some_iff.mp h
    obtain ⟨e35, A34_, h⟩ := h
    have A34 := Aside0.mk A34_
    clear A34_
    replace h := Hand.ite_some h
    obtain ⟨q_, h⟩ := h
    subst q_
    replace h := Hand.ite_some h
    obtain ⟨q_, h⟩ := h
    subst q_
    clear h
    go_enter Try.func6, Try.ntmps6
    go_wp2_with (first | ((with_reducible refine gate_callee (f := 8) rfl ?_); (try (refine gate_guard (by rfl) ?_; dsimp only)); refine goesL_ (some 18) rfl rfl Try.func8 (by kernel_rfl) rfl #[.slice A0 l0.length c0, .int .i64 1048576] rfl Fix.uA ?_; (with_reducible refine (laws_szIntSS.calls k _ _ l0 1048576 t2 _ (Kd.C_below HR0.out HB.out) HC0.out A1.out).mono ?_); rintro e w_ ⟨rfl, hd⟩; refine ⟨_, rfl, ?_⟩; obtain ⟨j_, rfl⟩ := hd.out; have r_ := Aside0.mk (pw_below_drewN HB.out j_); clear HB; have HB := r_; clear r_ hd) | ((with_reducible refine gate_callee (f := 10) rfl ?_); (try (refine gate_guard (by rfl) ?_; dsimp only)); refine goesL_ (some 23) rfl rfl Try.func10 (by kernel_rfl) rfl #[.slice A0 l0.length c0] rfl Fix.uA ?_; (with_reducible refine (laws_toIntSS.calls k _ _ l0 xR4 _ (Kd.C_below HR0.out HB.out) HC0.out A3.out).mono ?_); intro e w_ h_; obtain ⟨vR4, rfl, hoR4, hb⟩ := h_; refine ⟨_, rfl, ?_⟩; have rb_ := Aside0.mk (below_step HB.out hb); obtain ⟨nR4, mR4, ra_, hn1_, hn2_, hn3_⟩ := Hand.S_new HB.out hb HZ.out hoR4 rfl; have rn_ := Aside0.mk ra_; have HN_R4 := Aside0.mk (And.intro hn1_ hn2_); clear HZ; have HZ := Aside0.mk hn3_; clear ra_ hn1_ hn2_ hn3_ hoR4; obtain ⟨AAR4, ccR4, ee_⟩ := Kd.S_slice rn_.out; subst ee_; have H_R4 := rn_; clear rn_; clear HB; have HB := rb_; clear rb_ hb) | ((with_reducible refine gate_callee (f := 24) rfl ?_); (try (refine gate_guard (by rfl) ?_; dsimp only)); refine goesL_ (some 25) rfl rfl Try.func24 (by kernel_rfl) rfl #[.slice AAR4 xR4.length ccR4, .bool a1] rfl Fix.uA ?_; (with_reducible refine (spec_HalftonePage.calls k _ _ xR4 a1 xR6 s33 _ (Kd.S_reads' H_R4.out).2.2 (Kd.S_reads' H_R4.out).2.1 A5.out).mono ?_); intro e w_ h_; obtain ⟨vR6, rfl, hoR6, hb⟩ := h_; refine ⟨_, rfl, ?_⟩; have rb_ := Aside0.mk (below_step HB.out hb); obtain ⟨nR6, mR6, ra_, hn1_, hn2_, hn3_⟩ := Hand.S_new HB.out hb HZ.out hoR6 rfl; have rn_ := Aside0.mk ra_; have HN_R6 := Aside0.mk (And.intro hn1_ hn2_); clear HZ; have HZ := Aside0.mk hn3_; clear ra_ hn1_ hn2_ hn3_ hoR6; obtain ⟨AAR6, ccR6, ee_⟩ := Kd.S_slice rn_.out; subst ee_; have H_R6 := rn_; clear rn_; clear H_R4; clear HB; have HB := rb_; clear rb_ hb) | ((with_reducible refine gate_callee (f := 10) rfl ?_); (try (refine gate_guard (by rfl) ?_; dsimp only)); refine goesL_ (some 29) rfl rfl Try.func10 (by kernel_rfl) rfl #[.slice A0 l0.length c0] rfl Fix.uA ?_; (with_reducible refine (laws_toIntSS.calls k _ _ l0 xR9 _ (Kd.C_below HR0.out HB.out) HC0.out A8.out).mono ?_); intro e w_ h_; obtain ⟨vR9, rfl, hoR9, hb⟩ := h_; refine ⟨_, rfl, ?_⟩; have r_R6 := Aside0.mk (Kd.S_below H_R6.out hb); have rb_ := Aside0.mk (below_step HB.out hb); obtain ⟨nR9, mR9, ra_, hn1_, hn2_, hn3_⟩ := Hand.S_new HB.out hb HZ.out hoR9 rfl; have rn_ := Aside0.mk ra_; have HN_R9 := Aside0.mk (And.intro hn1_ hn2_); clear HZ; have HZ := Aside0.mk hn3_; clear ra_ hn1_ hn2_ hn3_ hoR9; obtain ⟨AAR9, ccR9, ee_⟩ := Kd.S_slice rn_.out; subst ee_; have H_R9 := rn_; clear rn_; clear H_R6; have H_R6 := r_R6; clear r_R6; clear HB; have HB := rb_; clear rb_ hb) | ((with_reducible refine gate_callee (f := 20) rfl ?_); (try (refine gate_guard (by rfl) ?_; dsimp only)); refine goesL_ (some 33) rfl rfl Try.func20 (by kernel_rfl) rfl #[.slice AAR9 xR9.length ccR9, .bool a1] rfl Fix.uA ?_; (with_reducible refine (impl_HalftonePage.calls k _ _ xR9 a1 xR11 s33 _ (Kd.S_reads' H_R9.out).2.2 (Kd.S_reads' H_R9.out).2.1 A10.out).mono ?_); intro e w_ h_; obtain ⟨vR11, rfl, hoR11, hb⟩ := h_; refine ⟨_, rfl, ?_⟩; have r_R6 := Aside0.mk (Kd.S_below H_R6.out hb); have r_R9 := Aside0.mk (Kd.S_below H_R9.out hb); have rb_ := Aside0.mk (below_step HB.out hb); obtain ⟨nR11, mR11, ra_, hn1_, hn2_, hn3_⟩ := Hand.S_new HB.out hb HZ.out hoR11 rfl; have rn_ := Aside0.mk ra_; have HN_R11 := Aside0.mk (And.intro hn1_ hn2_); clear HZ; have HZ := Aside0.mk hn3_; clear ra_ hn1_ hn2_ hn3_ hoR11; obtain ⟨AAR11, ccR11, ee_⟩ := Kd.S_slice rn_.out; subst ee_; have H_R11 := rn_; clear rn_; clear H_R6; clear H_R9; have H_R6 := r_R6; have H_R9 := r_R9; clear r_R6; clear r_R9; clear HB; have HB := rb_; clear rb_ hb) | ((with_reducible refine gate_callee (f := 12) rfl ?_); (try (refine gate_guard (by rfl) ?_; dsimp only)); refine goesL_ (some 38) rfl rfl Try.func12 (by kernel_rfl) rfl #[.slice AAR11 xR11.length ccR11, .slice AAR6 xR6.length ccR6] rfl Fix.uA ?_; (with_reducible refine (laws_eqIntSS.calls k _ _ xR11 _ _ xR6 true _ (Kd.S_reads' H_R11.out).2.2 (Kd.S_reads' H_R11.out).2.1 (Kd.S_reads' H_R6.out).2.2 (Kd.S_reads' H_R6.out).2.1 A13.out).mono ?_); rintro e w_ ⟨rfl, hd⟩; refine ⟨_, rfl, ?_⟩; obtain ⟨j_, rfl⟩ := hd.out; have r_R6 := Aside0.mk (Kd.S_drewN H_R6.out j_); have r_R9 := Aside0.mk (Kd.S_drewN H_R9.out j_); have r_R11 := Aside0.mk (Kd.S_drewN H_R11.out j_); have rb_ := Aside0.mk (pw_below_drewN HB.out j_); clear H_R6; clear H_R9; clear H_R11; have H_R6 := r_R6; have H_R9 := r_R9; have H_R11 := r_R11; clear r_R6; clear r_R9; clear r_R11; clear HB; have HB := rb_; clear rb_ hd) | ((with_reducible refine gate_callee (f := 10) rfl ?_); (try (refine gate_guard (by rfl) ?_; dsimp only)); refine goesL_ (some 47) rfl rfl Try.func10 (by kernel_rfl) rfl #[.slice A0 l0.length c0] rfl Fix.uA ?_; (with_reducible refine (laws_toIntSS.calls k _ _ l0 xR16 _ (Kd.C_below HR0.out HB.out) HC0.out A15.out).mono ?_); intro e w_ h_; obtain ⟨vR16, rfl, hoR16, hb⟩ := h_; refine ⟨_, rfl, ?_⟩; have r_R6 := Aside0.mk (Kd.S_below H_R6.out hb); have r_R9 := Aside0.mk (Kd.S_below H_R9.out hb); have r_R11 := Aside0.mk (Kd.S_below H_R11.out hb); have rb_ := Aside0.mk (below_step HB.out hb); obtain ⟨nR16, mR16, ra_, hn1_, hn2_, hn3_⟩ := Hand.S_new HB.out hb HZ.out hoR16 rfl; have rn_ := Aside0.mk ra_; have HN_R16 := Aside0.mk (And.intro hn1_ hn2_); clear HZ; have HZ := Aside0.mk hn3_; clear ra_ hn1_ hn2_ hn3_ hoR16; obtain ⟨AAR16, ccR16, ee_⟩ := Kd.S_slice rn_.out; subst ee_; have H_R16 := rn_; clear rn_; clear H_R6; clear H_R9; clear H_R11; have H_R6 := r_R6; have H_R9 := r_R9; have H_R11 := r_R11; clear r_R6; clear r_R9; clear r_R11; clear HB; have HB := rb_; clear rb_ hb) | ((with_reducible refine gate_callee (f := 12) rfl ?_); (try (refine gate_guard (by rfl) ?_; dsimp only)); refine goesL_ (some 48) rfl rfl Try.func12 (by kernel_rfl) rfl #[.slice AAR9 xR9.length ccR9, .slice AAR16 xR16.length ccR16] rfl Fix.uA ?_; (with_reducible refine (laws_eqIntSS.calls k _ _ xR9 _ _ xR16 true _ (Kd.S_reads' H_R9.out).2.2 (Kd.S_reads' H_R9.out).2.1 (Kd.S_reads' H_R16.out).2.2 (Kd.S_reads' H_R16.out).2.1 A17.out).mono ?_); rintro e w_ ⟨rfl, hd⟩; refine ⟨_, rfl, ?_⟩; obtain ⟨j_, rfl⟩ := hd.out; have r_R6 := Aside0.mk (Kd.S_drewN H_R6.out j_); have r_R9 := Aside0.mk (Kd.S_drewN H_R9.out j_); have r_R11 := Aside0.mk (Kd.S_drewN H_R11.out j_); have r_R16 := Aside0.mk (Kd.S_drewN H_R16.out j_); have rb_ := Aside0.mk (pw_below_drewN HB.out j_); clear H_R6; clear H_R9; clear H_R11; clear H_R16; have H_R6 := r_R6; have H_R9 := r_R9; have H_R11 := r_R11; have H_R16 := r_R16; clear r_R6; clear r_R9; clear r_R11; clear r_R16; clear HB; have HB := rb_; clear rb_ hd) | ((with_reducible refine gate_callee (f := 25) rfl ?_); (try (refine gate_guard (by rfl) ?_; dsimp only)); refine goesL_ (some 52) rfl rfl Try.func25 (by kernel_rfl) rfl #[.slice AAR9 xR9.length ccR9, .int .i64 1] rfl Fix.uA ?_; (with_reducible refine (laws_markIntSS.calls k (Hand.In nR9 mR9) (.slice AAR9 xR9.length ccR9) xR9 1 m20 y21 w _ HB.out H_R9.out A19.out).mono ?_); rintro e w_ ⟨rfl, ho, hb, hk⟩; refine ⟨_, rfl, ?_⟩; have r_R6 := Aside0.mk (Hand.S_past H_R6.out hk (Hand.apart (by have := HN_R4.out; have := HN_R6.out; have := HN_R9.out; have := HN_R11.out; have := HN_R16.out; omega))); have r_R11 := Aside0.mk (Hand.S_past H_R11.out hk (Hand.apart' (by have := HN_R4.out; have := HN_R6.out; have := HN_R9.out; have := HN_R11.out; have := HN_R16.out; omega))); have r_R16 := Aside0.mk (Hand.S_past H_R16.out hk (Hand.apart' (by have := HN_R4.out; have := HN_R6.out; have := HN_R9.out; have := HN_R11.out; have := HN_R16.out; omega))); clear H_R9; clear H_R6; clear H_R11; clear H_R16; have H_R6 := r_R6; have H_R11 := r_R11; have H_R16 := r_R16; clear r_R6; clear r_R11; clear r_R16; clear HB; have HB := Aside0.mk hb; have hz := Aside0.mk (Nat.le_trans HZ.out hk.1); clear HZ; have HZ := hz; clear hz ho hb hk) | ((with_reducible refine gate_callee (f := 12) rfl ?_); (try (refine gate_guard (by rfl) ?_; dsimp only)); refine goesL_ (some 58) rfl rfl Try.func12 (by kernel_rfl) rfl #[.slice AAR11 xR11.length ccR11, .slice AAR6 xR6.length ccR6] rfl Fix.uA ?_; (with_reducible refine (laws_eqIntSS.calls k _ _ xR11 _ _ xR6 true _ (Kd.S_reads' H_R11.out).2.2 (Kd.S_reads' H_R11.out).2.1 (Kd.S_reads' H_R6.out).2.2 (Kd.S_reads' H_R6.out).2.1 A13.out).mono ?_); rintro e w_ ⟨rfl, hd⟩; refine ⟨_, rfl, ?_⟩; obtain ⟨j_, rfl⟩ := hd.out; have r_R6 := Aside0.mk (Kd.S_drewN H_R6.out j_); have r_R11 := Aside0.mk (Kd.S_drewN H_R11.out j_); have r_R16 := Aside0.mk (Kd.S_drewN H_R16.out j_); have rb_ := Aside0.mk (pw_below_drewN HB.out j_); clear H_R6; clear H_R11; clear H_R16; have H_R6 := r_R6; have H_R11 := r_R11; have H_R16 := r_R16; clear r_R6; clear r_R11; clear r_R16; clear HB; have HB := rb_; clear rb_ hd) | ((with_reducible refine gate_callee (f := 25) rfl ?_); (try (refine gate_guard (by rfl) ?_; dsimp only)); refine goesL_ (some 68) rfl rfl Try.func25 (by kernel_rfl) rfl #[.slice AAR11 xR11.length ccR11, .int .i64 1] rfl Fix.uA ?_; (with_reducible refine (laws_markIntSS.calls k (Hand.In nR11 mR11) (.slice AAR11 xR11.length ccR11) xR11 1 q28 y26 w _ HB.out H_R11.out A24.out).mono ?_); rintro e w_ ⟨rfl, ho, hb, hk⟩; refine ⟨_, rfl, ?_⟩; have r_R6 := Aside0.mk (Hand.S_past H_R6.out hk (Hand.apart (by have := HN_R4.out; have := HN_R6.out; have := HN_R9.out; have := HN_R11.out; have := HN_R16.out; omega))); have r_R16 := Aside0.mk (Hand.S_past H_R16.out hk (Hand.apart' (by have := HN_R4.out; have := HN_R6.out; have := HN_R9.out; have := HN_R11.out; have := HN_R16.out; omega))); have hl_ := (Kd.S_reads' ho).1; rw [hl_] at ho; (try rw [hl_]); clear hl_; have rq_ := Aside0.mk (ho); clear H_R11; have H_R11 := rq_; clear rq_; clear H_R6; clear H_R16; have H_R6 := r_R6; have H_R16 := r_R16; clear r_R6; clear r_R16; clear HB; have HB := Aside0.mk hb; have hz := Aside0.mk (Nat.le_trans HZ.out hk.1); clear HZ; have HZ := hz; clear hz ho hb hk) | ((with_reducible refine gate_callee (f := 26) rfl ?_); (try (refine gate_guard (by rfl) ?_; dsimp only)); refine goesL_ (some 71) rfl rfl Try.func26 (by kernel_rfl) rfl #[.slice AAR11 y26.length ccR11, .int .i64 1] rfl Fix.uA ?_; (with_reducible refine (laws_heldIntSS.calls k _ _ y26 1 q28 _ (Kd.S_reads' H_R11.out).2.2 (Kd.S_reads' H_R11.out).2.1 A27.out).mono ?_); rintro e w_ ⟨rfl, hd⟩; refine ⟨_, rfl, ?_⟩; obtain ⟨j_, rfl⟩ := hd.out; have r_R6 := Aside0.mk (Kd.S_drewN H_R6.out j_); have r_R11 := Aside0.mk (Kd.S_drewN H_R11.out j_); have r_R16 := Aside0.mk (Kd.S_drewN H_R16.out j_); have rb_ := Aside0.mk (pw_below_drewN HB.out j_); clear H_R6; clear H_R11; clear H_R16; have H_R6 := r_R6; have H_R11 := r_R11; have H_R16 := r_R16; clear r_R6; clear r_R11; clear r_R16; clear HB; have HB := rb_; clear rb_ hd) | ((with_reducible refine gate_callee (f := 10) rfl ?_); (try (refine gate_guard (by rfl) ?_; dsimp only)); refine goesL_ (some 79) rfl rfl Try.func10 (by kernel_rfl) rfl #[.slice A0 l0.length c0] rfl Fix.uA ?_; (with_reducible refine (laws_toIntSS.calls k _ _ l0 xR30 _ (Kd.C_below HR0.out HB.out) HC0.out A29.out).mono ?_); intro e w_ h_; obtain ⟨vR30, rfl, hoR30, hb⟩ := h_; refine ⟨_, rfl, ?_⟩; have r_R6 := Aside0.mk (Kd.S_below H_R6.out hb); have r_R11 := Aside0.mk (Kd.S_below H_R11.out hb); have rb_ := Aside0.mk (below_step HB.out hb); obtain ⟨nR30, mR30, ra_, hn1_, hn2_, hn3_⟩ := Hand.S_new HB.out hb HZ.out hoR30 rfl; have rn_ := Aside0.mk ra_; have HN_R30 := Aside0.mk (And.intro hn1_ hn2_); clear HZ; have HZ := Aside0.mk hn3_; clear ra_ hn1_ hn2_ hn3_ hoR30; obtain ⟨AAR30, ccR30, ee_⟩ := Kd.S_slice rn_.out; subst ee_; have H_R30 := rn_; clear rn_; clear H_R6; clear H_R11; clear H_R16; have H_R6 := r_R6; have H_R11 := r_R11; clear r_R6; clear r_R11; clear HB; have HB := rb_; clear rb_ hb) | ((with_reducible refine gate_callee (f := 20) rfl ?_); (try (refine gate_guard (by rfl) ?_; dsimp only)); refine goesL_ (some 81) rfl rfl Try.func20 (by kernel_rfl) rfl #[.slice AAR30 xR30.length ccR30, .bool a1] rfl Fix.uA ?_; (with_reducible refine (impl_HalftonePage.calls k _ _ xR30 a1 xR32 s33 _ (Kd.S_reads' H_R30.out).2.2 (Kd.S_reads' H_R30.out).2.1 A31.out).mono ?_); intro e w_ h_; obtain ⟨vR32, rfl, hoR32, hb⟩ := h_; refine ⟨_, rfl, ?_⟩; have r_R6 := Aside0.mk (Kd.S_below H_R6.out hb); have r_R11 := Aside0.mk (Kd.S_below H_R11.out hb); have rb_ := Aside0.mk (below_step HB.out hb); obtain ⟨nR32, mR32, ra_, hn1_, hn2_, hn3_⟩ := Hand.S_new HB.out hb HZ.out hoR32 rfl; have rn_ := Aside0.mk ra_; have HN_R32 := Aside0.mk (And.intro hn1_ hn2_); clear HZ; have HZ := Aside0.mk hn3_; clear ra_ hn1_ hn2_ hn3_ hoR32; obtain ⟨AAR32, ccR32, ee_⟩ := Kd.S_slice rn_.out; subst ee_; have H_R32 := rn_; clear rn_; clear H_R6; clear H_R11; clear H_R30; have H_R6 := r_R6; have H_R11 := r_R11; clear r_R6; clear r_R11; clear HB; have HB := rb_; clear rb_ hb) | ((with_reducible refine gate_callee (f := 12) rfl ?_); (try (refine gate_guard (by rfl) ?_; dsimp only)); refine goesL_ (some 86) rfl rfl Try.func12 (by kernel_rfl) rfl #[.slice AAR32 xR32.length ccR32, .slice AAR6 xR6.length ccR6] rfl Fix.uA ?_; (with_reducible refine (laws_eqIntSS.calls k _ _ xR32 _ _ xR6 true _ (Kd.S_reads' H_R32.out).2.2 (Kd.S_reads' H_R32.out).2.1 (Kd.S_reads' H_R6.out).2.2 (Kd.S_reads' H_R6.out).2.1 A34.out).mono ?_); rintro e w_ ⟨rfl, hd⟩; refine ⟨_, rfl, ?_⟩; obtain ⟨j_, rfl⟩ := hd.out; have r_R6 := Aside0.mk (Kd.S_drewN H_R6.out j_); have r_R11 := Aside0.mk (Kd.S_drewN H_R11.out j_); have r_R32 := Aside0.mk (Kd.S_drewN H_R32.out j_); have rb_ := Aside0.mk (pw_below_drewN HB.out j_); clear H_R6; clear H_R11; clear H_R32; have H_R6 := r_R6; have H_R11 := r_R11; have H_R32 := r_R32; clear r_R6; clear r_R11; clear r_R32; clear HB; have HB := rb_; clear rb_ hd) | ((with_reducible refine gate_callee (f := 26) rfl ?_); (try (refine gate_guard (by rfl) ?_; dsimp only)); refine goesL_ (some 95) rfl rfl Try.func26 (by kernel_rfl) rfl #[.slice AAR11 y26.length ccR11, .int .i64 1] rfl Fix.uA ?_; (with_reducible refine (laws_heldIntSS.calls k _ _ y26 1 q28 _ (Kd.S_reads' H_R11.out).2.2 (Kd.S_reads' H_R11.out).2.1 A27.out).mono ?_); rintro e w_ ⟨rfl, hd⟩; refine ⟨_, rfl, ?_⟩; obtain ⟨j_, rfl⟩ := hd.out; have r_R6 := Aside0.mk (Kd.S_drewN H_R6.out j_); have r_R11 := Aside0.mk (Kd.S_drewN H_R11.out j_); have r_R32 := Aside0.mk (Kd.S_drewN H_R32.out j_); have rb_ := Aside0.mk (pw_below_drewN HB.out j_); clear H_R6; clear H_R11; clear H_R32; have H_R6 := r_R6; have H_R11 := r_R11; have H_R32 := r_R32; clear r_R6; clear r_R11; clear r_R32; clear HB; have HB := rb_; clear rb_ hd))
    go_ret
    exact ⟨rfl, by first | exact HB.out | exact ⟨HB.out.os, HB.out.tape, HB.out.output, HB.out.size, HB.out.block⟩⟩

end Go.Proofs.Ytaceidiookkocaa.PFnExactHalftonePage
