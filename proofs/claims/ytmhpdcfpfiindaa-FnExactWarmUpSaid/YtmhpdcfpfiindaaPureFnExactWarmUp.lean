/- The pure part of FnExactWarmUp: over numbers and lists alone. No condition beyond the numbers' own kinds. -/
import Derived.Test.YtmhpdcfpfiindaaQFnExactWarmUp3
import Derived.Test.YtmhpdcfpfiindaaLoops
namespace Go.Proofs.Ytmhpdcfpfiindaa.Pure
open Go.RowKit Go.Proofs.Ytmhpdcfpfiindaa.PFnExactWarmUp Go.Proofs.YtmhpdcfpfiindaaW.PrintWords Go.Proofs.YtmhpdcfpfiindaaW.PrintLast Go.Proofs.YtmhpdcfpfiindaaW.PrintMore
set_option linter.unusedVariables false
set_option linter.unusedSimpArgs false

theorem within_eq (a b c : Int) : impl_within.f a b c = some (decide (b ≤ a ∧ a ≤ c)) := by
  unfold impl_within.f
  by_cases h : a ≥ b
  · rw [if_pos h]; congr 1; simp; omega
  · rw [if_neg h]; congr 1; simp; omega
theorem in_eq (a b c : Int) : spec_l01In.f a b c = some (decide (b ≤ a ∧ a ≤ c)) := by
  unfold spec_l01In.f
  by_cases h : a ≥ b
  · rw [if_pos h]; congr 1; simp; omega
  · rw [if_neg h]; congr 1; simp; omega
def fok (t l h e c o : Int) : Bool := decide (0 ≤ l ∧ l ≤ 300) && (decide (0 ≤ h ∧ h ≤ 300) && (decide (2 ≤ e ∧ e ≤ 20) && (decide (1 ≤ c ∧ c ≤ 20) && (decide (0 ≤ o ∧ o ≤ wrap64 (e - 1)) && (decide (h ≥ wrap64 (wrap64 (wrap64 (l + e) + c) + o)) && decide (0 ≤ t ∧ t ≤ h))))))
theorem fok_true {t l h e c o : Int} (H : fok t l h e c o = true) : (0 ≤ l ∧ l ≤ 300) ∧ (0 ≤ h ∧ h ≤ 300) ∧ (2 ≤ e ∧ e ≤ 20) ∧ (1 ≤ c ∧ c ≤ 20) ∧ (0 ≤ o ∧ o ≤ e - 1) ∧ l + e + c + o ≤ h ∧ 0 ≤ t ∧ t ≤ h := by
  simp only [fok, Bool.and_eq_true, decide_eq_true_eq, wrap64] at H; omega
theorem fok_mk {t l h e c o : Int} (H : (0 ≤ l ∧ l ≤ 300) ∧ (0 ≤ h ∧ h ≤ 300) ∧ (2 ≤ e ∧ e ≤ 20) ∧ (1 ≤ c ∧ c ≤ 20) ∧ (0 ≤ o ∧ o ≤ e - 1) ∧ l + e + c + o ≤ h ∧ 0 ≤ t ∧ t ≤ h) : fok t l h e c o = true := by
  simp only [fok, Bool.and_eq_true, decide_eq_true_eq, wrap64]; omega
theorem ifok_eq (t l h e c o : Int) : impl_FuserOk.f t l h e c o = some (fok t l h e c o) := by
  unfold impl_FuserOk.f fok
  simp only [within_eq, Option.bind_some]
  cases decide (0 ≤ l ∧ l ≤ 300)
  · rfl
  cases decide (0 ≤ h ∧ h ≤ 300)
  · rfl
  cases decide (2 ≤ e ∧ e ≤ 20)
  · rfl
  cases decide (1 ≤ c ∧ c ≤ 20)
  · rfl
  cases decide (0 ≤ o ∧ o ≤ wrap64 (e - 1))
  · rfl
  by_cases hh : h ≥ wrap64 (wrap64 (wrap64 (l + e) + c) + o)
  · simp [hh]
  · simp [hh]
theorem sfok_eq (t l h e c o : Int) : spec_FuserOk.f t l h e c o = some (fok t l h e c o) := by
  unfold spec_FuserOk.f fok
  simp only [in_eq, Option.bind_some]
  cases decide (0 ≤ l ∧ l ≤ 300)
  · rfl
  cases decide (0 ≤ h ∧ h ≤ 300)
  · rfl
  cases decide (2 ≤ e ∧ e ≤ 20)
  · rfl
  cases decide (1 ≤ c ∧ c ≤ 20)
  · rfl
  cases decide (0 ≤ o ∧ o ≤ wrap64 (e - 1))
  · rfl
  by_cases hh : h ≥ wrap64 (wrap64 (wrap64 (l + e) + c) + o)
  · simp [hh]
  · simp [hh]
theorem ihot_eq (t l h e c o : Int) : impl_IsHot.f t l h e c o = some (fok t l h e c o && decide (l ≤ t)) := by
  unfold impl_IsHot.f
  rw [ifok_eq, Option.bind_some]
  cases fok t l h e c o <;> simp
theorem shot_eq (t l h e c o : Int) : spec_IsHot.f t l h e c o = some (fok t l h e c o && decide (l ≤ t)) := by
  unfold spec_IsHot.f
  rw [sfok_eq, Option.bind_some]
  cases fok t l h e c o <;> simp
def stp (t h e c o : Int) (s : Bool) : Int := mx 0 ((if t + e ≤ h then t + e else t - c) - (if s = true then o else 0))
theorem istep_bad {t l h e c o : Int} (s : Bool) (H : fok t l h e c o = false) : impl_StepFuser.f t l h e c o s = some (t, l, h, e, c, o) := by
  unfold impl_StepFuser.f
  simp [ifok_eq, H]
theorem istep_ok {t l h e c o : Int} (s : Bool) (H : fok t l h e c o = true) : impl_StepFuser.f t l h e c o s = some (stp t h e c o s, l, h, e, c, o) := by
  unfold impl_StepFuser.f stp
  have h0 := fok_true H
  have e1 : wrap64 (t + e) = t + e := by unfold wrap64; omega
  have e2 : wrap64 (t - c) = t - c := by unfold wrap64; omega
  have e3 : wrap64 (t + e - o) = t + e - o := by unfold wrap64; omega
  have e4 : wrap64 (t - c - o) = t - c - o := by unfold wrap64; omega
  simp only [ifok_eq, H, Option.bind_some, if_true, e1, e2, e3, e4]
  by_cases hh : t + e ≤ h <;> cases s <;> simp [hh]
theorem stp_ok {t l h e c o : Int} (s : Bool) (H : fok t l h e c o = true) : fok (stp t h e c o s) l h e c o = true := by
  have h0 := fok_true H
  refine fok_mk ?_
  unfold stp mx
  refine ⟨h0.1, h0.2.1, h0.2.2.1, h0.2.2.2.1, h0.2.2.2.2.1, h0.2.2.2.2.2.1, ?_⟩
  split <;> split <;> split at * <;> omega
theorem sstep_bad {t l h e c o : Int} (s : Bool) (H : fok t l h e c o = false) : spec_StepFuser.f t l h e c o s = some (t, l, h, e, c, o) := by
  unfold spec_StepFuser.f
  simp [sfok_eq, H]
theorem sstep_ok {t l h e c o : Int} (s : Bool) (H : fok t l h e c o = true) : spec_StepFuser.f t l h e c o s = some (stp t h e c o s, l, h, e, c, o) := by
  unfold spec_StepFuser.f stp
  have h0 := fok_true H
  have e1 : wrap64 (t + e) = t + e := by unfold wrap64; omega
  have e2 : wrap64 (t - c) = t - c := by unfold wrap64; omega
  have e3 : wrap64 (t + e - o) = t + e - o := by unfold wrap64; omega
  have e4 : wrap64 (t - c - o) = t - c - o := by unfold wrap64; omega
  simp only [sfok_eq, H, Option.bind_some, if_true, e1, e2, e3, e4]
  by_cases hh : t + e ≤ h <;> cases s <;> simp [hh]
theorem stp_up {t l h e c o : Int} (H : fok t l h e c o = true) (hl : t < l) : stp t h e c o false = t + e := by
  have h0 := fok_true H
  unfold stp mx
  simp only [Bool.false_eq_true, if_false]
  rw [if_pos (by omega), if_pos (by omega)]; omega
/-- How often a fuser at t is heated till it is hot. -/
def warm (l e : Int) : Nat → Int → Nat
  | 0, _ => 0
  | d + 1, t => if t < l then warm l e d (t + e) + 1 else 0
theorem warm_le (l e : Int) (he : 2 ≤ e) : ∀ (d : Nat) (t : Int), 0 ≤ t → (warm l e d t : Int) ≤ max 0 (l - t) := by
  intro d
  induction d with
  | zero => intro t _; show ((0 : Nat) : Int) ≤ _; omega
  | succ d ih =>
    intro t ht
    unfold warm
    split
    · have := ih (t + e) (by omega); omega
    · omega
theorem iwarm_loop {l h e c o : Int} : ∀ (d : Nat) (t x : Int), fok t l h e c o = true → (l - t).toNat < d → 0 ≤ x → x + l - t ≤ 4000 → Ev (fun k => impl_WarmUp.l0 k x t l h e c o) (x + warm l e d t) := by
  intro d
  induction d with
  | zero => intro t x _ h1; omega
  | succ d ih =>
    intro t x H hd hx hx2
    have h0 := fok_true H
    unfold warm
    by_cases hl : t < l
    · rw [if_pos hl]
      refine Ev.step (f := fun k => impl_WarmUp.l0 k (x + 1) (t + e) l h e c o) (fun k => ?_) (Loops.Ev.eq (ih (t + e) (x + 1) ?_ (by omega) (by omega) (by omega)) (by omega))
      · simp only [impl_WarmUp.l0]
        rw [ihot_eq, H, decide_eq_false (by omega), istep_ok false H, stp_up H hl]
        simp only [Bool.and_false, Option.bind_some, Bool.false_eq_true, if_false]
        rw [show wrap64 (x + 1) = x + 1 from Loops.wrap_in (by omega) (by omega)]
      · have := stp_ok false H
        rwa [stp_up H hl] at this
    · rw [if_neg hl]
      refine Loops.Ev.one (fun k => ?_)
      simp only [impl_WarmUp.l0]
      rw [ihot_eq, H, decide_eq_true (by omega)]
      simp
theorem iwarm_eq {t l h e c o : Int} (H : fok t l h e c o = true) : Ev (fun k => impl_WarmUp.f k t l h e c o) (warm l e 400 t : Int) := by
  have h0 := fok_true H
  unfold impl_WarmUp.f
  refine Ev.bind (a := true) (Loops.Ev.const (by rw [ifok_eq, H])) ?_
  simp only [if_true]
  exact Loops.Ev.eq (iwarm_loop 400 t 0 H (by omega) (by omega) (by omega)) (by omega)
theorem swarm_loop {l h e c o : Int} : ∀ (d : Nat) (t x : Int), fok t l h e c o = true → (l - t).toNat < d → 0 ≤ x → x + l - t ≤ 4000 → Ev (fun k => spec_WarmUp.l0 k x t l h e c o) (x + warm l e d t) := by
  intro d
  induction d with
  | zero => intro t x _ h1; omega
  | succ d ih =>
    intro t x H hd hx hx2
    have h0 := fok_true H
    unfold warm
    by_cases hl : t < l
    · rw [if_pos hl]
      refine Ev.step (f := fun k => spec_WarmUp.l0 k (x + 1) (t + e) l h e c o) (fun k => ?_) (Loops.Ev.eq (ih (t + e) (x + 1) ?_ (by omega) (by omega) (by omega)) (by omega))
      · simp only [spec_WarmUp.l0]
        rw [shot_eq, H, decide_eq_false (by omega), sstep_ok false H, stp_up H hl]
        simp only [Bool.and_false, Option.bind_some, Bool.false_eq_true, if_false]
        rw [show wrap64 (x + 1) = x + 1 from Loops.wrap_in (by omega) (by omega)]
      · have := stp_ok false H
        rwa [stp_up H hl] at this
    · rw [if_neg hl]
      refine Loops.Ev.one (fun k => ?_)
      simp only [spec_WarmUp.l0]
      rw [shot_eq, H, decide_eq_true (by omega)]
      simp
theorem swarm_eq {t l h e c o : Int} (H : fok t l h e c o = true) : Ev (fun k => spec_WarmUp.f k t l h e c o) (warm l e 400 t : Int) := by
  have h0 := fok_true H
  unfold spec_WarmUp.f
  refine Ev.bind (a := true) (Loops.Ev.const (by rw [sfok_eq, H])) ?_
  simp only [if_true]
  exact Loops.Ev.eq (swarm_loop 400 t 0 H (by omega) (by omega) (by omega)) (by omega)
theorem FnExactWarmUp : ∀ (a0_0 : Int) (a0_1 : Int) (a0_2 : Int) (a0_3 : Int) (a0_4 : Int) (a0_5 : Int), ((Lit.int .i64 a0_0).wf = true) → ((Lit.int .i64 a0_1).wf = true) → ((Lit.int .i64 a0_2).wf = true) → ((Lit.int .i64 a0_3).wf = true) → ((Lit.int .i64 a0_4).wf = true) → ((Lit.int .i64 a0_5).wf = true) → ∃ k, laws_FnExactWarmUp.f k a0_0 a0_1 a0_2 a0_3 a0_4 a0_5 = some true := by
  intro t l h e c o _ _ _ _ _ _
  refine Ev.rounds ?_
  unfold laws_FnExactWarmUp.f laws_toFuser.f
  simp only [Option.bind_some]
  cases hf : fok t l h e c o with
  | false =>
    refine Loops.Ev.const (x := some true) rfl |> Ev.congr (fun k => ?_)
    simp [spec_WarmUp.f, impl_WarmUp.f, sfok_eq, ifok_eq, hf]
  | true =>
    refine Ev.bind (swarm_eq hf) (Ev.bind (iwarm_eq hf) ?_)
    simp only [if_true]
    exact Ev.now _

end Go.Proofs.Ytmhpdcfpfiindaa.Pure
