/- The pure part of FnExactStepFuser: over numbers and lists alone. No condition beyond the numbers' own kinds. -/
import Derived.Test.YtmhpdcfpfiindaaQFnExactStepFuser3
namespace Go.Proofs.Ytmhpdcfpfiindaa.Pure
open Go.RowKit Go.Proofs.Ytmhpdcfpfiindaa.PFnExactStepFuser Go.Proofs.YtmhpdcfpfiindaaW.PrintWords Go.Proofs.YtmhpdcfpfiindaaW.PrintLast Go.Proofs.YtmhpdcfpfiindaaW.PrintMore
set_option linter.unusedVariables false
set_option linter.unusedSimpArgs false

theorem within_eq (a b c : Int) : impl_within.f a b c = some (decide (b ≤ a ∧ a ≤ c)) := by
  unfold impl_within.f
  by_cases h : a ≥ b
  · rw [if_pos h]; congr 1; simp; omega
  · rw [if_neg h]; congr 1; simp; omega
theorem in_eq (a b c : Int) : spec_l01In.f a b c = some (decide (b ≤ a ∧ a ≤ c)) := by
  unfold spec_l01In.f
  by_cases h : a ≥ b
  · rw [if_pos h]; congr 1; simp; omega
  · rw [if_neg h]; congr 1; simp; omega
def fok (t l h e c o : Int) : Bool := decide (0 ≤ l ∧ l ≤ 300) && (decide (0 ≤ h ∧ h ≤ 300) && (decide (2 ≤ e ∧ e ≤ 20) && (decide (1 ≤ c ∧ c ≤ 20) && (decide (0 ≤ o ∧ o ≤ wrap64 (e - 1)) && (decide (h ≥ wrap64 (wrap64 (wrap64 (l + e) + c) + o)) && decide (0 ≤ t ∧ t ≤ h))))))
theorem fok_true {t l h e c o : Int} (H : fok t l h e c o = true) : (0 ≤ l ∧ l ≤ 300) ∧ (0 ≤ h ∧ h ≤ 300) ∧ (2 ≤ e ∧ e ≤ 20) ∧ (1 ≤ c ∧ c ≤ 20) ∧ (0 ≤ o ∧ o ≤ e - 1) ∧ l + e + c + o ≤ h ∧ 0 ≤ t ∧ t ≤ h := by
  simp only [fok, Bool.and_eq_true, decide_eq_true_eq, wrap64] at H; omega
theorem fok_mk {t l h e c o : Int} (H : (0 ≤ l ∧ l ≤ 300) ∧ (0 ≤ h ∧ h ≤ 300) ∧ (2 ≤ e ∧ e ≤ 20) ∧ (1 ≤ c ∧ c ≤ 20) ∧ (0 ≤ o ∧ o ≤ e - 1) ∧ l + e + c + o ≤ h ∧ 0 ≤ t ∧ t ≤ h) : fok t l h e c o = true := by
  simp only [fok, Bool.and_eq_true, decide_eq_true_eq, wrap64]; omega
theorem ifok_eq (t l h e c o : Int) : impl_FuserOk.f t l h e c o = some (fok t l h e c o) := by
  unfold impl_FuserOk.f fok
  simp only [within_eq, Option.bind_some]
  cases decide (0 ≤ l ∧ l ≤ 300)
  · rfl
  cases decide (0 ≤ h ∧ h ≤ 300)
  · rfl
  cases decide (2 ≤ e ∧ e ≤ 20)
  · rfl
  cases decide (1 ≤ c ∧ c ≤ 20)
  · rfl
  cases decide (0 ≤ o ∧ o ≤ wrap64 (e - 1))
  · rfl
  by_cases hh : h ≥ wrap64 (wrap64 (wrap64 (l + e) + c) + o)
  · simp [hh]
  · simp [hh]
theorem sfok_eq (t l h e c o : Int) : spec_FuserOk.f t l h e c o = some (fok t l h e c o) := by
  unfold spec_FuserOk.f fok
  simp only [in_eq, Option.bind_some]
  cases decide (0 ≤ l ∧ l ≤ 300)
  · rfl
  cases decide (0 ≤ h ∧ h ≤ 300)
  · rfl
  cases decide (2 ≤ e ∧ e ≤ 20)
  · rfl
  cases decide (1 ≤ c ∧ c ≤ 20)
  · rfl
  cases decide (0 ≤ o ∧ o ≤ wrap64 (e - 1))
  · rfl
  by_cases hh : h ≥ wrap64 (wrap64 (wrap64 (l + e) + c) + o)
  · simp [hh]
  · simp [hh]
def stp (t h e c o : Int) (s : Bool) : Int := mx 0 ((if t + e ≤ h then t + e else t - c) - (if s = true then o else 0))
theorem istep_bad {t l h e c o : Int} (s : Bool) (H : fok t l h e c o = false) : impl_StepFuser.f t l h e c o s = some (t, l, h, e, c, o) := by
  unfold impl_StepFuser.f
  simp [ifok_eq, H]
theorem istep_ok {t l h e c o : Int} (s : Bool) (H : fok t l h e c o = true) : impl_StepFuser.f t l h e c o s = some (stp t h e c o s, l, h, e, c, o) := by
  unfold impl_StepFuser.f stp
  have h0 := fok_true H
  have e1 : wrap64 (t + e) = t + e := by unfold wrap64; omega
  have e2 : wrap64 (t - c) = t - c := by unfold wrap64; omega
  have e3 : wrap64 (t + e - o) = t + e - o := by unfold wrap64; omega
  have e4 : wrap64 (t - c - o) = t - c - o := by unfold wrap64; omega
  simp only [ifok_eq, H, Option.bind_some, if_true, e1, e2, e3, e4]
  by_cases hh : t + e ≤ h <;> cases s <;> simp [hh]
theorem stp_ok {t l h e c o : Int} (s : Bool) (H : fok t l h e c o = true) : fok (stp t h e c o s) l h e c o = true := by
  have h0 := fok_true H
  refine fok_mk ?_
  unfold stp mx
  refine ⟨h0.1, h0.2.1, h0.2.2.1, h0.2.2.2.1, h0.2.2.2.2.1, h0.2.2.2.2.2.1, ?_⟩
  split <;> split <;> split at * <;> omega
theorem sstep_bad {t l h e c o : Int} (s : Bool) (H : fok t l h e c o = false) : spec_StepFuser.f t l h e c o s = some (t, l, h, e, c, o) := by
  unfold spec_StepFuser.f
  simp [sfok_eq, H]
theorem sstep_ok {t l h e c o : Int} (s : Bool) (H : fok t l h e c o = true) : spec_StepFuser.f t l h e c o s = some (stp t h e c o s, l, h, e, c, o) := by
  unfold spec_StepFuser.f stp
  have h0 := fok_true H
  have e1 : wrap64 (t + e) = t + e := by unfold wrap64; omega
  have e2 : wrap64 (t - c) = t - c := by unfold wrap64; omega
  have e3 : wrap64 (t + e - o) = t + e - o := by unfold wrap64; omega
  have e4 : wrap64 (t - c - o) = t - c - o := by unfold wrap64; omega
  simp only [sfok_eq, H, Option.bind_some, if_true, e1, e2, e3, e4]
  by_cases hh : t + e ≤ h <;> cases s <;> simp [hh]
theorem FnExactStepFuser : ∀ (a0_0 : Int) (a0_1 : Int) (a0_2 : Int) (a0_3 : Int) (a0_4 : Int) (a0_5 : Int) (a1 : Bool), ((Lit.int .i64 a0_0).wf = true) → ((Lit.int .i64 a0_1).wf = true) → ((Lit.int .i64 a0_2).wf = true) → ((Lit.int .i64 a0_3).wf = true) → ((Lit.int .i64 a0_4).wf = true) → ((Lit.int .i64 a0_5).wf = true) → laws_FnExactStepFuser.f a0_0 a0_1 a0_2 a0_3 a0_4 a0_5 a1 = some true := by
  intro t l h e c o s _ _ _ _ _ _
  unfold laws_FnExactStepFuser.f laws_toFuser.f
  cases hf : fok t l h e c o with
  | false => simp [sstep_bad s hf, istep_bad s hf, laws_eqFuser.f]
  | true => simp [sstep_ok s hf, istep_ok s hf, laws_eqFuser.f]

end Go.Proofs.Ytmhpdcfpfiindaa.Pure
