/- The pure part of FnExactIsHot: over numbers and lists alone. No condition beyond the numbers' own kinds. -/
import Derived.Test.YtmhpdcfpfiindaaPFnExactIsHotx1
namespace Go.Proofs.Ytmhpdcfpfiindaa.Pure
open Go.RowKit Go.Proofs.Ytmhpdcfpfiindaa.PFnExactIsHot Go.Proofs.YtmhpdcfpfiindaaW.PrintWords Go.Proofs.YtmhpdcfpfiindaaW.PrintLast Go.Proofs.YtmhpdcfpfiindaaW.PrintMore
set_option linter.unusedVariables false
set_option linter.unusedSimpArgs false

theorem within_eq (a b c : Int) : impl_within.f a b c = some (decide (b ≤ a ∧ a ≤ c)) := by
  unfold impl_within.f
  by_cases h : a ≥ b
  · rw [if_pos h]; congr 1; simp; omega
  · rw [if_neg h]; congr 1; simp; omega
theorem in_eq (a b c : Int) : spec_l01In.f a b c = some (decide (b ≤ a ∧ a ≤ c)) := by
  unfold spec_l01In.f
  by_cases h : a ≥ b
  · rw [if_pos h]; congr 1; simp; omega
  · rw [if_neg h]; congr 1; simp; omega
def fok (t l h e c o : Int) : Bool := decide (0 ≤ l ∧ l ≤ 300) && (decide (0 ≤ h ∧ h ≤ 300) && (decide (2 ≤ e ∧ e ≤ 20) && (decide (1 ≤ c ∧ c ≤ 20) && (decide (0 ≤ o ∧ o ≤ wrap64 (e - 1)) && (decide (h ≥ wrap64 (wrap64 (wrap64 (l + e) + c) + o)) && decide (0 ≤ t ∧ t ≤ h))))))
theorem fok_true {t l h e c o : Int} (H : fok t l h e c o = true) : (0 ≤ l ∧ l ≤ 300) ∧ (0 ≤ h ∧ h ≤ 300) ∧ (2 ≤ e ∧ e ≤ 20) ∧ (1 ≤ c ∧ c ≤ 20) ∧ (0 ≤ o ∧ o ≤ e - 1) ∧ l + e + c + o ≤ h ∧ 0 ≤ t ∧ t ≤ h := by
  simp only [fok, Bool.and_eq_true, decide_eq_true_eq, wrap64] at H; omega
theorem fok_mk {t l h e c o : Int} (H : (0 ≤ l ∧ l ≤ 300) ∧ (0 ≤ h ∧ h ≤ 300) ∧ (2 ≤ e ∧ e ≤ 20) ∧ (1 ≤ c ∧ c ≤ 20) ∧ (0 ≤ o ∧ o ≤ e - 1) ∧ l + e + c + o ≤ h ∧ 0 ≤ t ∧ t ≤ h) : fok t l h e c o = true := by
  simp only [fok, Bool.and_eq_true, decide_eq_true_eq, wrap64]; omega
theorem ifok_eq (t l h e c o : Int) : impl_FuserOk.f t l h e c o = some (fok t l h e c o) := by
  unfold impl_FuserOk.f fok
  simp only [within_eq, Option.bind_some]
  cases decide (0 ≤ l ∧ l ≤ 300)
  · rfl
  cases decide (0 ≤ h ∧ h ≤ 300)
  · rfl
  cases decide (2 ≤ e ∧ e ≤ 20)
  · rfl
  cases decide (1 ≤ c ∧ c ≤ 20)
  · rfl
  cases decide (0 ≤ o ∧ o ≤ wrap64 (e - 1))
  · rfl
  by_cases hh : h ≥ wrap64 (wrap64 (wrap64 (l + e) + c) + o)
  · simp [hh]
  · simp [hh]
theorem sfok_eq (t l h e c o : Int) : spec_FuserOk.f t l h e c o = some (fok t l h e c o) := by
  unfold spec_FuserOk.f fok
  simp only [in_eq, Option.bind_some]
  cases decide (0 ≤ l ∧ l ≤ 300)
  · rfl
  cases decide (0 ≤ h ∧ h ≤ 300)
  · rfl
  cases decide (2 ≤ e ∧ e ≤ 20)
  · rfl
  cases decide (1 ≤ c ∧ c ≤ 20)
  · rfl
  cases decide (0 ≤ o ∧ o ≤ wrap64 (e - 1))
  · rfl
  by_cases hh : h ≥ wrap64 (wrap64 (wrap64 (l + e) + c) + o)
  · simp [hh]
  · simp [hh]
theorem ihot_eq (t l h e c o : Int) : impl_IsHot.f t l h e c o = some (fok t l h e c o && decide (l ≤ t)) := by
  unfold impl_IsHot.f
  rw [ifok_eq, Option.bind_some]
  cases fok t l h e c o <;> simp
theorem shot_eq (t l h e c o : Int) : spec_IsHot.f t l h e c o = some (fok t l h e c o && decide (l ≤ t)) := by
  unfold spec_IsHot.f
  rw [sfok_eq, Option.bind_some]
  cases fok t l h e c o <;> simp
theorem FnExactIsHot : ∀ (a0_0 : Int) (a0_1 : Int) (a0_2 : Int) (a0_3 : Int) (a0_4 : Int) (a0_5 : Int), ((Lit.int .i64 a0_0).wf = true) → ((Lit.int .i64 a0_1).wf = true) → ((Lit.int .i64 a0_2).wf = true) → ((Lit.int .i64 a0_3).wf = true) → ((Lit.int .i64 a0_4).wf = true) → ((Lit.int .i64 a0_5).wf = true) → laws_FnExactIsHot.f a0_0 a0_1 a0_2 a0_3 a0_4 a0_5 = some true := by
  intro t l h e c o _ _ _ _ _ _
  unfold laws_FnExactIsHot.f laws_toFuser.f
  simp [shot_eq, ihot_eq]

end Go.Proofs.Ytmhpdcfpfiindaa.Pure
