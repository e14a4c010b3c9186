/- The pure part of FnExactDensityOk: over numbers and lists alone. No condition beyond the numbers' own kinds. -/
import Derived.Test.YtmhpdcfpfiindaaPFnExactDensityOkx1
namespace Go.Proofs.Ytmhpdcfpfiindaa.Pure
open Go.RowKit Go.Proofs.Ytmhpdcfpfiindaa.PFnExactDensityOk Go.Proofs.YtmhpdcfpfiindaaW.PrintWords Go.Proofs.YtmhpdcfpfiindaaW.PrintLast Go.Proofs.YtmhpdcfpfiindaaW.PrintMore
set_option linter.unusedVariables false
set_option linter.unusedSimpArgs false

theorem within_eq (a b c : Int) : impl_within.f a b c = some (decide (b ≤ a ∧ a ≤ c)) := by
  unfold impl_within.f
  by_cases h : a ≥ b
  · rw [if_pos h]; congr 1; simp; omega
  · rw [if_neg h]; congr 1; simp; omega
theorem in_eq (a b c : Int) : spec_l01In.f a b c = some (decide (b ≤ a ∧ a ≤ c)) := by
  unfold spec_l01In.f
  by_cases h : a ≥ b
  · rw [if_pos h]; congr 1; simp; omega
  · rw [if_neg h]; congr 1; simp; omega
def dok (c g w : Int) : Bool := decide (0 ≤ c ∧ c ≤ 1000) && (decide (50 ≤ g ∧ g ≤ 150) && decide (0 ≤ w ∧ w ≤ 500))
theorem dok_true {c g w : Int} (h : dok c g w = true) : 0 ≤ c ∧ c ≤ 1000 ∧ 50 ≤ g ∧ g ≤ 150 ∧ 0 ≤ w ∧ w ≤ 500 := by
  simp [dok] at h; omega
theorem dok_mk {c g w : Int} (h : 0 ≤ c ∧ c ≤ 1000 ∧ 50 ≤ g ∧ g ≤ 150 ∧ 0 ≤ w ∧ w ≤ 500) : dok c g w = true := by
  simp [dok]; omega
theorem idok_eq (c g w : Int) : impl_DensityOk.f c g w = some (dok c g w) := by
  unfold impl_DensityOk.f dok
  simp only [within_eq, Option.bind_some]
  cases decide (0 ≤ c ∧ c ≤ 1000) <;> cases decide (50 ≤ g ∧ g ≤ 150) <;> simp
theorem sdok_eq (c g w : Int) : spec_DensityOk.f c g w = some (dok c g w) := by
  unfold spec_DensityOk.f dok
  simp only [in_eq, Option.bind_some]
  cases decide (0 ≤ c ∧ c ≤ 1000) <;> cases decide (50 ≤ g ∧ g ≤ 150) <;> simp
theorem FnExactDensityOk : ∀ (a0_0 : Int) (a0_1 : Int) (a0_2 : Int), ((Lit.int .i64 a0_0).wf = true) → ((Lit.int .i64 a0_1).wf = true) → ((Lit.int .i64 a0_2).wf = true) → laws_FnExactDensityOk.f a0_0 a0_1 a0_2 = some true := by
  intro c g w _ _ _
  unfold laws_FnExactDensityOk.f laws_toDensity.f
  simp [sdok_eq, idok_eq]

end Go.Proofs.Ytmhpdcfpfiindaa.Pure
