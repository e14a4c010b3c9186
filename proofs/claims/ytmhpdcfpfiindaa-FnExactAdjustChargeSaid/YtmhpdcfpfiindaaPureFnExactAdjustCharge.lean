/- The pure part of FnExactAdjustCharge: over numbers and lists alone. No condition beyond the numbers' own kinds. -/
import Derived.Test.YtmhpdcfpfiindaaPFnExactAdjustChargex1
namespace Go.Proofs.Ytmhpdcfpfiindaa.Pure
open Go.RowKit Go.Proofs.Ytmhpdcfpfiindaa.PFnExactAdjustCharge Go.Proofs.YtmhpdcfpfiindaaW.PrintWords Go.Proofs.YtmhpdcfpfiindaaW.PrintLast Go.Proofs.YtmhpdcfpfiindaaW.PrintMore
set_option linter.unusedVariables false
set_option linter.unusedSimpArgs false

theorem within_eq (a b c : Int) : impl_within.f a b c = some (decide (b ≤ a ∧ a ≤ c)) := by
  unfold impl_within.f
  by_cases h : a ≥ b
  · rw [if_pos h]; congr 1; simp; omega
  · rw [if_neg h]; congr 1; simp; omega
theorem in_eq (a b c : Int) : spec_l01In.f a b c = some (decide (b ≤ a ∧ a ≤ c)) := by
  unfold spec_l01In.f
  by_cases h : a ≥ b
  · rw [if_pos h]; congr 1; simp; omega
  · rw [if_neg h]; congr 1; simp; omega
def dok (c g w : Int) : Bool := decide (0 ≤ c ∧ c ≤ 1000) && (decide (50 ≤ g ∧ g ≤ 150) && decide (0 ≤ w ∧ w ≤ 500))
theorem dok_true {c g w : Int} (h : dok c g w = true) : 0 ≤ c ∧ c ≤ 1000 ∧ 50 ≤ g ∧ g ≤ 150 ∧ 0 ≤ w ∧ w ≤ 500 := by
  simp [dok] at h; omega
theorem dok_mk {c g w : Int} (h : 0 ≤ c ∧ c ≤ 1000 ∧ 50 ≤ g ∧ g ≤ 150 ∧ 0 ≤ w ∧ w ≤ 500) : dok c g w = true := by
  simp [dok]; omega
theorem idok_eq (c g w : Int) : impl_DensityOk.f c g w = some (dok c g w) := by
  unfold impl_DensityOk.f dok
  simp only [within_eq, Option.bind_some]
  cases decide (0 ≤ c ∧ c ≤ 1000) <;> cases decide (50 ≤ g ∧ g ≤ 150) <;> simp
theorem sdok_eq (c g w : Int) : spec_DensityOk.f c g w = some (dok c g w) := by
  unfold spec_DensityOk.f dok
  simp only [in_eq, Option.bind_some]
  cases decide (0 ≤ c ∧ c ≤ 1000) <;> cases decide (50 ≤ g ∧ g ≤ 150) <;> simp
theorem iread_eq (c g w : Int) : impl_ReadPatch.f c g w = some (if dok c g w = true then wrap64 (Int.tdiv (wrap64 (c * g)) 100) else -1) := by
  unfold impl_ReadPatch.f
  rw [idok_eq, Option.bind_some]
  cases dok c g w <;> rfl
theorem sread_eq (c g w : Int) : spec_ReadPatch.f c g w = some (if dok c g w = true then wrap64 (Int.tdiv (wrap64 (c * g)) 100) else -1) := by
  unfold spec_ReadPatch.f
  rw [sdok_eq, Option.bind_some]
  cases dok c g w <;> rfl
theorem prod_bounds {c g : Int} (h0 : 0 ≤ c) (h1 : c ≤ 1000) (h2 : 50 ≤ g) (h3 : g ≤ 150) : 0 ≤ c * g ∧ c * g ≤ 150000 := by
  constructor
  · exact Int.mul_nonneg h0 (by omega)
  · calc c * g ≤ 1000 * g := Int.mul_le_mul_of_nonneg_right h1 (by omega)
      _ ≤ 1000 * 150 := Int.mul_le_mul_of_nonneg_left h3 (by omega)
      _ = 150000 := by omega
theorem read_plain {c g w : Int} (h : dok c g w = true) : wrap64 (Int.tdiv (wrap64 (c * g)) 100) = c * g / 100 := by
  have := dok_true h
  have hb := prod_bounds (c := c) (g := g) (by omega) (by omega) (by omega) (by omega)
  have e : wrap64 (c * g) = c * g := by unfold wrap64; omega
  rw [e, Int.tdiv_eq_ediv_of_nonneg hb.1]
  unfold wrap64; omega
theorem clamp_eq (x : Int) : impl_Clamp.f x 0 1000 = some (mn 1000 (mx 0 x)) := by
  unfold impl_Clamp.f mn mx
  rw [if_neg (by omega)]
  by_cases h1 : x < 0
  · rw [if_pos h1, if_neg (show ¬ (0 < x) by omega)]; rfl
  · rw [if_neg h1]
    by_cases h2 : 0 < x
    · rw [if_pos h2]
      by_cases h3 : 1000 < x
      · rw [if_pos h3, if_neg (show ¬ x < 1000 by omega)]
      · rw [if_neg h3]; congr 1; split <;> omega
    · rw [if_neg h2]
      obtain rfl : x = 0 := by omega
      rfl
theorem adj_eq (c g w : Int) : impl_AdjustCharge.f c g w = spec_AdjustCharge.f c g w := by
  unfold impl_AdjustCharge.f spec_AdjustCharge.f
  simp only [sdok_eq, idok_eq, sread_eq, iread_eq, clamp_eq, Option.bind_some]
theorem sadj_some (c g w : Int) : ∃ r, spec_AdjustCharge.f c g w = some r := by
  unfold spec_AdjustCharge.f
  simp only [sdok_eq, sread_eq, Option.bind_some]
  split <;> exact ⟨_, rfl⟩
theorem FnExactAdjustCharge : ∀ (a0_0 : Int) (a0_1 : Int) (a0_2 : Int), ((Lit.int .i64 a0_0).wf = true) → ((Lit.int .i64 a0_1).wf = true) → ((Lit.int .i64 a0_2).wf = true) → laws_FnExactAdjustCharge.f a0_0 a0_1 a0_2 = some true := by
  intro c g w _ _ _
  unfold laws_FnExactAdjustCharge.f laws_toDensity.f
  obtain ⟨⟨x, y, z⟩, h⟩ := sadj_some c g w
  simp [adj_eq, h, laws_eqDensity.f]

end Go.Proofs.Ytmhpdcfpfiindaa.Pure
