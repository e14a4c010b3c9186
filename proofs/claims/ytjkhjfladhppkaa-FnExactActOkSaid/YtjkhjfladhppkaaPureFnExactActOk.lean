/- The pure part of FnExactActOk: over numbers and lists alone. No condition beyond the numbers' own kinds. -/
import Derived.Test.YtjkhjfladhppkaaPFnExactActOkx2
import Derived.Test.YtjkhjfladhppkaaLoops
namespace Go.Proofs.Ytjkhjfladhppkaa.Pure
open Go.RowKit Go.Proofs.Ytjkhjfladhppkaa.PFnExactActOk Go.Proofs.YtjkhjfladhppkaaW.PrintWords Go.Proofs.YtjkhjfladhppkaaW.PrintLast Go.Proofs.YtjkhjfladhppkaaW.PrintMore
set_option linter.unusedVariables false
set_option linter.unusedSimpArgs false

theorem within_eq (a b c : Int) : impl_within.f a b c = some (decide (b ≤ a ∧ a ≤ c)) := by
  unfold impl_within.f
  by_cases h : a ≥ b
  · rw [if_pos h]; congr 1; simp; omega
  · rw [if_neg h]; congr 1; simp; omega
theorem in_eq (a b c : Int) : spec_l01In.f a b c = some (decide (b ≤ a ∧ a ≤ c)) := by
  unfold spec_l01In.f
  by_cases h : a ≥ b
  · rw [if_pos h]; congr 1; simp; omega
  · rw [if_neg h]; congr 1; simp; omega
def jok (i p c r : Int) : Bool := decide (1 ≤ i ∧ i ≤ 9999) && (decide (1 ≤ p ∧ p ≤ 64) && (decide (1 ≤ c ∧ c ≤ 20) && decide (0 ≤ r ∧ r ≤ 9)))
theorem jok_true {i p c r : Int} (h : jok i p c r = true) : (1 ≤ i ∧ i ≤ 9999) ∧ (1 ≤ p ∧ p ≤ 64) ∧ (1 ≤ c ∧ c ≤ 20) ∧ 0 ≤ r ∧ r ≤ 9 := by
  simp only [jok, Bool.and_eq_true, decide_eq_true_eq] at h; omega
theorem jok_mk {i p c r : Int} (h : (1 ≤ i ∧ i ≤ 9999) ∧ (1 ≤ p ∧ p ≤ 64) ∧ (1 ≤ c ∧ c ≤ 20) ∧ 0 ≤ r ∧ r ≤ 9) : jok i p c r = true := by
  simp only [jok, Bool.and_eq_true, decide_eq_true_eq]; omega
theorem ijok_eq (i p c : Int) (d : Bool) (r : Int) (h : Bool) : impl_JobOk.f i p c d r h = some (jok i p c r) := by
  unfold impl_JobOk.f jok
  simp only [within_eq, Option.bind_some]
  cases decide (1 ≤ i ∧ i ≤ 9999) <;> cases decide (1 ≤ p ∧ p ≤ 64) <;> cases decide (1 ≤ c ∧ c ≤ 20) <;> simp
theorem sjok_eq (i p c : Int) (d : Bool) (r : Int) (h : Bool) : spec_JobOk.f i p c d r h = some (jok i p c r) := by
  unfold spec_JobOk.f jok
  simp only [in_eq, Option.bind_some]
  cases decide (1 ≤ i ∧ i ≤ 9999) <;> cases decide (1 ≤ p ∧ p ≤ 64) <;> cases decide (1 ≤ c ∧ c ≤ 20) <;> simp
def aok (k a b c : Int) : Bool := if k = 1 then jok a b 1 c else if k = 2 ∨ k = 4 then decide (a = 0 ∧ b = 0 ∧ c = 0) else if k = 3 then decide ((1 ≤ a ∧ a ≤ 5) ∧ b = 0 ∧ c = 0) else if k = 5 then decide ((1 ≤ a ∧ a ≤ 9999) ∧ b = 0 ∧ c = 0) else false
theorem zero3 (a b c : Int) : (if a = 0 then (if b = 0 then (some (c == 0)) else some false) else some false) = some (decide (a = 0 ∧ b = 0 ∧ c = 0)) := by
  by_cases h : a = 0 <;> by_cases h2 : b = 0 <;> by_cases h3 : c = 0 <;> simp [h, h2, h3]
theorem zero2 (p : Prop) [Decidable p] (b c : Int) : (if decide p = true then (if b = 0 then (some (c == 0)) else some false) else some false) = some (decide (p ∧ b = 0 ∧ c = 0)) := by
  by_cases h : p <;> by_cases h2 : b = 0 <;> by_cases h3 : c = 0 <;> simp [h, h2, h3]
theorem iaok_eq (K a b c : Int) : Ev (fun k => impl_ActOk.f k K a b c) (aok K a b c) := by
  unfold impl_ActOk.f aok
  by_cases h1 : K = 1
  · simp only [if_pos h1, impl_jobOf.f, ijok_eq, Option.bind_some]
    exact Ev.now _
  simp only [if_neg h1]
  by_cases h2 : K = 2
  · simp only [if_pos h2, h2, true_or, if_true]
    exact Loops.Ev.one (fun k => by simp only [impl_ActOk.j0, beq_self_eq_true, if_true, zero3])
  simp only [if_neg h2]
  by_cases h4 : K = 4
  · simp only [h4, or_true, if_true]
    exact Loops.Ev.one (fun k => by simp only [impl_ActOk.j0, beq_self_eq_true, if_true, zero3])
  rw [if_neg (show ¬ (K = 2 ∨ K = 4) by omega)]
  refine Loops.Ev.one (fun k => ?_)
  simp only [impl_ActOk.j0]
  rw [if_neg (by simp [h4])]
  by_cases h3 : K = 3
  · simp only [if_pos h3, within_eq, Option.bind_some, zero2]
  simp only [if_neg h3]
  by_cases h5 : K = 5
  · simp only [if_pos h5, within_eq, Option.bind_some, zero2]
  · simp only [if_neg h5]
theorem saok_eq (K a b c : Int) : Ev (fun k => spec_ActOk.f k K a b c) (aok K a b c) := by
  unfold spec_ActOk.f aok
  by_cases h1 : K = 1
  · simp only [if_pos h1, spec_l39Job.f, sjok_eq, Option.bind_some]
    exact Ev.now _
  simp only [if_neg h1]
  by_cases h3 : K = 3
  · simp only [if_pos h3, if_neg (show ¬ (K = 2 ∨ K = 4) by omega), in_eq, Option.bind_some, zero2]
    exact Ev.now _
  simp only [if_neg h3]
  by_cases h2 : K = 2
  · simp only [if_pos h2, h2, true_or, if_true]
    exact Loops.Ev.one (fun k => by simp only [spec_ActOk.j0, beq_self_eq_true, if_true, zero3])
  simp only [if_neg h2]
  by_cases h4 : K = 4
  · simp only [h4, or_true, if_true]
    exact Loops.Ev.one (fun k => by simp only [spec_ActOk.j0, beq_self_eq_true, if_true, zero3])
  rw [if_neg (show ¬ (K = 2 ∨ K = 4) by omega)]
  refine Loops.Ev.one (fun k => ?_)
  simp only [spec_ActOk.j0]
  rw [if_neg (by simp [h4])]
  by_cases h5 : K = 5
  · simp only [if_pos h5, in_eq, Option.bind_some, zero2]
  · simp only [if_neg h5]
theorem FnExactActOk : ∀ (a0_0 : Int) (a0_1 : Int) (a0_2 : Int) (a0_3 : Int), ((Lit.int .i64 a0_0).wf = true) → ((Lit.int .i64 a0_1).wf = true) → ((Lit.int .i64 a0_2).wf = true) → ((Lit.int .i64 a0_3).wf = true) → ∃ k, laws_FnExactActOk.f k a0_0 a0_1 a0_2 a0_3 = some true := by
  intro K a b c _ _ _ _
  refine Ev.rounds ?_
  unfold laws_FnExactActOk.f laws_toAct.f
  simp only [Option.bind_some]
  refine Ev.bind (saok_eq K a b c) (Ev.bind (iaok_eq K a b c) ?_)
  exact Loops.Ev.const (by simp)

end Go.Proofs.Ytjkhjfladhppkaa.Pure
