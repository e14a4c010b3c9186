/- The pure part of FnExactCountStep: over numbers and lists alone. No condition beyond the numbers' own kinds. -/
import Derived.Test.YtjkhjfladhppkaaPFnExactCountStepx1
import Derived.Test.YtjkhjfladhppkaaLoops
namespace Go.Proofs.Ytjkhjfladhppkaa.Pure
open Go.RowKit Go.Proofs.Ytjkhjfladhppkaa.PFnExactCountStep Go.Proofs.YtjkhjfladhppkaaW.PrintWords Go.Proofs.YtjkhjfladhppkaaW.PrintLast Go.Proofs.YtjkhjfladhppkaaW.PrintMore
set_option linter.unusedVariables false
set_option linter.unusedSimpArgs false

theorem toIntS_eq (l : List Int) (hl : l.length ≤ 4194304) : Ev (fun k => laws_toIntS.f k l) l := by
  unfold laws_toIntS.f
  simp only [if_pos (show (0 : Int) ≤ (l.length : Int) by omega), Int.toNat_natCast, if_pos (show l.length ≤ 35184372088832 by omega)]
  exact Loops.copy_loop (G := fun k i o => laws_toIntS.l0 k l o i) l 0 (by omega) (fun k i o => by simp only [laws_toIntS.l0, rd])
theorem eqIntS_eq (l : List Int) (hl : l.length ≤ 4194304) : Ev (fun k => laws_eqIntS.f k l l) true := by
  unfold laws_eqIntS.f
  simp only [if_true]
  exact Loops.plain_loop (G := fun k i => laws_eqIntS.l0 k l l i) l.length (by omega) (fun k i hi => by
    simp only [laws_eqIntS.l0]
    rw [if_pos (by omega), if_pos (by omega), if_pos (by omega), if_pos trivial]) (fun k => by
    simp only [laws_eqIntS.l0]
    rw [if_neg (by omega)])
def cnt (a : Int) (n x : Int) : Int := if x = a then n + 1 else n
theorem icount_eq (l : List Int) (a : Int) (hl : l.length ≤ 4194304) : Ev (fun k => impl_CountStep.f k l a) (l.foldl (cnt a) 0) := by
  unfold impl_CountStep.f
  exact Loops.fold_loop (G := fun k i s => impl_CountStep.l0 k a s l (l.length : Int) i) (r := id) l 0 (cnt a) (fun i s => 0 ≤ s ∧ s ≤ i) (fun k i s hi hs => by
    simp only [impl_CountStep.l0]
    rw [if_pos (by omega), if_pos (by omega), if_pos (by omega), Loops.wrap_succ hi (by omega), show wrap64 (s + 1) = s + 1 from Loops.wrap_in (by omega) (by omega), Loops.rd_nat]
    unfold cnt
    split <;> rfl) (fun i s hi hs => by unfold cnt; split <;> omega) (fun s hs => Loops.Ev.one (fun k => by
    simp only [impl_CountStep.l0]
    rw [if_neg (by omega)]
    rfl)) 0 (by omega)
theorem scount_eq (l : List Int) (a : Int) (hl : l.length ≤ 4194304) : Ev (fun k => spec_CountStep.f k l a) (l.foldl (cnt a) 0) := by
  unfold spec_CountStep.f
  exact Loops.fold_loop (G := fun k i s => spec_CountStep.l0 k l a s i) (r := id) l 0 (cnt a) (fun i s => 0 ≤ s ∧ s ≤ i) (fun k i s hi hs => by
    simp only [spec_CountStep.l0]
    rw [if_pos (by omega), if_pos (by omega), Loops.wrap_succ hi (by omega), show wrap64 (s + 1) = s + 1 from Loops.wrap_in (by omega) (by omega), Loops.rd_nat]
    unfold cnt
    split <;> rfl) (fun i s hi hs => by unfold cnt; split <;> omega) (fun s hs => Loops.Ev.one (fun k => by
    simp only [spec_CountStep.l0]
    rw [if_neg (by omega)]
    rfl)) 0 (by omega)
theorem FnExactCountStep : ∀ (l0 : List Int) (a1 : Int), (l0.length ≤ maxLen ∧ ∀ x ∈ l0, (Lit.int .i64 x).wf = true) → ((Lit.int .i64 a1).wf = true) → ∃ k, laws_FnExactCountStep.f k l0 a1 = some true := by
  intro l a _ _
  refine Ev.rounds ?_
  unfold laws_FnExactCountStep.f
  by_cases hb : (l.length : Int) > 1048576
  · simp only [if_pos hb]
    exact Ev.now _
  simp only [if_neg hb]
  refine Ev.bind (toIntS_eq l (by omega)) (Ev.bind (scount_eq l a (by omega)) (Ev.bind (toIntS_eq l (by omega)) (Ev.bind (icount_eq l a (by omega)) ?_)))
  simp only [if_true]
  refine Ev.bind (toIntS_eq l (by omega)) (Ev.bind (eqIntS_eq l (by omega)) ?_)
  exact Ev.now _

end Go.Proofs.Ytjkhjfladhppkaa.Pure
