/- The pure part of FnExactLongestLoop: over numbers and lists alone. No condition beyond the numbers' own kinds. -/
import Derived.Test.YtjkhjfladhppkaaPFnExactLongestLoopx2
import Derived.Test.YtjkhjfladhppkaaLoops
import Derived.Test.YtjkhjfladhppkaaMarks
namespace Go.Proofs.Ytjkhjfladhppkaa.Pure
open Go.RowKit Go.Proofs.Ytjkhjfladhppkaa.PFnExactLongestLoop Go.Proofs.YtjkhjfladhppkaaW.PrintWords Go.Proofs.YtjkhjfladhppkaaW.PrintLast Go.Proofs.YtjkhjfladhppkaaW.PrintMore
set_option linter.unusedVariables false
set_option linter.unusedSimpArgs false

def toSd (x : S29) : S34 := ⟨x.f0, x.f1⟩
theorem toSideS_eq (l : List S29) (hl : l.length ≤ 4194304) : Ev (fun k => laws_toSideS.f k l) (l.map toSd) := by
  unfold laws_toSideS.f
  simp only [if_pos (show (0 : Int) ≤ (l.length : Int) by omega), Int.toNat_natCast, if_pos (show l.length ≤ 17592186044416 by omega)]
  exact Loops.map_loop (G := fun k i o => laws_toSideS.l0 k l o i) l z29 z34 toSd (fun k i o hi ho => by
    simp only [laws_toSideS.l0]
    rw [if_pos (by omega), if_pos (by omega)]
    simp only [laws_toSide.f, Option.bind_some]
    rw [if_pos (by omega), Loops.wrap_succ hi (by omega), Int.toNat_natCast]
    simp [rd_T29, toSd]) (fun k o => by
    simp only [laws_toSideS.l0]
    rw [if_neg (by omega)])
theorem szSideS_eq (l : List S29) (hl : l.length ≤ 9223372036854775807) : laws_szSideS.f l 1048576 = some (if l.length ≤ 1048576 then 1048576 - (l.length : Int) else -1) := by
  unfold laws_szSideS.f
  rw [show wrap64 (1048576 - (l.length : Int)) = 1048576 - (l.length : Int) from Loops.wrap_in (by omega) (by omega)]
  by_cases h : l.length ≤ 1048576
  · rw [if_neg (by omega), if_pos h]
  · rw [if_pos (by omega), if_neg h]
theorem eqSideS_eq (l : List S34) (hl : l.length ≤ 4194304) : Ev (fun k => laws_eqSideS.f k l l) true := by
  unfold laws_eqSideS.f
  simp only [if_true]
  exact Loops.plain_loop (G := fun k i => laws_eqSideS.l0 k l l i) l.length (by omega) (fun k i hi => by
    simp only [laws_eqSideS.l0]
    rw [if_pos (by omega), if_pos (by omega), if_pos (by omega)]
    simp [laws_eqSide.f]) (fun k => by
    simp only [laws_eqSideS.l0]
    rw [if_neg (by omega)])
def lng (s : Int × Int) (x : S34) : Int × Int := if x.f1 = true then (s.1 - 1, mx s.2 (s.1 - 1)) else (s.1 + 1, mx s.2 (s.1 + 1))
theorem ilong_eq (l : List S34) (hl : l.length ≤ 4194304) : Ev (fun k => impl_LongestLoop.f k l) (l.foldl lng (0, 0)).2 := by
  unfold impl_LongestLoop.f
  exact Loops.fold_loop (G := fun k i (s : Int × Int) => impl_LongestLoop.l0 k s.1 s.2 l (l.length : Int) i) (r := fun s => s.2) l z34 lng (fun i s => -(i : Int) ≤ s.1 ∧ s.1 ≤ i) (fun k i s hi hs => by
    simp only [impl_LongestLoop.l0]
    rw [if_pos (by omega), if_pos (by omega), if_pos (by omega), Loops.wrap_succ hi (by omega), show wrap64 (s.1 + 1) = s.1 + 1 from Loops.wrap_in (by omega) (by omega), show wrap64 (s.1 - 1) = s.1 - 1 from Loops.wrap_in (by omega) (by omega)]
    unfold lng
    simp only [rd_T34, Int.toNat_natCast]
    by_cases hq : (l.getD i z34).f1 = true
    · simp only [hq, if_true]
    · simp only [Bool.not_eq_true] at hq
      simp only [hq, Bool.false_eq_true, if_false]) (fun i s hi hs => by unfold lng; split <;> simp only <;> omega) (fun s hs => Loops.Ev.one (fun k => by
    simp only [impl_LongestLoop.l0]
    rw [if_neg (by omega)])) (0, 0) (by simp)
theorem slong_eq (l : List S34) (hl : l.length ≤ 4194304) : Ev (fun k => spec_LongestLoop.f k l) (l.foldl lng (0, 0)).2 := by
  unfold spec_LongestLoop.f
  exact Loops.fold_loop (G := fun k i (s : Int × Int) => spec_LongestLoop.l0 k l s.1 s.2 i) (r := fun s => s.2) l z34 lng (fun i s => -(i : Int) ≤ s.1 ∧ s.1 ≤ i) (fun k i s hi hs => by
    simp only [spec_LongestLoop.l0]
    rw [if_pos (by omega), if_pos (by omega), Loops.wrap_succ hi (by omega), show wrap64 (s.1 + 1) = s.1 + 1 from Loops.wrap_in (by omega) (by omega), show wrap64 (s.1 - 1) = s.1 - 1 from Loops.wrap_in (by omega) (by omega)]
    unfold lng
    simp only [rd_T34, Int.toNat_natCast]
    by_cases hq : (l.getD i z34).f1 = true
    · simp only [hq, if_true]
    · simp only [Bool.not_eq_true] at hq
      simp only [hq, Bool.false_eq_true, if_false]) (fun i s hi hs => by unfold lng; split <;> simp only <;> omega) (fun s hs => Loops.Ev.one (fun k => by
    simp only [spec_LongestLoop.l0]
    rw [if_neg (by omega)])) (0, 0) (by simp)
theorem FnExactLongestLoop : ∀ (l0 : List (S29)), (l0.length ≤ maxLen ∧ ∀ x ∈ l0, (Lit.int .i64 x.f0).wf = true ∧ True) → ∃ k, laws_FnExactLongestLoop.f k l0 = some true := by
  intro l hm
  have hm1 := hm.1
  unfold maxLen at hm1
  refine Ev.rounds ?_
  unfold laws_FnExactLongestLoop.f
  rw [szSideS_eq l hm1]
  simp only [Option.bind_some]
  by_cases hb : l.length ≤ 1048576
  · simp only [if_pos hb, if_neg (show ¬ (1048576 - (l.length : Int)) < 0 by omega)]
    have hl2 : (l.map toSd).length ≤ 4194304 := by rw [List.length_map]; omega
    refine Ev.bind (toSideS_eq l (by omega)) (Ev.bind (slong_eq _ hl2) (Ev.bind (toSideS_eq l (by omega)) (Ev.bind (ilong_eq _ hl2) ?_)))
    simp only [if_true]
    refine Ev.bind (toSideS_eq l (by omega)) (Ev.bind (eqSideS_eq _ hl2) ?_)
    exact Ev.now _
  · simp only [if_neg hb]
    exact Ev.now _

end Go.Proofs.Ytjkhjfladhppkaa.Pure
