/- The pure part of FnExactSidePlace: over numbers and lists alone. No condition beyond the numbers' own kinds. -/
import Derived.Test.YtjkhjfladhppkaaPFnExactSidePlacex3
import Derived.Test.YtjkhjfladhppkaaLoops
import Derived.Test.YtjkhjfladhppkaaMarks
namespace Go.Proofs.Ytjkhjfladhppkaa.Pure
open Go.RowKit Go.Proofs.Ytjkhjfladhppkaa.PFnExactSidePlace Go.Proofs.YtjkhjfladhppkaaW.PrintWords Go.Proofs.YtjkhjfladhppkaaW.PrintLast Go.Proofs.YtjkhjfladhppkaaW.PrintMore
set_option linter.unusedVariables false
set_option linter.unusedSimpArgs false

def toSd (x : S29) : S34 := ⟨x.f0, x.f1⟩
theorem toSideS_eq (l : List S29) (hl : l.length ≤ 4194304) : Ev (fun k => laws_toSideS.f k l) (l.map toSd) := by
  unfold laws_toSideS.f
  simp only [if_pos (show (0 : Int) ≤ (l.length : Int) by omega), Int.toNat_natCast, if_pos (show l.length ≤ 17592186044416 by omega)]
  exact Loops.map_loop (G := fun k i o => laws_toSideS.l0 k l o i) l z29 z34 toSd (fun k i o hi ho => by
    simp only [laws_toSideS.l0]
    rw [if_pos (by omega), if_pos (by omega)]
    simp only [laws_toSide.f, Option.bind_some]
    rw [if_pos (by omega), Loops.wrap_succ hi (by omega), Int.toNat_natCast]
    simp [rd_T29, toSd]) (fun k o => by
    simp only [laws_toSideS.l0]
    rw [if_neg (by omega)])
theorem szSideS_eq (l : List S29) (hl : l.length ≤ 9223372036854775807) : laws_szSideS.f l 1048576 = some (if l.length ≤ 1048576 then 1048576 - (l.length : Int) else -1) := by
  unfold laws_szSideS.f
  rw [show wrap64 (1048576 - (l.length : Int)) = 1048576 - (l.length : Int) from Loops.wrap_in (by omega) (by omega)]
  by_cases h : l.length ≤ 1048576
  · rw [if_neg (by omega), if_pos h]
  · rw [if_pos (by omega), if_neg h]
theorem eqSideS_eq (l : List S34) (hl : l.length ≤ 4194304) : Ev (fun k => laws_eqSideS.f k l l) true := by
  unfold laws_eqSideS.f
  simp only [if_true]
  exact Loops.plain_loop (G := fun k i => laws_eqSideS.l0 k l l i) l.length (by omega) (fun k i hi => by
    simp only [laws_eqSideS.l0]
    rw [if_pos (by omega), if_pos (by omega), if_pos (by omega)]
    simp [laws_eqSide.f]) (fun k => by
    simp only [laws_eqSideS.l0]
    rw [if_neg (by omega)])
/-- The place of a side in a list, from i on. -/
def place (s : Int) (b : Bool) : List S34 → Int → Int
  | [], _ => -1
  | x :: xs, i => if x.f0 = s ∧ x.f1 = b then i else place s b xs (i + 1)
theorem iplace_loop (l : List S34) (hl : l.length ≤ 4194304) (s : Int) (b : Bool) : ∀ (d i : Nat), i + d = l.length → Ev (fun k => impl_Side.l0 k l (l.length : Int) (i : Int) s b) (place s b (l.drop i) i) := by
  intro d
  induction d with
  | zero =>
    intro i hi
    rw [List.drop_of_length_le (by omega)]
    refine Loops.Ev.one (fun k => ?_)
    simp only [impl_Side.l0]
    rw [if_neg (by omega)]
    rfl
  | succ d ih =>
    intro i hi
    have hlt : i < l.length := by omega
    rw [Loops.drop_cons_getD l z34 i hlt]
    unfold place
    by_cases hx : (l.getD i z34).f0 = s ∧ (l.getD i z34).f1 = b
    · rw [if_pos hx]
      refine Loops.Ev.one (fun k => ?_)
      simp only [impl_Side.l0]
      rw [if_pos (by omega), if_pos (by omega), if_pos (by omega), if_pos (by simp only [rd_T34, Int.toNat_natCast, hx.1, hx.2]; simp)]
    · rw [if_neg hx]
      refine Ev.step (fun k => ?_) (Loops.Ev.eq (ih (i + 1) (by omega)) (by rw [show ((i + 1 : Nat) : Int) = (i : Int) + 1 by omega]))
      simp only [impl_Side.l0]
      rw [if_pos (by omega), if_pos (by omega), if_pos (by omega), if_neg (by
        simp only [rd_T34, Int.toNat_natCast, Bool.and_eq_true, beq_iff_eq]
        exact fun h => hx ⟨h.1.symm, h.2.symm⟩), Loops.wrap_succ hlt (by omega)]
theorem iplace_eq (l : List S34) (hl : l.length ≤ 4194304) (s : Int) (b : Bool) : Ev (fun k => impl_SidePlace.f k l s b) (place s b l 0) := by
  unfold impl_SidePlace.f impl_Side.f
  refine Ev.bind (iplace_loop l hl s b l.length 0 (by omega)) ?_
  exact Ev.now _
theorem splace_loop (l : List S34) (hl : l.length ≤ 4194304) (s : Int) (b : Bool) : ∀ (d i : Nat), i + d = l.length → Ev (fun k => spec_SidePlace.l0 k l (i : Int) s b) (place s b (l.drop i) i) := by
  intro d
  induction d with
  | zero =>
    intro i hi
    rw [List.drop_of_length_le (by omega)]
    refine Loops.Ev.one (fun k => ?_)
    simp only [spec_SidePlace.l0]
    rw [if_neg (by omega)]
    rfl
  | succ d ih =>
    intro i hi
    have hlt : i < l.length := by omega
    rw [Loops.drop_cons_getD l z34 i hlt]
    unfold place
    by_cases hx : (l.getD i z34).f0 = s ∧ (l.getD i z34).f1 = b
    · rw [if_pos hx]
      refine Loops.Ev.one (fun k => ?_)
      simp only [spec_SidePlace.l0]
      rw [if_pos (by omega), if_pos (by omega), if_pos (by simp only [rd_T34, Int.toNat_natCast, hx.1, hx.2]; simp)]
    · rw [if_neg hx]
      refine Ev.step (fun k => ?_) (Loops.Ev.eq (ih (i + 1) (by omega)) (by rw [show ((i + 1 : Nat) : Int) = (i : Int) + 1 by omega]))
      simp only [spec_SidePlace.l0]
      rw [if_pos (by omega), if_pos (by omega), if_neg (by
        simp only [rd_T34, Int.toNat_natCast, Bool.and_eq_true, beq_iff_eq]
        exact hx), Loops.wrap_succ hlt (by omega)]
theorem FnExactSidePlace : ∀ (l0 : List (S29)) (a1_0 : Int) (a1_1 : Bool), (l0.length ≤ maxLen ∧ ∀ x ∈ l0, (Lit.int .i64 x.f0).wf = true ∧ True) → ((Lit.int .i64 a1_0).wf = true) → ∃ k, laws_FnExactSidePlace.f k l0 a1_0 a1_1 = some true := by
  intro l s b hm _
  have hm1 := hm.1
  unfold maxLen at hm1
  refine Ev.rounds ?_
  unfold laws_FnExactSidePlace.f
  rw [szSideS_eq l hm1]
  simp only [Option.bind_some, laws_toSide.f]
  by_cases hb : l.length ≤ 1048576
  · simp only [if_pos hb, if_neg (show ¬ (1048576 - (l.length : Int)) < 0 by omega)]
    have hl2 : (l.map toSd).length ≤ 4194304 := by rw [List.length_map]; omega
    refine Ev.bind (toSideS_eq l (by omega)) (Ev.bind (splace_loop _ hl2 s b (l.map toSd).length 0 (by omega)) (Ev.bind (toSideS_eq l (by omega)) (Ev.bind (iplace_eq _ hl2 s b) ?_)))
    simp only [List.drop_zero]
    rw [show ((0 : Nat) : Int) = 0 from rfl]
    simp only [if_true]
    refine Ev.bind (toSideS_eq l (by omega)) (Ev.bind (eqSideS_eq _ hl2) ?_)
    exact Ev.now _
  · simp only [if_neg hb]
    exact Ev.now _

end Go.Proofs.Ytjkhjfladhppkaa.Pure
