/- The pure part of FnExactCopyOf: over numbers and lists alone. No condition beyond the numbers' own kinds. -/
import Derived.Test.YtjkhjfladhppkaaPFnExactCopyOfx1
import Derived.Test.YtjkhjfladhppkaaLoops
import Derived.OpenShut
namespace Go.Proofs.Ytjkhjfladhppkaa.Pure
open Go.RowKit Go.Proofs.Ytjkhjfladhppkaa.PFnExactCopyOf Go.Proofs.YtjkhjfladhppkaaW.PrintWords Go.Proofs.YtjkhjfladhppkaaW.PrintLast Go.Proofs.YtjkhjfladhppkaaW.PrintMore
set_option linter.unusedVariables false
set_option linter.unusedSimpArgs false

theorem toIntS_eq (l : List Int) (hl : l.length ≤ 4194304) : Ev (fun k => laws_toIntS.f k l) l := by
  unfold laws_toIntS.f
  simp only [if_pos (show (0 : Int) ≤ (l.length : Int) by omega), Int.toNat_natCast, if_pos (show l.length ≤ 35184372088832 by omega)]
  exact Loops.copy_loop (G := fun k i o => laws_toIntS.l0 k l o i) l 0 (by omega) (fun k i o => by simp only [laws_toIntS.l0, rd])
theorem eqIntS_eq (l : List Int) (hl : l.length ≤ 4194304) : Ev (fun k => laws_eqIntS.f k l l) true := by
  unfold laws_eqIntS.f
  simp only [if_true]
  exact Loops.plain_loop (G := fun k i => laws_eqIntS.l0 k l l i) l.length (by omega) (fun k i hi => by
    simp only [laws_eqIntS.l0]
    rw [if_pos (by omega), if_pos (by omega), if_pos (by omega), if_pos trivial]) (fun k => by
    simp only [laws_eqIntS.l0]
    rw [if_neg (by omega)])
/-- The copy of sheet s: how many marks lie ahead of it; q sheets lie behind us. -/
def copyOf (s : Int) : List Int → Int → Int → Int
  | [], _, _ => -1
  | x :: xs, q, n => if x = 0 then (if q = s then n else copyOf s xs (q + 1) n) else copyOf s xs q (n + 1)
theorem icopy_loop (l : List Int) (hl : l.length ≤ 4194304) (s : Int) (hs0 : -9223372036854775808 ≤ s) (hs1 : s ≤ 9223372036854775807) : ∀ (d i : Nat) (q n : Int), i + d = l.length → 0 ≤ q → q ≤ i → 0 ≤ n → n ≤ i →
    Ev (fun k => impl_CopyOf.l0 k (wrap64 (s - q)) n l (l.length : Int) (i : Int)) (copyOf s (l.drop i) q n) := by
  intro d
  induction d with
  | zero =>
    intro i q n hi _ _ _ _
    rw [List.drop_of_length_le (by omega)]
    refine Loops.Ev.one (fun k => ?_)
    simp only [impl_CopyOf.l0]
    rw [if_neg (by omega)]
    rfl
  | succ d ih =>
    intro i q n hi hq0 hq1 hn hni
    have hlt : i < l.length := by omega
    rw [Loops.drop_cons_getD l 0 i hlt]
    unfold copyOf
    by_cases hx : l.getD i 0 = 0
    · rw [if_pos hx]
      by_cases hs : q = s
      · rw [if_pos hs]
        refine Loops.Ev.one (fun k => ?_)
        simp only [impl_CopyOf.l0]
        rw [if_pos (by omega), if_pos (by omega), if_pos (by omega), Loops.rd_nat, if_pos hx, if_pos (by unfold wrap64; omega)]
      · rw [if_neg hs]
        refine Ev.step (fun k => ?_) (ih (i + 1) (q + 1) n (by omega) (by omega) (by omega) hn (by omega))
        simp only [impl_CopyOf.l0]
        rw [if_pos (by omega), if_pos (by omega), if_pos (by omega), Loops.rd_nat, if_pos hx, if_neg (by unfold wrap64; omega), Loops.wrap_succ hlt (by omega), show wrap64 (wrap64 (s - q) - 1) = wrap64 (s - (q + 1)) by unfold wrap64; omega]
    · rw [if_neg hx]
      refine Ev.step (fun k => ?_) (ih (i + 1) q (n + 1) (by omega) (by omega) (by omega) (by omega) (by omega))
      simp only [impl_CopyOf.l0]
      rw [if_pos (by omega), if_pos (by omega), if_pos (by omega), Loops.rd_nat, if_neg hx, Loops.wrap_succ hlt (by omega), show wrap64 (n + 1) = n + 1 from Loops.wrap_in (by omega) (by omega)]
theorem icopy_eq (l : List Int) (hl : l.length ≤ 4194304) (s : Int) (hs0 : -9223372036854775808 ≤ s) (hs1 : s ≤ 9223372036854775807) : Ev (fun k => impl_CopyOf.f k l s) (copyOf s l 0 0) := by
  unfold impl_CopyOf.f
  have := icopy_loop l hl s hs0 hs1 l.length 0 0 0 (by omega) (by omega) (by omega) (by omega) (by omega)
  rw [show wrap64 (s - 0) = s by unfold wrap64; omega] at this
  exact this
theorem scopy_loop (l : List Int) (hl : l.length ≤ 4194304) (s : Int) : ∀ (d i : Nat) (q n : Int), i + d = l.length → 0 ≤ q → q ≤ i → 0 ≤ n → n ≤ i →
    Ev (fun k => spec_CopyOf.l0 k l s n q (i : Int)) (copyOf s (l.drop i) q n) := by
  intro d
  induction d with
  | zero =>
    intro i q n hi _ _ _ _
    rw [List.drop_of_length_le (by omega)]
    refine Loops.Ev.one (fun k => ?_)
    simp only [spec_CopyOf.l0]
    rw [if_neg (by omega)]
    rfl
  | succ d ih =>
    intro i q n hi hq0 hq1 hn hni
    have hlt : i < l.length := by omega
    rw [Loops.drop_cons_getD l 0 i hlt]
    unfold copyOf
    by_cases hx : l.getD i 0 = 0
    · rw [if_pos hx]
      by_cases hs : q = s
      · rw [if_pos hs]
        refine Loops.Ev.one (fun k => ?_)
        simp only [spec_CopyOf.l0]
        rw [if_pos (by omega), if_pos (by omega), Loops.rd_nat, if_pos hx, if_pos hs]
      · rw [if_neg hs]
        refine Ev.step (fun k => ?_) (ih (i + 1) (q + 1) n (by omega) (by omega) (by omega) hn (by omega))
        simp only [spec_CopyOf.l0]
        rw [if_pos (by omega), if_pos (by omega), Loops.rd_nat, if_pos hx, if_neg hs, Loops.wrap_succ hlt (by omega), show wrap64 (q + 1) = q + 1 from Loops.wrap_in (by omega) (by omega)]
    · rw [if_neg hx]
      refine Ev.step (fun k => ?_) (ih (i + 1) q (n + 1) (by omega) (by omega) (by omega) (by omega) (by omega))
      simp only [spec_CopyOf.l0]
      rw [if_pos (by omega), if_pos (by omega), Loops.rd_nat, if_neg hx, Loops.wrap_succ hlt (by omega), show wrap64 (n + 1) = n + 1 from Loops.wrap_in (by omega) (by omega)]
theorem FnExactCopyOf : ∀ (l0 : List Int) (a1 : Int), (l0.length ≤ maxLen ∧ ∀ x ∈ l0, (Lit.int .i64 x).wf = true) → ((Lit.int .i64 a1).wf = true) → ∃ k, laws_FnExactCopyOf.f k l0 a1 = some true := by
  intro l a _ ha
  have hw := bounds_i64 ha
  refine Ev.rounds ?_
  unfold laws_FnExactCopyOf.f
  by_cases hb : (l.length : Int) > 1048576
  · simp only [if_pos hb]
    exact Ev.now _
  simp only [if_neg hb]
  refine Ev.bind (toIntS_eq l (by omega)) (Ev.bind (a := copyOf a l 0 0) ?_ (Ev.bind (toIntS_eq l (by omega)) (Ev.bind (icopy_eq l (by omega) a hw.1 hw.2) ?_)))
  · unfold spec_CopyOf.f
    exact scopy_loop l (by omega) a l.length 0 0 0 (by omega) (by omega) (by omega) (by omega) (by omega)
  simp only [if_true]
  refine Ev.bind (toIntS_eq l (by omega)) (Ev.bind (eqIntS_eq l (by omega)) ?_)
  exact Ev.now _

end Go.Proofs.Ytjkhjfladhppkaa.Pure
