/- The pure part of FnExactSplitCopies: over numbers and lists alone. No condition beyond the numbers' own kinds. -/
import Derived.Test.YtjkhjfladhppkaaPFnExactSplitCopiesx2
import Derived.Test.YtjkhjfladhppkaaLoops
namespace Go.Proofs.Ytjkhjfladhppkaa.Pure
open Go.RowKit Go.Proofs.Ytjkhjfladhppkaa.PFnExactSplitCopies Go.Proofs.YtjkhjfladhppkaaW.PrintWords Go.Proofs.YtjkhjfladhppkaaW.PrintLast Go.Proofs.YtjkhjfladhppkaaW.PrintMore
set_option linter.unusedVariables false
set_option linter.unusedSimpArgs false

theorem toIntS_eq (l : List Int) (hl : l.length ≤ 4194304) : Ev (fun k => laws_toIntS.f k l) l := by
  unfold laws_toIntS.f
  simp only [if_pos (show (0 : Int) ≤ (l.length : Int) by omega), Int.toNat_natCast, if_pos (show l.length ≤ 35184372088832 by omega)]
  exact Loops.copy_loop (G := fun k i o => laws_toIntS.l0 k l o i) l 0 (by omega) (fun k i o => by simp only [laws_toIntS.l0, rd])
theorem eqIntS_eq (l : List Int) (hl : l.length ≤ 4194304) : Ev (fun k => laws_eqIntS.f k l l) true := by
  unfold laws_eqIntS.f
  simp only [if_true]
  exact Loops.plain_loop (G := fun k i => laws_eqIntS.l0 k l l i) l.length (by omega) (fun k i hi => by
    simp only [laws_eqIntS.l0]
    rw [if_pos (by omega), if_pos (by omega), if_pos (by omega), if_pos trivial]) (fun k => by
    simp only [laws_eqIntS.l0]
    rw [if_neg (by omega)])
theorem markIntS_eq (l : List Int) (a : Int) (hl : l.length ≤ 4194304) (h0 : 0 ≤ a) (h1 : a ≤ 1125899906842624) : Ev (fun k => laws_markIntS.f k l a) (a + l.length, Loops.iota a l.length) := by
  unfold laws_markIntS.f
  exact Loops.mark_loop (G := laws_markIntS.l0) l a (by omega) h0 (by omega) (fun k x m i => by simp only [laws_markIntS.l0])
theorem heldIntS_eq (n : Nat) (a : Int) (hn : n ≤ 4194304) (h0 : 0 ≤ a) (h1 : a ≤ 1125899906842624) : Ev (fun k => laws_heldIntS.f k (Loops.iota a n) a) (a + n) := by
  unfold laws_heldIntS.f
  exact Loops.held_loop (G := laws_heldIntS.l0) a n (by omega) h0 (by omega) (fun k x m i => by simp only [laws_heldIntS.l0])
def spl (s : List Int × Int) (x : Int) : List Int × Int := if x = 0 then (s.1, s.2 + 1) else (s.1 ++ [s.2], 0)
theorem spl_len : ∀ (l : List Int) (s : List Int × Int), (l.foldl spl s).1.length ≤ s.1.length + l.length := by
  intro l
  induction l with
  | nil => intro s; simp
  | cons x xs ih =>
    intro s
    rw [List.foldl_cons]
    have := ih (spl s x)
    have h2 : (spl s x).1.length ≤ s.1.length + 1 := by unfold spl; split <;> simp
    simp only [List.length_cons]
    omega
theorem isplit_eq (l : List Int) (hl : l.length ≤ 4194304) : Ev (fun k => impl_SplitCopies.f k l) (l.foldl spl ([], 0)).1 := by
  unfold impl_SplitCopies.f
  exact Loops.fold_loop (G := fun k i (s : List Int × Int) => impl_SplitCopies.l0 k s.1 s.2 l (l.length : Int) i) (r := fun s => s.1) l 0 spl (fun i s => 0 ≤ s.2 ∧ s.2 ≤ i ∧ s.1.length ≤ i) (fun k i s hi hs => by
    simp only [impl_SplitCopies.l0]
    rw [if_pos (by omega), if_pos (by omega), if_pos (by omega), Loops.wrap_succ hi (by omega), show wrap64 (s.2 + 1) = s.2 + 1 from Loops.wrap_in (by omega) (by omega), Loops.rd_nat, if_pos (show s.1.length < 17592186044416 by omega)]
    unfold spl
    split <;> rfl) (fun i s hi hs => by unfold spl; split <;> simp <;> omega) (fun s hs => Loops.Ev.one (fun k => by
    simp only [impl_SplitCopies.l0]
    rw [if_neg (by omega)])) ([], 0) (by simp)
theorem ssplit_eq (l : List Int) (hl : l.length ≤ 4194304) : Ev (fun k => spec_SplitCopies.f k l) (l.foldl spl ([], 0)).1 := by
  unfold spec_SplitCopies.f
  exact Loops.fold_loop (G := fun k i (s : List Int × Int) => spec_SplitCopies.l0 k l s.1 s.2 i) (r := fun s => s.1) l 0 spl (fun i s => 0 ≤ s.2 ∧ s.2 ≤ i ∧ s.1.length ≤ i) (fun k i s hi hs => by
    simp only [spec_SplitCopies.l0]
    rw [if_pos (by omega), if_pos (by omega), Loops.wrap_succ hi (by omega), show wrap64 (s.2 + 1) = s.2 + 1 from Loops.wrap_in (by omega) (by omega), Loops.rd_nat, if_pos (show s.1.length < 17592186044416 by omega)]
    unfold spl
    split <;> rfl) (fun i s hi hs => by unfold spl; split <;> simp <;> omega) (fun s hs => Loops.Ev.one (fun k => by
    simp only [spec_SplitCopies.l0]
    rw [if_neg (by omega)])) ([], 0) (by simp)
theorem FnExactSplitCopies : ∀ (l0 : List Int), (l0.length ≤ maxLen ∧ ∀ x ∈ l0, (Lit.int .i64 x).wf = true) → ∃ k, laws_FnExactSplitCopies.f k l0 = some true := by
  intro l _
  refine Ev.rounds ?_
  unfold laws_FnExactSplitCopies.f
  by_cases hb : (l.length : Int) > 1048576
  · simp only [if_pos hb]
    exact Ev.now _
  simp only [if_neg hb]
  obtain ⟨r, hr⟩ : ∃ r, r = (l.foldl spl ([], 0)).1 := ⟨_, rfl⟩
  have hrl : r.length ≤ 1048576 := by
    have := spl_len l ([], 0)
    rw [← hr] at this
    simp at this
    omega
  have es := ssplit_eq l (by omega)
  have ei := isplit_eq l (by omega)
  rw [← hr] at es ei
  refine Ev.bind (toIntS_eq l (by omega)) (Ev.bind es (Ev.bind (toIntS_eq l (by omega)) (Ev.bind ei (Ev.bind (eqIntS_eq r (by omega)) ?_))))
  simp only [if_true]
  refine Ev.bind (toIntS_eq l (by omega)) (Ev.bind (eqIntS_eq l (by omega)) ?_)
  simp only [if_true]
  refine Ev.bind (markIntS_eq l 1 (by omega) (by omega) (by omega)) ?_
  simp only [if_neg (show ¬ (1 + (l.length : Int)) < 0 by omega)]
  refine Ev.bind (eqIntS_eq r (by omega)) ?_
  refine Ev.step (f := fun k => (laws_markIntS.f k r 1).bind fun bt141 => ((laws_heldIntS.f k bt141.2 1).bind fun t143 => (if t143 < 0 then (some false) else (if t143 = bt141.1 then ((laws_toIntS.f k l).bind fun t144 => ((impl_SplitCopies.f k t144).bind fun t147 => ((laws_eqIntS.f k t147 r).bind fun t150 => (if t150 = true then ((laws_heldIntS.f k bt141.2 1).bind fun t151 => (if t151 < 0 then (some false) else (if t151 = bt141.1 then (some true) else (some false)))) else (some false))))) else (some false))))) (fun k => by simp [laws_FnExactSplitCopies.j0]) ?_
  refine Ev.bind (markIntS_eq r 1 (by omega) (by omega) (by omega)) (Ev.bind (heldIntS_eq r.length 1 (by omega) (by omega) (by omega)) ?_)
  simp only [if_neg (show ¬ (1 + (r.length : Int)) < 0 by omega), if_true]
  refine Ev.bind (toIntS_eq l (by omega)) (Ev.bind ei (Ev.bind (eqIntS_eq r (by omega)) ?_))
  simp only [if_true]
  refine Ev.bind (heldIntS_eq r.length 1 (by omega) (by omega) (by omega)) ?_
  simp only [if_neg (show ¬ (1 + (r.length : Int)) < 0 by omega)]
  exact Ev.now _

end Go.Proofs.Ytjkhjfladhppkaa.Pure
