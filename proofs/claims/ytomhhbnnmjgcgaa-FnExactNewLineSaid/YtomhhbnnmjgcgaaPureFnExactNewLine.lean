/- The pure part of FnExactNewLine: over numbers and lists alone. No condition beyond the numbers' own kinds. -/
import Derived.Test.YtomhhbnnmjgcgaaQFnExactNewLine3
import Derived.Test.YtomhhbnnmjgcgaaLot
namespace Go.Proofs.Ytomhhbnnmjgcgaa.Pure
open Go.RowKit Go.Proofs.Ytomhhbnnmjgcgaa.PFnExactNewLine Go.Proofs.YtomhhbnnmjgcgaaW.PrintWords Go.Proofs.YtomhhbnnmjgcgaaW.PrintLast Go.Proofs.YtomhhbnnmjgcgaaW.PrintMore
set_option linter.unusedVariables false
set_option linter.unusedSimpArgs false

theorem within_eq (a b c : Int) : impl_within.f a b c = some (decide (b ≤ a ∧ a ≤ c)) := by
  unfold impl_within.f
  by_cases h : a ≥ b
  · rw [if_pos h]; congr 1; simp; omega
  · rw [if_neg h]; congr 1; simp; omega
theorem in_eq (a b c : Int) : spec_l01In.f a b c = some (decide (b ≤ a ∧ a ≤ c)) := by
  unfold spec_l01In.f
  by_cases h : a ≥ b
  · rw [if_pos h]; congr 1; simp; omega
  · rw [if_neg h]; congr 1; simp; omega
theorem eqIntS_eq (l : List Int) (hl : l.length ≤ 4194304) : Ev (fun k => laws_eqIntS.f k l l) true := by
  unfold laws_eqIntS.f
  simp only [if_true]
  exact Loops.plain_loop (G := fun k i => laws_eqIntS.l0 k l l i) l.length (by omega) (fun k i hi => by
    simp only [laws_eqIntS.l0]
    rw [if_pos (by omega), if_pos (by omega), if_pos (by omega), if_pos trivial]) (fun k => by
    simp only [laws_eqIntS.l0]
    rw [if_neg (by omega)])
theorem markIntS_eq (l : List Int) (a : Int) (hl : l.length ≤ 4194304) (h0 : 0 ≤ a) (h1 : a ≤ 1125899906842624) : Ev (fun k => laws_markIntS.f k l a) (a + l.length, Loops.iota a l.length) := by
  unfold laws_markIntS.f
  exact Loops.mark_loop (G := laws_markIntS.l0) l a (by omega) h0 (by omega) (fun k x m i => by simp only [laws_markIntS.l0])
theorem heldIntS_eq (n : Nat) (a : Int) (hn : n ≤ 4194304) (h0 : 0 ≤ a) (h1 : a ≤ 1125899906842624) : Ev (fun k => laws_heldIntS.f k (Loops.iota a n) a) (a + n) := by
  unfold laws_heldIntS.f
  exact Loops.held_loop (G := laws_heldIntS.l0) a n (by omega) h0 (by omega) (fun k x m i => by simp only [laws_heldIntS.l0])
theorem eqLine_eq (s n : Int) (A B : List Int) (w : Int) (st : Bool) (hA : A.length ≤ 1048576) (hB : B.length ≤ 1048576) : Ev (fun k => laws_eqLine.f k s n A B w st s n A B w st) true := by
  unfold laws_eqLine.f
  simp only [if_true]
  refine Ev.bind (eqIntS_eq A (by omega)) ?_
  simp only [if_true]
  refine Ev.bind (eqIntS_eq B (by omega)) ?_
  simp only [if_true, bne_self_eq_false, Bool.false_eq_true, if_false]
  exact Ev.now _
theorem markLine_eq (s n : Int) (A B : List Int) (w : Int) (st : Bool) (hA : A.length ≤ 1048576) (hB : B.length ≤ 1048576) : Ev (fun k => laws_markLine.f k s n A B w st 1) (1 + A.length + B.length, Loops.iota 1 A.length, Loops.iota (1 + A.length) B.length) := by
  unfold laws_markLine.f
  refine Ev.bind (markIntS_eq A 1 (by omega) (by omega) (by omega)) (Ev.bind (markIntS_eq B (1 + A.length) (by omega) (by omega) (by omega)) (Ev.now _))
theorem heldLine_eq (s n : Int) (a b : Nat) (w : Int) (st : Bool) (hA : a ≤ 1048576) (hB : b ≤ 1048576) : Ev (fun k => laws_heldLine.f k s n (Loops.iota 1 a) (Loops.iota (1 + a) b) w st 1) (1 + a + b) := by
  unfold laws_heldLine.f
  refine Ev.bind (heldIntS_eq a 1 (by omega) (by omega) (by omega)) ?_
  simp only [if_neg (show ¬ (1 : Int) + (a : Int) < 0 by omega)]
  refine Ev.bind (heldIntS_eq b (1 + a) (by omega) (by omega) (by omega)) ?_
  simp only [if_neg (show ¬ (1 : Int) + (a : Int) + (b : Int) < 0 by omega)]
  exact Ev.now _
def newLine (a : Int) : Int × Int × List Int × List Int × Int × Bool × Bool := if 0 ≤ a ∧ a ≤ 40 then (a, 0, [], [], 0, false, true) else (0, 0, [], [], 0, false, false)
theorem inew_eq (a : Int) : impl_NewLine.f a = some (newLine a) := by
  unfold impl_NewLine.f newLine
  rw [within_eq]
  by_cases h : 0 ≤ a ∧ a ≤ 40 <;> simp [h]
theorem snew_eq (a : Int) : spec_NewLine.f a = some (newLine a) := by
  unfold spec_NewLine.f newLine
  rw [in_eq]
  by_cases h : 0 ≤ a ∧ a ≤ 40 <;> simp [h]
theorem newLine_parts (a : Int) : ∃ s ok, newLine a = (s, 0, [], [], 0, false, ok) := by
  unfold newLine
  split <;> exact ⟨_, _, rfl⟩
theorem FnExactNewLine : ∀ (a0 : Int), ((Lit.int .i64 a0).wf = true) → ∃ k, laws_FnExactNewLine.f k a0 = some true := by
  intro a _
  refine Ev.rounds ?_
  unfold laws_FnExactNewLine.f
  obtain ⟨s, ok, e⟩ := newLine_parts a
  simp only [snew_eq, inew_eq, e, Option.bind_some]
  refine Ev.bind (eqLine_eq s 0 [] [] 0 false (by simp) (by simp)) ?_
  simp only [if_true, bne_self_eq_false]
  have j1 : Ev (fun k => laws_FnExactNewLine.j1 k (1 + (([] : List Int).length : Int) + (([] : List Int).length : Int)) false s 0 (Loops.iota 1 ([] : List Int).length) (Loops.iota (1 + (([] : List Int).length : Int)) ([] : List Int).length) 0 false) true := by
    refine Loops.Ev.succ ?_
    simp only [laws_FnExactNewLine.j1, Bool.false_eq_true, if_false]
    refine (Ev.bind (heldLine_eq s 0 ([] : List Int).length ([] : List Int).length 0 false (by simp) (by simp)) ?_)
    simp only [if_neg (show ¬ (1 + (([] : List Int).length : Int) + (([] : List Int).length : Int)) < 0 by simp), if_true]
    exact Ev.now _
  refine Loops.Ev.succ ?_
  simp only [laws_FnExactNewLine.j0, Bool.false_eq_true, if_false]
  refine (Ev.bind (markLine_eq s 0 [] [] 0 false (by simp) (by simp)) ?_)
  refine Ev.bind (heldLine_eq s 0 ([] : List Int).length ([] : List Int).length 0 false (by simp) (by simp)) ?_
  simp only [if_neg (show ¬ (1 + (([] : List Int).length : Int) + (([] : List Int).length : Int)) < 0 by simp), if_true]
  simp only [inew_eq, e, Option.bind_some]
  refine Ev.bind (eqLine_eq s 0 [] [] 0 false (by simp) (by simp)) ?_
  simp only [if_true, bne_self_eq_false]
  exact j1

end Go.Proofs.Ytomhhbnnmjgcgaa.Pure
