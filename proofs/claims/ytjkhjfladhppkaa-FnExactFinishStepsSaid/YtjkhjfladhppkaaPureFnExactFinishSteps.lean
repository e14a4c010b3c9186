/- The pure part of FnExactFinishSteps: over numbers and lists alone. No condition beyond the numbers' own kinds. -/
import Derived.Test.YtjkhjfladhppkaaPFnExactFinishStepsx2
import Derived.Test.YtjkhjfladhppkaaLoops
namespace Go.Proofs.Ytjkhjfladhppkaa.Pure
open Go.RowKit Go.Proofs.Ytjkhjfladhppkaa.PFnExactFinishSteps Go.Proofs.YtjkhjfladhppkaaW.PrintWords Go.Proofs.YtjkhjfladhppkaaW.PrintLast Go.Proofs.YtjkhjfladhppkaaW.PrintMore
set_option linter.unusedVariables false
set_option linter.unusedSimpArgs false

theorem within_eq (a b c : Int) : impl_within.f a b c = some (decide (b ≤ a ∧ a ≤ c)) := by
  unfold impl_within.f
  by_cases h : a ≥ b
  · rw [if_pos h]; congr 1; simp; omega
  · rw [if_neg h]; congr 1; simp; omega
theorem in_eq (a b c : Int) : spec_l01In.f a b c = some (decide (b ≤ a ∧ a ≤ c)) := by
  unfold spec_l01In.f
  by_cases h : a ≥ b
  · rw [if_pos h]; congr 1; simp; omega
  · rw [if_neg h]; congr 1; simp; omega
theorem eqIntS_eq (l : List Int) (hl : l.length ≤ 4194304) : Ev (fun k => laws_eqIntS.f k l l) true := by
  unfold laws_eqIntS.f
  simp only [if_true]
  exact Loops.plain_loop (G := fun k i => laws_eqIntS.l0 k l l i) l.length (by omega) (fun k i hi => by
    simp only [laws_eqIntS.l0]
    rw [if_pos (by omega), if_pos (by omega), if_pos (by omega), if_pos trivial]) (fun k => by
    simp only [laws_eqIntS.l0]
    rw [if_neg (by omega)])
theorem markIntS_eq (l : List Int) (a : Int) (hl : l.length ≤ 4194304) (h0 : 0 ≤ a) (h1 : a ≤ 1125899906842624) : Ev (fun k => laws_markIntS.f k l a) (a + l.length, Loops.iota a l.length) := by
  unfold laws_markIntS.f
  exact Loops.mark_loop (G := laws_markIntS.l0) l a (by omega) h0 (by omega) (fun k x m i => by simp only [laws_markIntS.l0])
theorem heldIntS_eq (n : Nat) (a : Int) (hn : n ≤ 4194304) (h0 : 0 ≤ a) (h1 : a ≤ 1125899906842624) : Ev (fun k => laws_heldIntS.f k (Loops.iota a n) a) (a + n) := by
  unfold laws_heldIntS.f
  exact Loops.held_loop (G := laws_heldIntS.l0) a n (by omega) h0 (by omega) (fun k x m i => by simp only [laws_heldIntS.l0])
/-- The steps of a job: for each copy its sheets, and a mark. -/
def steps (s : Nat) (m : Int) : Nat → List Int
  | 0 => []
  | c + 1 => (List.replicate s 0 ++ [m]) ++ steps s m c
theorem steps_len (s : Nat) (m : Int) : ∀ c, (steps s m c).length = c * (s + 1) := by
  intro c
  induction c with
  | zero => simp [steps]
  | succ c ih => simp only [steps, List.length_append, List.length_replicate, List.length_singleton, ih]; rw [Nat.succ_mul]; omega
def mark (s : Int) (staple : Bool) : Int := if staple = true ∧ 2 ≤ s ∧ s ≤ 10 then 1 else 2
theorem ifin_l1 (c s : Nat) (m : Int) (hc : c ≤ 20) (hs : s ≤ 64) : ∀ (d i : Nat) (L : List Int) (r : List Int), i + d = s → L.length + d ≤ 1000000 →
    Ev (fun k => impl_FinishSteps.l0 k (c : Int) (s : Int) m (L ++ (List.replicate d 0 ++ [m]))) r → Ev (fun k => impl_FinishSteps.l1 k ((c + 1 : Nat) : Int) (s : Int) m L (i : Int)) r := by
  intro d
  induction d with
  | zero =>
    intro i L r hi hL h
    refine Ev.step (fun k => ?_) h
    simp only [impl_FinishSteps.l1]
    rw [if_neg (by omega), if_pos (by omega), show wrap64 (((c + 1 : Nat) : Int) - 1) = (c : Int) by unfold wrap64; omega]
    simp
  | succ d ih =>
    intro i L r hi hL h
    refine Ev.step (fun k => ?_) (ih (i + 1) (L ++ [0]) r (by omega) (by simp; omega) (by simpa [List.replicate_succ] using h))
    simp only [impl_FinishSteps.l1]
    rw [if_pos (by omega), if_pos (by omega), Loops.wrap_succ (n := s) (by omega) (by omega)]
theorem ifin_l0 (s : Nat) (m : Int) (hs : s ≤ 64) : ∀ (c : Nat) (L : List Int), c ≤ 20 → L.length + c * 65 ≤ 1000000 → Ev (fun k => impl_FinishSteps.l0 k (c : Int) (s : Int) m L) (L ++ steps s m c) := by
  intro c
  induction c with
  | zero =>
    intro L hc hL
    refine Loops.Ev.one (fun k => ?_)
    simp only [impl_FinishSteps.l0]
    rw [if_neg (by omega)]
    simp [steps]
  | succ c ih =>
    intro L hc hL
    refine Ev.step (f := fun k => impl_FinishSteps.l1 k ((c + 1 : Nat) : Int) (s : Int) m L ((0 : Nat) : Int)) (fun k => ?_) (ifin_l1 c s m (by omega) hs s 0 L _ (by omega) (by omega) ?_)
    · simp only [impl_FinishSteps.l0]
      rw [if_pos (by omega)]
      rfl
    · have := ih (L ++ (List.replicate s 0 ++ [m])) (by omega) (by simp; omega)
      simpa [steps] using this
theorem ifin_eq (c s : Int) (staple : Bool) (hc : 1 ≤ c ∧ c ≤ 20) (hs : 1 ≤ s ∧ s ≤ 64) : Ev (fun k => impl_FinishSteps.f k c s staple) (steps s.toNat (mark s staple) c.toNat) := by
  have key : ∀ m, Ev (fun k => impl_FinishSteps.j2 k c s m) (steps s.toNat m c.toNat) := by
    intro m
    refine Ev.step (f := fun k => impl_FinishSteps.l0 k c s m []) (fun k => by simp only [impl_FinishSteps.j2]) ?_
    have := ifin_l0 s.toNat m (by omega) c.toNat [] (by omega) (by simp; omega)
    rw [show ((c.toNat : Nat) : Int) = c by omega, show ((s.toNat : Nat) : Int) = s by omega] at this
    simpa using this
  unfold impl_FinishSteps.f
  refine Ev.bind (a := true) (Loops.Ev.const (by rw [within_eq, decide_eq_true hc])) ?_
  simp only [if_true]
  refine Ev.bind (a := true) (Loops.Ev.const (by rw [within_eq, decide_eq_true hs])) ?_
  refine Ev.step (f := fun k => if staple = true then ((impl_within.f s 2 10).bind fun t119 => (impl_FinishSteps.j1 k c s 2 t119)) else (impl_FinishSteps.j1 k c s 2 false)) (fun k => by simp [impl_FinishSteps.j0]) ?_
  unfold mark
  cases staple with
  | false =>
    simp only [Bool.false_eq_true, if_false, false_and]
    exact Ev.step (fun k => by simp [impl_FinishSteps.j1]) (key 2)
  | true =>
    simp only [if_true, true_and, within_eq, Option.bind_some]
    by_cases h : 2 ≤ s ∧ s ≤ 10
    · rw [if_pos h, decide_eq_true h]
      exact Ev.step (fun k => by simp [impl_FinishSteps.j1]) (key 1)
    · rw [if_neg h, decide_eq_false h]
      exact Ev.step (fun k => by simp [impl_FinishSteps.j1]) (key 2)
theorem ifin_bad (c s : Int) (staple : Bool) (h : ¬ ((1 ≤ c ∧ c ≤ 20) ∧ 1 ≤ s ∧ s ≤ 64)) : Ev (fun k => impl_FinishSteps.f k c s staple) [] := by
  unfold impl_FinishSteps.f
  refine Ev.bind (Loops.Ev.const (within_eq c 1 20)) ?_
  by_cases hc : 1 ≤ c ∧ c ≤ 20
  · rw [decide_eq_true hc]
    simp only [if_true]
    refine Ev.bind (a := false) (Loops.Ev.const (by rw [within_eq, decide_eq_false (fun h2 => h ⟨hc, h2⟩)])) ?_
    exact Loops.Ev.one (fun k => by simp [impl_FinishSteps.j0])
  · rw [decide_eq_false hc]
    simp only [Bool.false_eq_true, if_false]
    exact Loops.Ev.one (fun k => by simp [impl_FinishSteps.j0])
theorem sfin_l1 (C c s : Nat) (m : Int) (hC : C ≤ 20) (hc : c < C) (hs : s ≤ 64) : ∀ (d i : Nat) (L : List Int) (r : List Int), i + d = s → L.length + d ≤ 1000000 →
    Ev (fun k => spec_FinishSteps.l0 k (C : Int) (s : Int) (L ++ (List.replicate d 0 ++ [m])) m ((c + 1 : Nat) : Int)) r → Ev (fun k => spec_FinishSteps.l1 k (C : Int) (s : Int) L m (c : Int) (i : Int)) r := by
  intro d
  induction d with
  | zero =>
    intro i L r hi hL h
    refine Ev.step (fun k => ?_) h
    simp only [spec_FinishSteps.l1]
    rw [if_neg (by omega), if_pos (by omega), Loops.wrap_succ hc (by omega)]
    simp
  | succ d ih =>
    intro i L r hi hL h
    refine Ev.step (fun k => ?_) (ih (i + 1) (L ++ [0]) r (by omega) (by simp; omega) (by simpa [List.replicate_succ] using h))
    simp only [spec_FinishSteps.l1]
    rw [if_pos (by omega), if_pos (by omega), Loops.wrap_succ (n := s) (by omega) (by omega)]
theorem sfin_l0 (C s : Nat) (m : Int) (hC : C ≤ 20) (hs : s ≤ 64) : ∀ (d c : Nat) (L : List Int), c + d = C → L.length + d * 65 ≤ 1000000 → Ev (fun k => spec_FinishSteps.l0 k (C : Int) (s : Int) L m (c : Int)) (L ++ steps s m d) := by
  intro d
  induction d with
  | zero =>
    intro c L hc hL
    refine Loops.Ev.one (fun k => ?_)
    simp only [spec_FinishSteps.l0]
    rw [if_neg (by omega)]
    simp [steps]
  | succ d ih =>
    intro c L hc hL
    refine Ev.step (f := fun k => spec_FinishSteps.l1 k (C : Int) (s : Int) L m (c : Int) ((0 : Nat) : Int)) (fun k => ?_) (sfin_l1 C c s m hC (by omega) hs s 0 L _ (by omega) (by omega) ?_)
    · simp only [spec_FinishSteps.l0]
      rw [if_pos (by omega)]
      rfl
    · have := ih (c + 1) (L ++ (List.replicate s 0 ++ [m])) (by omega) (by simp; omega)
      simpa [steps] using this
theorem sfin_eq (c s : Int) (staple : Bool) (hc : 1 ≤ c ∧ c ≤ 20) (hs : 1 ≤ s ∧ s ≤ 64) : Ev (fun k => spec_FinishSteps.f k c s staple) (steps s.toNat (mark s staple) c.toNat) := by
  have key : ∀ m, Ev (fun k => spec_FinishSteps.j2 k c s [] m) (steps s.toNat m c.toNat) := by
    intro m
    refine Ev.step (f := fun k => spec_FinishSteps.l0 k c s [] m ((0 : Nat) : Int)) (fun k => by simp only [spec_FinishSteps.j2]; rfl) ?_
    have := sfin_l0 c.toNat s.toNat m (by omega) (by omega) c.toNat 0 [] (by omega) (by simp; omega)
    rw [show ((c.toNat : Nat) : Int) = c by omega, show ((s.toNat : Nat) : Int) = s by omega] at this
    simpa using this
  unfold spec_FinishSteps.f
  simp only [Option.bind_some]
  refine Ev.bind (a := true) (Loops.Ev.const (by rw [in_eq, decide_eq_true hc])) ?_
  simp only [if_true]
  refine Ev.bind (a := true) (Loops.Ev.const (by rw [in_eq, decide_eq_true hs])) ?_
  refine Ev.step (f := fun k => if staple = true then ((spec_l01In.f s 2 10).bind fun t119 => (spec_FinishSteps.j1 k c s [] 2 t119)) else (spec_FinishSteps.j1 k c s [] 2 false)) (fun k => by simp [spec_FinishSteps.j0]) ?_
  unfold mark
  cases staple with
  | false =>
    simp only [Bool.false_eq_true, if_false, false_and]
    exact Ev.step (fun k => by simp [spec_FinishSteps.j1]) (key 2)
  | true =>
    simp only [if_true, true_and, in_eq, Option.bind_some]
    by_cases h : 2 ≤ s ∧ s ≤ 10
    · rw [if_pos h, decide_eq_true h]
      exact Ev.step (fun k => by simp [spec_FinishSteps.j1]) (key 1)
    · rw [if_neg h, decide_eq_false h]
      exact Ev.step (fun k => by simp [spec_FinishSteps.j1]) (key 2)
theorem sfin_bad (c s : Int) (staple : Bool) (h : ¬ ((1 ≤ c ∧ c ≤ 20) ∧ 1 ≤ s ∧ s ≤ 64)) : Ev (fun k => spec_FinishSteps.f k c s staple) [] := by
  unfold spec_FinishSteps.f
  simp only [Option.bind_some]
  refine Ev.bind (Loops.Ev.const (in_eq c 1 20)) ?_
  by_cases hc : 1 ≤ c ∧ c ≤ 20
  · rw [decide_eq_true hc]
    simp only [if_true]
    refine Ev.bind (a := false) (Loops.Ev.const (by rw [in_eq, decide_eq_false (fun h2 => h ⟨hc, h2⟩)])) ?_
    exact Loops.Ev.one (fun k => by simp [spec_FinishSteps.j0])
  · rw [decide_eq_false hc]
    simp only [Bool.false_eq_true, if_false]
    exact Loops.Ev.one (fun k => by simp [spec_FinishSteps.j0])
theorem fin_tail (c s : Int) (staple : Bool) (r : List Int) (hr : r.length ≤ 4194304) (es : Ev (fun k => spec_FinishSteps.f k c s staple) r) (ei : Ev (fun k => impl_FinishSteps.f k c s staple) r) : Ev (fun k => laws_FnExactFinishSteps.f k c s staple) true := by
  unfold laws_FnExactFinishSteps.f
  refine Ev.bind es (Ev.bind ei (Ev.bind (eqIntS_eq r hr) ?_))
  simp only [if_true]
  refine Ev.bind (markIntS_eq r 1 hr (by omega) (by omega)) (Ev.bind (heldIntS_eq r.length 1 hr (by omega) (by omega)) ?_)
  simp only [if_neg (show ¬ (1 + (r.length : Int)) < 0 by omega), if_true]
  refine Ev.bind ei (Ev.bind (eqIntS_eq r hr) ?_)
  simp only [if_true]
  refine Ev.bind (heldIntS_eq r.length 1 hr (by omega) (by omega)) ?_
  simp only [if_neg (show ¬ (1 + (r.length : Int)) < 0 by omega)]
  exact Ev.now _
theorem FnExactFinishSteps : ∀ (a0 : Int) (a1 : Int) (a2 : Bool), ((Lit.int .i64 a0).wf = true) → ((Lit.int .i64 a1).wf = true) → ∃ k, laws_FnExactFinishSteps.f k a0 a1 a2 = some true := by
  intro c s staple _ _
  refine Ev.rounds ?_
  by_cases h : (1 ≤ c ∧ c ≤ 20) ∧ 1 ≤ s ∧ s ≤ 64
  · refine fin_tail c s staple _ ?_ (sfin_eq c s staple h.1 h.2) (ifin_eq c s staple h.1 h.2)
    rw [steps_len]
    have : c.toNat * (s.toNat + 1) ≤ 20 * 65 := Nat.mul_le_mul (by omega) (by omega)
    omega
  · exact fin_tail c s staple [] (by simp) (sfin_bad c s staple h) (ifin_bad c s staple h)

end Go.Proofs.Ytjkhjfladhppkaa.Pure
