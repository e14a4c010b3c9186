/- The pure part of FnExactLoopOrder: over numbers and lists alone. No condition beyond the numbers' own kinds. -/
import Derived.Test.YtjkhjfladhppkaaPFnExactLoopOrderx2
import Derived.Test.YtjkhjfladhppkaaLoops
import Derived.Test.YtjkhjfladhppkaaMarks
namespace Go.Proofs.Ytjkhjfladhppkaa.Pure
open Go.RowKit Go.Proofs.Ytjkhjfladhppkaa.PFnExactLoopOrder Go.Proofs.YtjkhjfladhppkaaW.PrintWords Go.Proofs.YtjkhjfladhppkaaW.PrintLast Go.Proofs.YtjkhjfladhppkaaW.PrintMore
set_option linter.unusedVariables false
set_option linter.unusedSimpArgs false

theorem within_eq (a b c : Int) : impl_within.f a b c = some (decide (b ≤ a ∧ a ≤ c)) := by
  unfold impl_within.f
  by_cases h : a ≥ b
  · rw [if_pos h]; congr 1; simp; omega
  · rw [if_neg h]; congr 1; simp; omega
theorem in_eq (a b c : Int) : spec_l01In.f a b c = some (decide (b ≤ a ∧ a ≤ c)) := by
  unfold spec_l01In.f
  by_cases h : a ≥ b
  · rw [if_pos h]; congr 1; simp; omega
  · rw [if_neg h]; congr 1; simp; omega
theorem eqSideS_eq (l : List S34) (hl : l.length ≤ 4194304) : Ev (fun k => laws_eqSideS.f k l l) true := by
  unfold laws_eqSideS.f
  simp only [if_true]
  exact Loops.plain_loop (G := fun k i => laws_eqSideS.l0 k l l i) l.length (by omega) (fun k i hi => by
    simp only [laws_eqSideS.l0]
    rw [if_pos (by omega), if_pos (by omega), if_pos (by omega)]
    simp [laws_eqSide.f]) (fun k => by
    simp only [laws_eqSideS.l0]
    rw [if_neg (by omega)])
/-- The order of the loop: first as many fronts as it holds .. -/
def fronts (m : Nat) : List S34 := (List.range m).map fun (j : Nat) => (⟨(j : Int), false⟩ : S34)
/-- .. then each back, and behind it the next front, if there is one. -/
def backs (n m : Int) : Nat → Nat → List S34
  | 0, _ => []
  | d + 1, s => (if (s : Int) + m < n then [(⟨(s : Int), true⟩ : S34), ⟨(s : Int) + m, false⟩] else [⟨(s : Int), true⟩]) ++ backs n m d (s + 1)
theorem fronts_succ (m : Nat) : fronts (m + 1) = fronts m ++ [⟨(m : Int), false⟩] := by simp [fronts, List.range_succ]
theorem fronts_len (m : Nat) : (fronts m).length = m := by simp [fronts]
theorem backs_le (n m : Int) : ∀ (d s : Nat), (backs n m d s).length ≤ 2 * d := by
  intro d
  induction d with
  | zero => intro s; simp [backs]
  | succ d ih =>
    intro s
    have := ih (s + 1)
    unfold backs
    split <;> simp <;> omega
theorem iorder_l1 (n m : Int) (hn : n ≤ 40) (hm : 1 ≤ m ∧ m ≤ 6) : ∀ (d s : Nat) (L : List S34), (s : Int) + d = n → L.length + 2 * d ≤ 1000000 → Ev (fun k => impl_LoopOrder.l1 k n m L (s : Int)) (L ++ backs n m d s) := by
  intro d
  induction d with
  | zero =>
    intro s L hs hL
    refine Loops.Ev.one (fun k => ?_)
    simp only [impl_LoopOrder.l1]
    rw [if_neg (by omega)]
    simp [backs]
  | succ d ih =>
    intro s L hs hL
    unfold backs
    rw [← List.append_assoc]
    refine Ev.step (fun k => ?_) (ih (s + 1) _ (by omega) (by split <;> simp <;> omega))
    simp only [impl_LoopOrder.l1]
    rw [if_pos (by omega), if_pos (by omega), show wrap64 ((s : Int) + m) = (s : Int) + m from Loops.wrap_in (by omega) (by omega), show wrap64 ((s : Int) + 1) = ((s + 1 : Nat) : Int) from Loops.wrap_in (x := (s : Int) + 1) (by omega) (by omega)]
    simp only [Option.bind_some]
    by_cases h : (s : Int) + m < n
    · rw [if_pos h, if_pos h, if_pos (by simp; omega)]
      simp
    · rw [if_neg h, if_neg h]
theorem iorder_l0 (n m : Int) (hn : 1 ≤ n ∧ n ≤ 40) (hm : 1 ≤ m ∧ m ≤ 6) (q : Nat) (hq : (q : Int) = mn m n) : ∀ (d i : Nat), i + d = q → Ev (fun k => impl_LoopOrder.l0 k n m (fronts i) (i : Int)) (fronts q ++ backs n m n.toNat 0) := by
  have hq2 : q ≤ 6 := by unfold mn at hq; split at hq <;> omega
  intro d
  induction d with
  | zero =>
    intro i hi
    obtain rfl : i = q := by omega
    refine Ev.step (f := fun k => impl_LoopOrder.l1 k n m (fronts i) ((0 : Nat) : Int)) (fun k => ?_) (iorder_l1 n m hn.2 hm n.toNat 0 (fronts i) (by omega) (by rw [fronts_len]; omega))
    simp only [impl_LoopOrder.l0]
    rw [if_neg (by omega)]
    rfl
  | succ d ih =>
    intro i hi
    refine Ev.step (fun k => ?_) (ih (i + 1) (by omega))
    simp only [impl_LoopOrder.l0]
    rw [if_pos (by omega), if_pos (by rw [fronts_len]; omega), Loops.wrap_succ (n := q) (by omega) (by omega), fronts_succ]
def order (n m : Int) : List S34 := fronts (mn m n).toNat ++ backs n m n.toNat 0
theorem order_le (n m : Int) (hn : 1 ≤ n ∧ n ≤ 40) (hm : 1 ≤ m ∧ m ≤ 6) : (order n m).length ≤ 1000 := by
  have := backs_le n m n.toNat 0
  have h2 : (mn m n).toNat ≤ 6 := by unfold mn; split <;> omega
  unfold order
  rw [List.length_append, fronts_len]
  omega
theorem iorder_eq (n m : Int) (hn : 1 ≤ n ∧ n ≤ 40) (hm : 1 ≤ m ∧ m ≤ 6) : Ev (fun k => impl_LoopOrder.f k n m) (order n m) := by
  unfold impl_LoopOrder.f
  refine Ev.bind (a := true) (Loops.Ev.const (by rw [within_eq, decide_eq_true hn])) ?_
  simp only [if_true]
  refine Ev.bind (a := true) (Loops.Ev.const (by rw [within_eq, decide_eq_true hm])) ?_
  refine Ev.step (f := fun k => impl_LoopOrder.l0 k n m (fronts 0) ((0 : Nat) : Int)) (fun k => by simp [impl_LoopOrder.j0, fronts]) ?_
  exact iorder_l0 n m hn hm (mn m n).toNat (by unfold mn; split <;> omega) (mn m n).toNat 0 (by omega)
theorem iorder_bad (n m : Int) (h : ¬ ((1 ≤ n ∧ n ≤ 40) ∧ 1 ≤ m ∧ m ≤ 6)) : Ev (fun k => impl_LoopOrder.f k n m) [] := by
  unfold impl_LoopOrder.f
  refine Ev.bind (Loops.Ev.const (within_eq n 1 40)) ?_
  by_cases hc : 1 ≤ n ∧ n ≤ 40
  · rw [decide_eq_true hc]
    simp only [if_true]
    refine Ev.bind (a := false) (Loops.Ev.const (by rw [within_eq, decide_eq_false (fun h2 => h ⟨hc, h2⟩)])) ?_
    exact Loops.Ev.one (fun k => by simp [impl_LoopOrder.j0])
  · rw [decide_eq_false hc]
    simp only [Bool.false_eq_true, if_false]
    exact Loops.Ev.one (fun k => by simp [impl_LoopOrder.j0])
theorem sorder_l1 (n m : Int) (hn : n ≤ 40) (hm : 1 ≤ m ∧ m ≤ 6) : ∀ (d s : Nat) (L : List S34), (s : Int) + d = n → L.length + 2 * d ≤ 1000000 → Ev (fun k => spec_LoopOrder.l1 k n m L (s : Int)) (L ++ backs n m d s) := by
  intro d
  induction d with
  | zero =>
    intro s L hs hL
    refine Loops.Ev.one (fun k => ?_)
    simp only [spec_LoopOrder.l1]
    rw [if_neg (by omega)]
    simp [backs]
  | succ d ih =>
    intro s L hs hL
    unfold backs
    rw [← List.append_assoc]
    refine Ev.step (fun k => ?_) (ih (s + 1) _ (by omega) (by split <;> simp <;> omega))
    simp only [spec_LoopOrder.l1]
    rw [if_pos (by omega), if_pos (by omega), show wrap64 ((s : Int) + m) = (s : Int) + m from Loops.wrap_in (by omega) (by omega), show wrap64 ((s : Int) + 1) = ((s + 1 : Nat) : Int) from Loops.wrap_in (x := (s : Int) + 1) (by omega) (by omega)]
    simp only [Option.bind_some]
    by_cases h : (s : Int) + m < n
    · rw [if_pos h, if_pos h, if_pos (by simp; omega)]
      simp
    · rw [if_neg h, if_neg h]
theorem sorder_l0 (n m : Int) (hn : 1 ≤ n ∧ n ≤ 40) (hm : 1 ≤ m ∧ m ≤ 6) (q : Nat) (hq : (q : Int) = mn n m) : ∀ (d i : Nat), i + d = q → Ev (fun k => spec_LoopOrder.l0 k n m (fronts i) (i : Int)) (fronts q ++ backs n m n.toNat 0) := by
  have hq2 : q ≤ 6 := by unfold mn at hq; split at hq <;> omega
  intro d
  induction d with
  | zero =>
    intro i hi
    obtain rfl : i = q := by omega
    refine Ev.step (f := fun k => spec_LoopOrder.l1 k n m (fronts i) ((0 : Nat) : Int)) (fun k => ?_) (sorder_l1 n m hn.2 hm n.toNat 0 (fronts i) (by omega) (by rw [fronts_len]; omega))
    simp only [spec_LoopOrder.l0]
    rw [if_neg (by omega)]
    rfl
  | succ d ih =>
    intro i hi
    refine Ev.step (fun k => ?_) (ih (i + 1) (by omega))
    simp only [spec_LoopOrder.l0]
    rw [if_pos (by omega), if_pos (by rw [fronts_len]; omega), Loops.wrap_succ (n := q) (by omega) (by omega), fronts_succ]
theorem sorder_eq (n m : Int) (hn : 1 ≤ n ∧ n ≤ 40) (hm : 1 ≤ m ∧ m ≤ 6) : Ev (fun k => spec_LoopOrder.f k n m) (order n m) := by
  unfold spec_LoopOrder.f
  simp only [Option.bind_some]
  refine Ev.bind (a := true) (Loops.Ev.const (by rw [in_eq, decide_eq_true hn])) ?_
  simp only [if_true]
  refine Ev.bind (a := true) (Loops.Ev.const (by rw [in_eq, decide_eq_true hm])) ?_
  refine Ev.step (f := fun k => spec_LoopOrder.l0 k n m (fronts 0) ((0 : Nat) : Int)) (fun k => by simp [spec_LoopOrder.j0, fronts]) ?_
  have e : mn m n = mn n m := by unfold mn; split <;> split <;> omega
  unfold order
  rw [e]
  exact sorder_l0 n m hn hm (mn n m).toNat (by unfold mn; split <;> omega) (mn n m).toNat 0 (by omega)
theorem sorder_bad (n m : Int) (h : ¬ ((1 ≤ n ∧ n ≤ 40) ∧ 1 ≤ m ∧ m ≤ 6)) : Ev (fun k => spec_LoopOrder.f k n m) [] := by
  unfold spec_LoopOrder.f
  simp only [Option.bind_some]
  refine Ev.bind (Loops.Ev.const (in_eq n 1 40)) ?_
  by_cases hc : 1 ≤ n ∧ n ≤ 40
  · rw [decide_eq_true hc]
    simp only [if_true]
    refine Ev.bind (a := false) (Loops.Ev.const (by rw [in_eq, decide_eq_false (fun h2 => h ⟨hc, h2⟩)])) ?_
    exact Loops.Ev.one (fun k => by simp [spec_LoopOrder.j0])
  · rw [decide_eq_false hc]
    simp only [Bool.false_eq_true, if_false]
    exact Loops.Ev.one (fun k => by simp [spec_LoopOrder.j0])
def mkSide (m : Int) : S34 := ⟨m, Int.tmod (m + 1) 3 == 0⟩
theorem markSideS_eq (l : List S34) (hl : l.length ≤ 4194304) : Ev (fun k => laws_markSideS.f k l 1) (1 + 2 * (l.length : Int), Loops.marks mkSide 2 1 l.length) := by
  unfold laws_markSideS.f
  exact Loops.mark_gen (G := laws_markSideS.l0) mkSide z34 2 (by omega) l 1 (by omega) (by omega) (fun k x m i hi hx hm0 hm => by
    simp only [laws_markSideS.l0]
    rw [if_pos (by omega), if_pos (by omega), show wrap64 (m + 1) = m + 1 from Loops.wrap_in (by omega) (by omega), show wrap64 (m + 1 + 1) = m + 2 by unfold wrap64; omega, Loops.wrap_succ hi (by omega)]
    simp only [Option.bind_some, Int.toNat_natCast, rd_T34, List.set_set, mkSide]
    congr 2
    simp [List.getD, hi]) (fun k x m hx => by
    simp only [laws_markSideS.l0]
    rw [if_neg (by omega)])
theorem heldSideS_eq (n : Nat) (hn : n ≤ 4194304) : Ev (fun k => laws_heldSideS.f k (Loops.marks mkSide 2 1 n) 1) (1 + 2 * (n : Int)) := by
  unfold laws_heldSideS.f
  exact Loops.held_gen (G := laws_heldSideS.l0) mkSide z34 2 (by omega) n 1 (by omega) (by omega) (fun k x m i hi hx he hm0 hm => by
    simp only [laws_heldSideS.l0, rd_T34, Int.toNat_natCast, he, mkSide]
    rw [if_pos (by omega), if_pos (by omega), if_pos trivial, show wrap64 (m + 1) = m + 1 from Loops.wrap_in (by omega) (by omega), show wrap64 (m + 1 + 1) = m + 2 by unfold wrap64; omega, Loops.wrap_succ hi (by omega)]
    simp) (fun k x m hx => by
    simp only [laws_heldSideS.l0]
    rw [if_neg (by omega)])
theorem order_tail (n m : Int) (r : List S34) (hr : r.length ≤ 4194304) (es : Ev (fun k => spec_LoopOrder.f k n m) r) (ei : Ev (fun k => impl_LoopOrder.f k n m) r) : Ev (fun k => laws_FnExactLoopOrder.f k n m) true := by
  unfold laws_FnExactLoopOrder.f
  refine Ev.bind es (Ev.bind ei (Ev.bind (eqSideS_eq r hr) ?_))
  simp only [if_true]
  refine Ev.bind (markSideS_eq r hr) (Ev.bind (heldSideS_eq r.length hr) ?_)
  simp only [if_neg (show ¬ (1 + 2 * (r.length : Int)) < 0 by omega), if_true]
  refine Ev.bind ei (Ev.bind (eqSideS_eq r hr) ?_)
  simp only [if_true]
  refine Ev.bind (heldSideS_eq r.length hr) ?_
  simp only [if_neg (show ¬ (1 + 2 * (r.length : Int)) < 0 by omega)]
  exact Ev.now _
theorem FnExactLoopOrder : ∀ (a0 : Int) (a1 : Int), ((Lit.int .i64 a0).wf = true) → ((Lit.int .i64 a1).wf = true) → ∃ k, laws_FnExactLoopOrder.f k a0 a1 = some true := by
  intro n m _ _
  refine Ev.rounds ?_
  by_cases h : (1 ≤ n ∧ n ≤ 40) ∧ 1 ≤ m ∧ m ≤ 6
  · exact order_tail n m _ (by have := order_le n m h.1 h.2; omega) (sorder_eq n m h.1 h.2) (iorder_eq n m h.1 h.2)
  · exact order_tail n m [] (by simp) (sorder_bad n m h) (iorder_bad n m h)

end Go.Proofs.Ytjkhjfladhppkaa.Pure
