/- The pure part of FnExactInkCoverage: over numbers and lists alone. No condition beyond the numbers' own kinds. -/
import Derived.Test.YtaceidiookkocaaQFnExactInkCoverage2
import Derived.Test.YtaceidiookkocaaLot
namespace Go.Proofs.Ytaceidiookkocaa.Pure
open Go.RowKit Go.Proofs.Ytaceidiookkocaa.PFnExactInkCoverage Go.Proofs.YtaceidiookkocaaW.PrintWords Go.Proofs.YtaceidiookkocaaW.PrintLast Go.Proofs.YtaceidiookkocaaW.PrintMore
set_option linter.unusedVariables false
set_option linter.unusedSimpArgs false

theorem within_eq (a b c : Int) : impl_within.f a b c = some (decide (b ≤ a ∧ a ≤ c)) := by
  unfold impl_within.f
  by_cases h : a ≥ b
  · rw [if_pos h]; congr 1; simp; omega
  · rw [if_neg h]; congr 1; simp; omega
theorem in_eq (a b c : Int) : spec_l01In.f a b c = some (decide (b ≤ a ∧ a ≤ c)) := by
  unfold spec_l01In.f
  by_cases h : a ≥ b
  · rw [if_pos h]; congr 1; simp; omega
  · rw [if_neg h]; congr 1; simp; omega
theorem toIntS_eq (l : List Int) (hl : l.length ≤ 4194304) : Ev (fun k => laws_toIntS.f k l) l := by
  unfold laws_toIntS.f
  simp only [if_pos (show (0 : Int) ≤ (l.length : Int) by omega), Int.toNat_natCast, if_pos (show l.length ≤ 35184372088832 by omega)]
  exact Loops.copy_loop (G := fun k i o => laws_toIntS.l0 k l o i) l 0 (by omega) (fun k i o => by simp only [laws_toIntS.l0, rd])
theorem eqIntS_eq (l : List Int) (hl : l.length ≤ 4194304) : Ev (fun k => laws_eqIntS.f k l l) true := by
  unfold laws_eqIntS.f
  simp only [if_true]
  exact Loops.plain_loop (G := fun k i => laws_eqIntS.l0 k l l i) l.length (by omega) (fun k i hi => by
    simp only [laws_eqIntS.l0]
    rw [if_pos (by omega), if_pos (by omega), if_pos (by omega), if_pos trivial]) (fun k => by
    simp only [laws_eqIntS.l0]
    rw [if_neg (by omega)])
theorem szIntS_eq (l : List Int) (a : Int) (hl : l.length ≤ 9223372036854775807) (h0 : 0 ≤ a) (h1 : a ≤ 1048576) : ∃ t, laws_szIntS.f l a = some t ∧ (0 ≤ t → t ≤ a ∧ l.length ≤ 1048576) := by
  unfold laws_szIntS.f
  rw [Loops.wrap_in (show -9223372036854775808 ≤ a - (l.length : Int) by omega) (by omega)]
  by_cases h : a - (l.length : Int) < 0
  · rw [if_pos h]; exact ⟨-1, rfl, fun h => absurd h (by omega)⟩
  · rw [if_neg h]; exact ⟨_, rfl, fun h => by omega⟩
theorem rdL1 (l : List (List Int)) (i : Nat) : rd_L1 l (i : Int) = l.getD i [] := by simp [rd_L1]
theorem szIntSS_eq (l : List (List Int)) (a : Int) (hl : l.length ≤ 9223372036854775807) (hr : ∀ x ∈ l, x.length ≤ 9223372036854775807) (h0 : 0 ≤ a) (h1 : a ≤ 1048576) : ∃ t, Ev (fun k => laws_szIntSS.f k l a) t ∧ (0 ≤ t → l.length ≤ 1048576 ∧ ∀ x ∈ l, x.length ≤ 1048576) := by
  unfold laws_szIntSS.f
  rw [Loops.wrap_in (show -9223372036854775808 ≤ a - (l.length : Int) by omega) (by omega)]
  by_cases h : a - (l.length : Int) < 0
  · simp only [if_pos h]; exact ⟨-1, Ev.now _, fun h => absurd h (by omega)⟩
  · simp only [if_neg h]
    obtain ⟨t, ev, ht⟩ := Loops.sz_loop (G := fun k i a => laws_szIntSS.l0 k l a i) l [] 1048576 (fun x a _ => laws_szIntS.f x a) (fun x => x.length ≤ 1048576) hl (fun x hx a h0 h1 => by
      obtain ⟨t, e, ht⟩ := szIntS_eq x a (hr x hx) h0 h1
      exact ⟨t, Loops.Ev.const e, ht⟩) (fun k i a hi => by
      simp only [laws_szIntSS.l0]
      rw [if_pos (by omega), if_pos (by omega), rdL1]) (fun k a => by
      simp only [laws_szIntSS.l0]
      rw [if_neg (by omega)]) (a - (l.length : Int)) (by omega) (by omega)
    exact ⟨t, ev, fun h => ⟨by omega, (ht h).2⟩⟩
theorem toIntSS_eq (l : List (List Int)) (hl : l.length ≤ 1048576) (hr : ∀ x ∈ l, x.length ≤ 1048576) : Ev (fun k => laws_toIntSS.f k l) l := by
  unfold laws_toIntSS.f
  simp only [if_pos (show (0 : Int) ≤ (l.length : Int) by omega), Int.toNat_natCast, if_pos (show l.length ≤ 11728124029610 by omega)]
  have key := Loops.map_ev (G := fun k i o => laws_toIntSS.l0 k l o i) l [] [] (fun x => x) (fun x k => laws_toIntS.f k x) (by omega) (fun x hx => toIntS_eq x (by have := hr x hx; omega)) (fun k i o hi ho => by
    simp only [laws_toIntSS.l0]
    rw [if_pos (by omega), if_pos (by omega), rdL1]
    congr 1; funext t
    rw [if_pos (by omega), Int.toNat_natCast]) (fun k o => by
    simp only [laws_toIntSS.l0]
    rw [if_neg (by omega)])
  simpa using key
theorem eqIntSS_eq (l : List (List Int)) (hl : l.length ≤ 1048576) (hr : ∀ x ∈ l, x.length ≤ 1048576) : Ev (fun k => laws_eqIntSS.f k l l) true := by
  unfold laws_eqIntSS.f
  simp only [if_true]
  have key := Loops.all_loop (G := fun k i => laws_eqIntSS.l0 k l l i) (r := true) l [] (fun _ => true) (fun x k => laws_eqIntS.f k x x) (by omega) (fun x hx => eqIntS_eq x (by have := hr x hx; omega)) (fun k i hi => by
    simp only [laws_eqIntSS.l0]
    rw [if_pos (by omega), if_pos (by omega), if_pos (by omega), rdL1]) (Loops.Ev.one (fun k => by
    simp only [laws_eqIntSS.l0]
    rw [if_neg (by omega)]))
  rw [show (l.all fun _ => true) = true by rw [List.all_eq_true]; intros; rfl, Bool.true_and] at key
  exact key
def bytes (r : List Int) : Bool := r.all fun v => decide (0 ≤ v ∧ v ≤ 255)
def rowOk (r : List Int) : Bool := bytes r && decide ((r.length : Int) = 32)
def rowsOk (l : List (List Int)) : Bool := l.all rowOk && decide ((l.length : Int) ≤ 32)
theorem srow_eq (r : List Int) (hr : r.length ≤ 1048576) : Ev (fun k => spec_l11Row.f k r) (rowOk r) := by
  unfold spec_l11Row.f rowOk bytes
  exact Loops.all_loop (G := fun k i => spec_l11Row.l0 k r i) r 0 _ (fun x k => spec_l01In.f x 0 255) (by omega) (fun x _ => Loops.Ev.const (in_eq x 0 255)) (fun k i hi => by
    simp only [spec_l11Row.l0]
    rw [if_pos (by omega), if_pos (by omega), Loops.rd_nat]) (Loops.Ev.one (fun k => by
    simp only [spec_l11Row.l0]
    rw [if_neg (by omega)]
    rfl))
theorem srows_eq (l : List (List Int)) (hl : l.length ≤ 1048576) (hr : ∀ x ∈ l, x.length ≤ 1048576) : Ev (fun k => spec_RowsOk.f k l) (rowsOk l) := by
  unfold spec_RowsOk.f rowsOk
  exact Loops.all_loop (G := fun k i => spec_RowsOk.l0 k l i) l [] rowOk (fun x k => spec_l11Row.f k x) (by omega) (fun x hx => srow_eq x (hr x hx)) (fun k i hi => by
    simp only [spec_RowsOk.l0]
    rw [if_pos (by omega), if_pos (by omega), rdL1]) (Loops.Ev.one (fun k => by
    simp only [spec_RowsOk.l0]
    rw [if_neg (by omega)]))
theorem irow_eq (r : List Int) (hr : r.length ≤ 1048576) : Ev (fun k => impl_rowOk.f k r) (rowOk r) := by
  unfold impl_rowOk.f rowOk
  by_cases h : (r.length : Int) = 32
  · simp only [if_pos h, decide_eq_true h]
    unfold bytes
    exact Loops.all_loop (G := fun k i => impl_rowOk.l0 k r (r.length : Int) i) r 0 _ (fun x k => impl_within.f x 0 255) (by omega) (fun x _ => Loops.Ev.const (within_eq x 0 255)) (fun k i hi => by
      simp only [impl_rowOk.l0]
      rw [if_pos (by omega), if_pos (by omega), if_pos (by omega), Loops.rd_nat]) (Loops.Ev.one (fun k => by
      simp only [impl_rowOk.l0]
      rw [if_neg (by omega)]))
  · simp only [if_neg h, decide_eq_false h, Bool.and_false]
    exact Ev.now _
theorem irows_eq (l : List (List Int)) (hl : l.length ≤ 1048576) (hr : ∀ x ∈ l, x.length ≤ 1048576) : Ev (fun k => impl_RowsOk.f k l) (rowsOk l) := by
  unfold impl_RowsOk.f rowsOk
  by_cases h : (l.length : Int) > 32
  · simp only [if_pos h, decide_eq_false (show ¬ (l.length : Int) ≤ 32 by omega), Bool.and_false]
    exact Ev.now _
  · simp only [if_neg h, decide_eq_true (show (l.length : Int) ≤ 32 by omega)]
    exact Loops.all_loop (G := fun k i => impl_RowsOk.l0 k l (l.length : Int) i) l [] rowOk (fun x k => impl_rowOk.f k x) (by omega) (fun x hx => irow_eq x (hr x hx)) (fun k i hi => by
      simp only [impl_RowsOk.l0]
      rw [if_pos (by omega), if_pos (by omega), if_pos (by omega), rdL1]) (Loops.Ev.one (fun k => by
      simp only [impl_RowsOk.l0]
      rw [if_neg (by omega)]))
def bits01 (r : List Int) : Bool := r.all fun v => decide (0 ≤ v ∧ v ≤ 1)
def bitsOk (l : List (List Int)) : Bool := rowsOk l && l.all bits01
theorem sbits_eq (l : List (List Int)) (hl : l.length ≤ 1048576) (hr : ∀ x ∈ l, x.length ≤ 1048576) : Ev (fun k => spec_BitsOk.f k l) (bitsOk l) := by
  unfold spec_BitsOk.f
  have key := Loops.back_loop (G := fun k i (_ : Unit) => spec_BitsOk.l0 k l i) (fun i _ => (l.drop i).all bits01 && rowsOk l) l.length (fun i _ hi ih => by
    refine Ev.step (f := fun k => spec_BitsOk.l1 k l (i : Int) 0) (fun k => by simp only [spec_BitsOk.l0]; rw [if_pos (by omega)]) ?_
    rw [Loops.drop_cons_getD l [] i hi, List.all_cons, Bool.and_assoc]
    have hx := hr _ (Loops.getD_mem l [] i hi)
    exact Loops.all_loop (G := fun k j => spec_BitsOk.l1 k l (i : Int) j) (l.getD i []) 0 _ (fun x k => spec_l01In.f x 0 1) (by omega) (fun x _ => Loops.Ev.const (in_eq x 0 1)) (fun k j hj => by
      simp only [spec_BitsOk.l1, rdL1]
      rw [if_pos (by omega), if_pos (by omega), if_pos (by omega), if_pos (by omega), Loops.rd_nat]) (Ev.step (f := fun k => spec_BitsOk.l0 k l ((i + 1 : Nat) : Int)) (fun k => by
      simp only [spec_BitsOk.l1, rdL1]
      rw [if_pos (by omega), if_pos (by omega), if_neg (by omega), Loops.wrap_succ hi (by omega)]) (ih ()))) (fun _ => by
    refine Ev.step (f := fun k => (spec_RowsOk.f k l).bind fun t107 => (some t107)) (fun k => by simp only [spec_BitsOk.l0]; rw [if_neg (by omega)]) (Ev.bind (srows_eq l hl hr) ?_)
    simp only [List.drop_length, List.all_nil, Bool.true_and]
    exact Ev.now _) ()
  simp only [List.drop_zero] at key
  unfold bitsOk
  rw [Bool.and_comm]
  exact key
theorem ibits_eq (l : List (List Int)) (hl : l.length ≤ 1048576) (hr : ∀ x ∈ l, x.length ≤ 1048576) : Ev (fun k => impl_BitsOk.f k l) (bitsOk l) := by
  unfold impl_BitsOk.f bitsOk
  refine Ev.bind (irows_eq l hl hr) ?_
  by_cases hR : rowsOk l = true
  · simp only [hR, if_true, Bool.true_and]
    have hbyte : ∀ r ∈ l, ∀ v ∈ r, 0 ≤ v := by
      intro r hr v hv
      simp only [rowsOk, Bool.and_eq_true, List.all_eq_true] at hR
      have h1 := hR.1 r hr
      simp only [rowOk, bytes, Bool.and_eq_true, List.all_eq_true, decide_eq_true_eq] at h1
      exact (h1.1 v hv).1
    have key := Loops.back_loop (G := fun k i (_ : Unit) => impl_BitsOk.l0 k l (l.length : Int) i) (fun i _ => (l.drop i).all bits01) l.length (fun i _ hi ih => by
      refine Ev.step (f := fun k => impl_BitsOk.l1 k l (l.length : Int) (i : Int) (l.getD i []) ((l.getD i []).length : Int) 0) (fun k => by simp only [impl_BitsOk.l0]; rw [if_pos (by omega), if_pos (by omega), if_pos (by omega), rdL1]) ?_
      rw [Loops.drop_cons_getD l [] i hi, List.all_cons]
      have hm := Loops.getD_mem l [] i hi
      have hx := hr _ hm
      exact Loops.all_loop (G := fun k j => impl_BitsOk.l1 k l (l.length : Int) (i : Int) (l.getD i []) ((l.getD i []).length : Int) j) (l.getD i []) 0 _ (fun x k => some (decide (0 ≤ x ∧ x ≤ 1))) (by omega) (fun x _ => Ev.now _) (fun k j hj => by
        simp only [impl_BitsOk.l1]
        rw [if_pos (by omega), if_pos (by omega), if_pos (by omega), Loops.rd_nat]
        have h0 := hbyte _ hm _ (Loops.getD_mem _ 0 j hj)
        by_cases h : (l.getD i []).getD j 0 > 1
        · rw [if_pos h]
          simp only [decide_eq_false (show ¬ (0 ≤ (l.getD i []).getD j 0 ∧ (l.getD i []).getD j 0 ≤ 1) by omega), Option.bind_some, Bool.false_eq_true, if_false]
        · rw [if_neg h]
          simp only [decide_eq_true (show (0 ≤ (l.getD i []).getD j 0 ∧ (l.getD i []).getD j 0 ≤ 1) by omega), Option.bind_some, if_true]) (Ev.step (f := fun k => impl_BitsOk.l0 k l (l.length : Int) ((i + 1 : Nat) : Int)) (fun k => by
        simp only [impl_BitsOk.l1]
        rw [if_neg (by omega), Loops.wrap_succ hi (by omega)]) (ih ()))) (fun _ => by
      refine Loops.Ev.one (fun k => ?_)
      simp only [impl_BitsOk.l0, List.drop_length, List.all_nil]
      rw [if_neg (by omega)]) ()
    simpa using key
  · simp only [Bool.not_eq_true] at hR
    simp only [hR, Bool.false_eq_true, if_false, Bool.false_and]
    exact Ev.now _
def cntRow (a : Int) (s : Int) (r : List Int) : Int := r.foldl (fun s v => if v = a then wrap64 (s + 1) else s) s
def cntRows (a : Int) (l : List (List Int)) (s : Int) : Int := l.foldl (fun s r => cntRow a s r) s
theorem scount_eq (l : List (List Int)) (a : Int) (hl : l.length ≤ 1048576) (hr : ∀ x ∈ l, x.length ≤ 1048576) : Ev (fun k => spec_CountValue.f k l a) (cntRows a l 0) := by
  unfold spec_CountValue.f
  have key := Loops.back_loop (G := fun k i (s : Int) => spec_CountValue.l0 k l a s i) (fun i s => cntRows a (l.drop i) s) l.length (fun i s hi ih => by
    refine Ev.step (f := fun k => spec_CountValue.l1 k l a s (i : Int) 0) (fun k => by simp only [spec_CountValue.l0]; rw [if_pos (by omega)]) ?_
    rw [Loops.drop_cons_getD l [] i hi]
    have hx := hr _ (Loops.getD_mem l [] i hi)
    exact Loops.fold_loop (G := fun k j s => spec_CountValue.l1 k l a s (i : Int) j) (r := fun s => cntRows a (l.drop (i + 1)) s) (l.getD i []) 0 (fun s v => if v = a then wrap64 (s + 1) else s) (fun _ _ => True) (fun k j s hj _ => by
      simp only [spec_CountValue.l1, rdL1]
      rw [if_pos (by omega), if_pos (by omega), if_pos (by omega), if_pos (by omega), Loops.rd_nat, Loops.wrap_succ hj (by omega)]
      split <;> rfl) (fun _ _ _ _ => trivial) (fun s _ => Ev.step (f := fun k => spec_CountValue.l0 k l a s ((i + 1 : Nat) : Int)) (fun k => by
      simp only [spec_CountValue.l1, rdL1]
      rw [if_pos (by omega), if_pos (by omega), if_neg (by omega), Loops.wrap_succ hi (by omega)]) (ih s)) s trivial) (fun s => by
    refine Loops.Ev.one (fun k => ?_)
    simp only [spec_CountValue.l0, List.drop_length]
    rw [if_neg (by omega)]
    rfl) 0
  simpa using key
theorem icount_eq (l : List (List Int)) (a : Int) (hl : l.length ≤ 1048576) (hr : ∀ x ∈ l, x.length ≤ 1048576) : Ev (fun k => impl_CountValue.f k l a) (cntRows a l 0) := by
  unfold impl_CountValue.f
  have key := Loops.back_loop (G := fun k i (s : Int) => impl_CountValue.l0 k a s l (l.length : Int) i) (fun i s => cntRows a (l.drop i) s) l.length (fun i s hi ih => by
    refine Ev.step (f := fun k => impl_CountValue.l1 k a s l (l.length : Int) (i : Int) (l.getD i []) ((l.getD i []).length : Int) 0) (fun k => by simp only [impl_CountValue.l0]; rw [if_pos (by omega), if_pos (by omega), if_pos (by omega), rdL1]) ?_
    rw [Loops.drop_cons_getD l [] i hi]
    have hx := hr _ (Loops.getD_mem l [] i hi)
    exact Loops.fold_loop (G := fun k j s => impl_CountValue.l1 k a s l (l.length : Int) (i : Int) (l.getD i []) ((l.getD i []).length : Int) j) (r := fun s => cntRows a (l.drop (i + 1)) s) (l.getD i []) 0 (fun s v => if v = a then wrap64 (s + 1) else s) (fun _ _ => True) (fun k j s hj _ => by
      simp only [impl_CountValue.l1]
      rw [if_pos (by omega), if_pos (by omega), if_pos (by omega), Loops.rd_nat, Loops.wrap_succ hj (by omega)]
      split <;> rfl) (fun _ _ _ _ => trivial) (fun s _ => Ev.step (f := fun k => impl_CountValue.l0 k a s l (l.length : Int) ((i + 1 : Nat) : Int)) (fun k => by
      simp only [impl_CountValue.l1]
      rw [if_neg (by omega), Loops.wrap_succ hi (by omega)]) (ih s)) s trivial) (fun s => by
    refine Loops.Ev.one (fun k => ?_)
    simp only [impl_CountValue.l0, List.drop_length]
    rw [if_neg (by omega)]
    rfl) 0
  simpa using key
def ink (l : List (List Int)) : Int := if bitsOk l = true then (if (l.length : Int) = 0 then 0 else wrap64 (Int.tdiv (wrap64 (1000 * cntRows 1 l 0)) (32 * (l.length : Int)))) else 0
theorem bits_len {l : List (List Int)} (h : bitsOk l = true) : (l.length : Int) ≤ 32 := by
  simp only [bitsOk, rowsOk, Bool.and_eq_true, decide_eq_true_eq] at h
  exact h.1.2
theorem sink_eq (l : List (List Int)) (hl : l.length ≤ 1048576) (hr : ∀ x ∈ l, x.length ≤ 1048576) : Ev (fun k => spec_InkCoverage.f k l) (ink l) := by
  unfold spec_InkCoverage.f ink
  refine Ev.bind (sbits_eq l hl hr) ?_
  by_cases hb : bitsOk l = true
  · simp only [hb, if_true]
    by_cases h0 : (l.length : Int) = 0
    · simp only [if_pos h0]; exact Ev.now _
    · simp only [if_neg h0]
      have h32 := bits_len hb
      have hc : Ev (fun k => spec_CountOnes.f k l) (cntRows 1 l 0) := by
        unfold spec_CountOnes.f
        refine Ev.bind (sbits_eq l hl hr) ?_
        simp only [hb, if_true]
        exact Ev.bind (scount_eq l 1 hl hr) (Ev.now _)
      refine Ev.bind hc ?_
      · rw [Loops.wrap_in (show -9223372036854775808 ≤ 32 * (l.length : Int) by omega) (by omega)]
        simp only [if_neg (show ¬ 32 * (l.length : Int) = 0 by omega)]
        exact Ev.now _
  · simp only [Bool.not_eq_true] at hb
    simp only [hb, Bool.false_eq_true, if_false]
    exact Ev.now _
theorem iink_eq (l : List (List Int)) (hl : l.length ≤ 1048576) (hr : ∀ x ∈ l, x.length ≤ 1048576) : Ev (fun k => impl_InkCoverage.f k l) (ink l) := by
  unfold impl_InkCoverage.f ink
  refine Ev.bind (ibits_eq l hl hr) ?_
  by_cases hb : bitsOk l = true
  · simp only [hb, if_true]
    by_cases h0 : (l.length : Int) = 0
    · simp only [if_pos h0]; exact Ev.now _
    · simp only [if_neg h0]
      have h32 := bits_len hb
      have hc : Ev (fun k => impl_CountOnes.f k l) (cntRows 1 l 0) := by
        unfold impl_CountOnes.f
        refine Ev.bind (ibits_eq l hl hr) ?_
        simp only [hb, if_true]
        exact Ev.bind (icount_eq l 1 hl hr) (Ev.now _)
      refine Ev.bind hc ?_
      · rw [Int.mul_comm (l.length : Int) 32, Int.mul_comm (cntRows 1 l 0) 1000, Loops.wrap_in (show -9223372036854775808 ≤ 32 * (l.length : Int) by omega) (by omega)]
        simp only [if_neg (show ¬ 32 * (l.length : Int) = 0 by omega)]
        exact Ev.now _
  · simp only [Bool.not_eq_true] at hb
    simp only [hb, Bool.false_eq_true, if_false]
    exact Ev.now _
theorem FnExactInkCoverage : ∀ (l0 : List (List Int)), (l0.length ≤ maxLen ∧ ∀ x ∈ l0, x.length ≤ maxLen ∧ ∀ y ∈ x, (Lit.int .i64 y).wf = true) → ∃ k, laws_FnExactInkCoverage.f k l0 = some true := by
  intro l ⟨h0, h1⟩
  have e : maxLen = 9223372036854775807 := by decide
  rw [e] at h0
  refine Ev.rounds ?_
  unfold laws_FnExactInkCoverage.f
  obtain ⟨t, ev, ht⟩ := szIntSS_eq l 1048576 h0 (fun x hx => by have := (h1 x hx).1; omega) (by omega) (by omega)
  refine Ev.bind ev ?_
  by_cases hn : t < 0
  · simp only [if_pos hn]; exact Ev.now _
  · obtain ⟨hl, hr⟩ := ht (by omega)
    simp only [if_neg hn]
    refine Ev.bind (toIntSS_eq l hl hr) ?_
    refine Ev.bind (sink_eq l hl hr) ?_
    refine Ev.bind (toIntSS_eq l hl hr) ?_
    refine Ev.bind (iink_eq l hl hr) ?_
    simp only [if_true]
    refine Ev.bind (toIntSS_eq l hl hr) ?_
    refine Ev.bind (eqIntSS_eq l hl hr) ?_
    simp only [if_true]
    exact Ev.now _

end Go.Proofs.Ytaceidiookkocaa.Pure
