/- The pure part of FnExactRunLine: over numbers and lists alone. No condition beyond the numbers' own kinds. -/
import Derived.Test.YtomhhbnnmjgcgaaQFnExactRunLine9
import Derived.Test.YtomhhbnnmjgcgaaLot
namespace Go.Proofs.Ytomhhbnnmjgcgaa.Pure
open Go.RowKit Go.Proofs.Ytomhhbnnmjgcgaa.PFnExactRunLine Go.Proofs.YtomhhbnnmjgcgaaW.PrintWords Go.Proofs.YtomhhbnnmjgcgaaW.PrintLast Go.Proofs.YtomhhbnnmjgcgaaW.PrintMore
set_option linter.unusedVariables false
set_option linter.unusedSimpArgs false

theorem within_eq (a b c : Int) : impl_within.f a b c = some (decide (b ≤ a ∧ a ≤ c)) := by
  unfold impl_within.f
  by_cases h : a ≥ b
  · rw [if_pos h]; congr 1; simp; omega
  · rw [if_neg h]; congr 1; simp; omega
theorem in_eq (a b c : Int) : spec_l01In.f a b c = some (decide (b ≤ a ∧ a ≤ c)) := by
  unfold spec_l01In.f
  by_cases h : a ≥ b
  · rw [if_pos h]; congr 1; simp; omega
  · rw [if_neg h]; congr 1; simp; omega
theorem toIntS_eq (l : List Int) (hl : l.length ≤ 4194304) : Ev (fun k => laws_toIntS.f k l) l := by
  unfold laws_toIntS.f
  simp only [if_pos (show (0 : Int) ≤ (l.length : Int) by omega), Int.toNat_natCast, if_pos (show l.length ≤ 35184372088832 by omega)]
  exact Loops.copy_loop (G := fun k i o => laws_toIntS.l0 k l o i) l 0 (by omega) (fun k i o => by simp only [laws_toIntS.l0, rd])
theorem eqIntS_eq (l : List Int) (hl : l.length ≤ 4194304) : Ev (fun k => laws_eqIntS.f k l l) true := by
  unfold laws_eqIntS.f
  simp only [if_true]
  exact Loops.plain_loop (G := fun k i => laws_eqIntS.l0 k l l i) l.length (by omega) (fun k i hi => by
    simp only [laws_eqIntS.l0]
    rw [if_pos (by omega), if_pos (by omega), if_pos (by omega), if_pos trivial]) (fun k => by
    simp only [laws_eqIntS.l0]
    rw [if_neg (by omega)])
theorem markIntS_eq (l : List Int) (a : Int) (hl : l.length ≤ 4194304) (h0 : 0 ≤ a) (h1 : a ≤ 1125899906842624) : Ev (fun k => laws_markIntS.f k l a) (a + l.length, Loops.iota a l.length) := by
  unfold laws_markIntS.f
  exact Loops.mark_loop (G := laws_markIntS.l0) l a (by omega) h0 (by omega) (fun k x m i => by simp only [laws_markIntS.l0])
theorem heldIntS_eq (n : Nat) (a : Int) (hn : n ≤ 4194304) (h0 : 0 ≤ a) (h1 : a ≤ 1125899906842624) : Ev (fun k => laws_heldIntS.f k (Loops.iota a n) a) (a + n) := by
  unfold laws_heldIntS.f
  exact Loops.held_loop (G := laws_heldIntS.l0) a n (by omega) h0 (by omega) (fun k x m i => by simp only [laws_heldIntS.l0])
def seqB : Int → List Int → Bool
  | _, [] => true
  | a, x :: xs => decide (x = a) && seqB (a + 1) xs
theorem seqB_append (l m : List Int) : ∀ a, seqB a (l ++ m) = (seqB a l && seqB (a + l.length) m) := by
  induction l with
  | nil => intro a; simp [seqB]
  | cons x xs ih =>
    intro a
    simp only [List.cons_append, seqB, ih, Bool.and_assoc, List.length_cons]
    rw [show a + 1 + (xs.length : Int) = a + ((xs.length + 1 : Nat) : Int) by omega]
theorem seq_loop {G : Nat → Int → Option Bool} {r : Bool} (l : List Int) (a : Int) (hl : l.length ≤ 9223372036854775807)
    (hG : ∀ k (i : Nat), i < l.length → G (k + 1) (i : Int) = if l.getD i 0 = a + i then G k (wrap64 ((i : Int) + 1)) else some false)
    (fin : Ev (fun k => G k (l.length : Int)) r) : Ev (fun k => G k 0) (seqB a l && r) := by
  have key := Loops.back_loop (G := fun k i (_ : Unit) => G k i) (fun i _ => seqB (a + i) (l.drop i) && r) l.length (fun i _ hi ih => by
    rw [Loops.drop_cons_getD l 0 i hi]
    by_cases h : l.getD i 0 = a + i
    · refine Ev.step (f := fun k => G k ((i + 1 : Nat) : Int)) (fun k => by rw [hG k i hi, if_pos h, Loops.wrap_succ hi hl]) ?_
      simp only [seqB, decide_eq_true h, Bool.true_and]
      rw [show a + (i : Int) + 1 = a + ((i + 1 : Nat) : Int) by omega]
      exact ih ()
    · refine Loops.Ev.one (fun k => ?_)
      rw [hG k i hi, if_neg h]
      simp only [seqB, decide_eq_false h, Bool.false_and]) (fun _ => by simpa [seqB] using fin) ()
  simpa using key
theorem concat_eq (A B : List Int) (hA : A.length ≤ 1048576) (hB : B.length ≤ 1048576) : Ev (fun k => slices_Concat_int_int.f k [A, B]) (A ++ B) := by
  refine ⟨6, fun k hk => ?_⟩
  obtain ⟨k, rfl⟩ : ∃ j, k = j + 6 := ⟨k - 6, by omega⟩
  have w1 : wrap64 (0 + 1) = 1 := by unfold wrap64; omega
  have w2 : wrap64 (1 + 1) = 2 := by unfold wrap64; omega
  have hl : (([A, B].length : Nat) : Int) = 2 := rfl
  have e0 : rd_L1 [A, B] 0 = A := rfl
  have e1 : rd_L1 [A, B] 1 = B := rfl
  have wA : wrap64 (0 + (A.length : Int)) = A.length := by unfold wrap64; omega
  have wB : wrap64 ((A.length : Int) + (B.length : Int)) = A.length + B.length := by unfold wrap64; omega
  unfold slices_Concat_int_int.f
  show slices_Concat_int_int.l0 (k + 5 + 1) [A, B] 0 [A, B] (([A, B].length : Nat) : Int) 0 = _
  rw [slices_Concat_int_int.l0, hl, if_pos (by omega), if_pos (by omega), if_pos (by omega), e0, wA, if_neg (by omega), w1]
  show slices_Concat_int_int.l0 (k + 4 + 1) [A, B] (A.length : Int) [A, B] 2 1 = _
  rw [slices_Concat_int_int.l0, hl, if_pos (by omega), if_pos (by omega), if_pos (by omega), e1, wB, if_neg (by omega), w2]
  show slices_Concat_int_int.l0 (k + 3 + 1) [A, B] ((A.length : Int) + B.length) [A, B] 2 2 = _
  rw [slices_Concat_int_int.l0, hl, if_neg (by omega), if_neg (by omega), if_neg (by omega)]
  show slices_Concat_int_int.l1 (k + 2 + 1) [] [A, B] 2 0 = _
  rw [slices_Concat_int_int.l1, hl, if_pos (by omega), if_pos (by omega), if_pos (by omega), e0, if_pos (by simp; omega), w1, List.nil_append]
  show slices_Concat_int_int.l1 (k + 1 + 1) A [A, B] 2 1 = _
  rw [slices_Concat_int_int.l1, hl, if_pos (by omega), if_pos (by omega), if_pos (by omega), e1, if_pos (by omega), w2]
  show slices_Concat_int_int.l1 (k + 1) (A ++ B) [A, B] 2 2 = _
  rw [slices_Concat_int_int.l1, if_neg (by omega)]
theorem szIntS_eq (l : List Int) (a : Int) (hl : l.length ≤ 9223372036854775807) (h0 : 0 ≤ a) (h1 : a ≤ 1048576) : ∃ t, laws_szIntS.f l a = some t ∧ (0 ≤ t → t ≤ a ∧ l.length ≤ 1048576) := by
  unfold laws_szIntS.f
  rw [Loops.wrap_in (show -9223372036854775808 ≤ a - (l.length : Int) by omega) (by omega)]
  by_cases h : a - (l.length : Int) < 0
  · rw [if_pos h]; exact ⟨-1, rfl, fun h => absurd h (by omega)⟩
  · rw [if_neg h]; exact ⟨_, rfl, fun h => by omega⟩
theorem szLine_eq (s n : Int) (A B : List Int) (w : Int) (st : Bool) (hA : A.length ≤ 9223372036854775807) (hB : B.length ≤ 9223372036854775807) : ∃ t, laws_szLine.f s n A B w st 1048576 = some t ∧ (0 ≤ t → A.length ≤ 1048576 ∧ B.length ≤ 1048576) := by
  unfold laws_szLine.f
  obtain ⟨t, e, ht⟩ := szIntS_eq A 1048576 hA (by omega) (by omega)
  simp only [e, Option.bind_some]
  by_cases h : t < 0
  · rw [if_pos h]; exact ⟨-1, rfl, fun h => absurd h (by omega)⟩
  · rw [if_neg h]
    obtain ⟨u, e, hu⟩ := szIntS_eq B t hB (by omega) (by have := ht (by omega); omega)
    simp only [e, Option.bind_some]
    by_cases h2 : u < 0
    · rw [if_pos h2]; exact ⟨-1, rfl, fun h => absurd h (by omega)⟩
    · rw [if_neg h2]; exact ⟨_, rfl, fun h => ⟨(ht (by omega)).2, (hu h).2⟩⟩
theorem toLine_eq (s n : Int) (A B : List Int) (w : Int) (st : Bool) (hA : A.length ≤ 1048576) (hB : B.length ≤ 1048576) : Ev (fun k => laws_toLine.f k s n A B w st) (s, n, A, B, w, st) := by
  unfold laws_toLine.f
  refine Ev.bind (toIntS_eq A (by omega)) (Ev.bind (toIntS_eq B (by omega)) (Ev.now _))
theorem eqLineB_eq (s n : Int) (A B : List Int) (w : Int) (st : Bool) (hA : A.length ≤ 2000000) (hB : B.length ≤ 2000000) : Ev (fun k => laws_eqLine.f k s n A B w st s n A B w st) true := by
  unfold laws_eqLine.f
  simp only [if_true]
  refine Ev.bind (eqIntS_eq A (by omega)) ?_
  simp only [if_true]
  refine Ev.bind (eqIntS_eq B (by omega)) ?_
  simp only [if_true, bne_self_eq_false, Bool.false_eq_true, if_false]
  exact Ev.now _
theorem markLineB_eq (s n : Int) (A B : List Int) (w : Int) (st : Bool) (hA : A.length ≤ 2000000) (hB : B.length ≤ 2000000) : Ev (fun k => laws_markLine.f k s n A B w st 1) (1 + A.length + B.length, Loops.iota 1 A.length, Loops.iota (1 + A.length) B.length) := by
  unfold laws_markLine.f
  refine Ev.bind (markIntS_eq A 1 (by omega) (by omega) (by omega)) (Ev.bind (markIntS_eq B (1 + A.length) (by omega) (by omega) (by omega)) (Ev.now _))
theorem heldLineB_eq (s n : Int) (a b : Nat) (w : Int) (st : Bool) (hA : a ≤ 2000000) (hB : b ≤ 2000000) : Ev (fun k => laws_heldLine.f k s n (Loops.iota 1 a) (Loops.iota (1 + a) b) w st 1) (1 + a + b) := by
  unfold laws_heldLine.f
  refine Ev.bind (heldIntS_eq a 1 (by omega) (by omega) (by omega)) ?_
  simp only [if_neg (show ¬ (1 : Int) + (a : Int) < 0 by omega)]
  refine Ev.bind (heldIntS_eq b (1 + a) (by omega) (by omega) (by omega)) ?_
  simp only [if_neg (show ¬ (1 : Int) + (a : Int) + (b : Int) < 0 by omega)]
  exact Ev.now _
def lineOk (s n : Int) (A B : List Int) (w : Int) : Bool := decide (((0 ≤ s ∧ s ≤ 40) ∧ n ≤ s) ∧ (A.length : Int) ≤ 5 ∧ (0 ≤ w ∧ w ≤ 100000) ∧ (B.length : Int) + A.length = n) && seqB 0 (B ++ A)
theorem iline_eq (s n : Int) (A B : List Int) (w : Int) (st : Bool) (hA : A.length ≤ 1048576) (hB : B.length ≤ 1048576) : Ev (fun k => impl_LineOk.f k s n A B w st) (lineOk s n A B w) := by
  have jt : Ev (fun k => impl_LineOk.j0 k true s n A B w st) false := Loops.Ev.one (fun k => by simp only [impl_LineOk.j0, if_true])
  have jf : Ev (fun k => impl_LineOk.j0 k false s n A B w st) (seqB 0 (B ++ A)) := by
    refine Loops.Ev.succ ?_
    simp only [impl_LineOk.j0, Bool.false_eq_true, if_false]
    refine (Ev.bind (concat_eq B A hB hA) ?_)
    have key := seq_loop (G := fun k i => impl_LineOk.l0 k (B ++ A) ((B ++ A).length : Int) i) (r := true) (B ++ A) 0 (by simp; omega) (fun k i hi => by
      simp only [impl_LineOk.l0]
      rw [if_pos (by omega), if_pos (by omega), if_pos (by omega), Loops.rd_nat, Int.zero_add]) (Loops.Ev.one (fun k => by
      simp only [impl_LineOk.l0]
      rw [if_neg (by omega)]))
    simpa using key
  unfold impl_LineOk.f lineOk
  simp only [within_eq, Option.bind_some, decide_eq_true_eq]
  by_cases h1 : 0 ≤ s ∧ s ≤ 40
  · simp only [if_pos h1]
    by_cases h2 : n > s
    · simp only [if_pos h2]
      exact Loops.Ev.eq jt (by rw [decide_eq_false (by omega)]; rfl)
    · simp only [if_neg h2]
      by_cases h3 : (A.length : Int) > 5
      · simp only [if_pos h3]
        exact Loops.Ev.eq jt (by rw [decide_eq_false (by omega)]; rfl)
      · simp only [if_neg h3]
        by_cases h4 : 0 ≤ w ∧ w ≤ 100000
        · simp only [if_pos h4]
          rw [Loops.wrap_in (show -9223372036854775808 ≤ (B.length : Int) + (A.length : Int) by omega) (by omega)]
          by_cases h5 : (B.length : Int) + A.length = n
          · rw [show ((B.length : Int) + (A.length : Int) != n) = false by simp [h5], decide_eq_true (by omega), Bool.true_and]
            exact jf
          · rw [show ((B.length : Int) + (A.length : Int) != n) = true by simp [h5]]
            exact Loops.Ev.eq jt (by rw [decide_eq_false (by omega)]; rfl)
        · simp only [if_neg h4]
          exact Loops.Ev.eq jt (by rw [decide_eq_false (by omega)]; rfl)
  · simp only [if_neg h1]
    exact Loops.Ev.eq jt (by rw [decide_eq_false (by omega)]; rfl)
theorem sline_eq (s n : Int) (A B : List Int) (w : Int) (st : Bool) (hA : A.length ≤ 1048576) (hB : B.length ≤ 1048576) : Ev (fun k => spec_LineOk.f k s n A B w st) (lineOk s n A B w) := by
  have jt : Ev (fun k => spec_LineOk.j0 k true s n A B w st) false := Loops.Ev.one (fun k => by simp only [spec_LineOk.j0, if_true])
  have jf : Ev (fun k => spec_LineOk.j0 k false s n A B w st) (seqB 0 (B ++ A)) := by
    refine Ev.step (f := fun k => spec_LineOk.l0 k 0 s n A B w st) (fun k => by simp only [spec_LineOk.j0, Bool.false_eq_true, if_false]) ?_
    rw [seqB_append]
    refine seq_loop (G := fun k i => spec_LineOk.l0 k i s n A B w st) B 0 (by omega) (fun k i hi => by
      simp only [spec_LineOk.l0]
      rw [if_pos (by omega), if_pos (by omega), Loops.rd_nat, Int.zero_add]) (Ev.step (f := fun k => spec_LineOk.l1 k 0 s n A B w st) (fun k => by
      simp only [spec_LineOk.l0]
      rw [if_neg (by omega)]) ?_)
    have key := seq_loop (G := fun k i => spec_LineOk.l1 k i s n A B w st) (r := true) A (0 + B.length) (by omega) (fun k i hi => by
      simp only [spec_LineOk.l1]
      rw [if_pos (by omega), if_pos (by omega), Loops.rd_nat, Loops.wrap_in (show -9223372036854775808 ≤ (B.length : Int) + (i : Int) by omega) (by omega), Int.zero_add]) (Loops.Ev.one (fun k => by
      simp only [spec_LineOk.l1]
      rw [if_neg (by omega)]))
    simpa using key
  unfold spec_LineOk.f lineOk
  simp only [in_eq, Option.bind_some, decide_eq_true_eq]
  by_cases h1 : 0 ≤ s ∧ s ≤ 40
  · simp only [if_pos h1]
    by_cases h2 : 0 ≤ n ∧ n ≤ s
    · simp only [if_pos h2]
      by_cases h3 : (A.length : Int) > 5
      · simp only [if_pos h3]
        exact Loops.Ev.eq jt (by rw [decide_eq_false (by omega)]; rfl)
      · simp only [if_neg h3]
        by_cases h4 : 0 ≤ w ∧ w ≤ 100000
        · simp only [if_pos h4]
          rw [Loops.wrap_in (show -9223372036854775808 ≤ (B.length : Int) + (A.length : Int) by omega) (by omega)]
          by_cases h5 : (B.length : Int) + A.length = n
          · rw [show ((B.length : Int) + (A.length : Int) != n) = false by simp [h5], decide_eq_true (by omega), Bool.true_and]
            exact jf
          · rw [show ((B.length : Int) + (A.length : Int) != n) = true by simp [h5]]
            exact Loops.Ev.eq jt (by rw [decide_eq_false (by omega)]; rfl)
        · simp only [if_neg h4]
          exact Loops.Ev.eq jt (by rw [decide_eq_false (by omega)]; rfl)
    · simp only [if_neg h2]
      exact Loops.Ev.eq jt (by rw [decide_eq_false (by omega)]; rfl)
  · simp only [if_neg h1]
    exact Loops.Ev.eq jt (by rw [decide_eq_false (by omega)]; rfl)
theorem clone_eq (l : List Int) (hl : l.length ≤ 1048576) : slices_Clone_int_int.f l = some l := by
  unfold slices_Clone_int_int.f
  simp only [Option.bind_some, List.length_nil, List.nil_append]
  rw [if_pos (by omega)]
theorem copyLine_eq (s n : Int) (I O : List Int) (w : Int) (st : Bool) (hI : I.length ≤ 1048576) (hO : O.length ≤ 1048576) : impl_copyLine.f s n I O w st = some (s, n, I, O, w, st) := by
  unfold impl_copyLine.f
  simp only [clone_eq I hI, clone_eq O hO, Option.bind_some]
def lstep (s n : Int) (I O : List Int) (w : Int) (st : Bool) (a : Int) : Int × Int × List Int × List Int × Int × Bool × Bool :=
  if lineOk s n I O w = true then
    (if a = 1 then (if (I.length : Int) ≥ 5 then (s, n, I, O, w, st, false) else if n ≥ s then (s, n, I, O, w, st, false) else if st = true then (s, n, I, O, w, st, false) else (s, n + 1, I ++ [n], O, w, st, true))
    else if a = 2 then (if (I.length : Int) = 0 then (s, n, I, O, w, st, false) else if st = true then (s, n, I, O, w, st, false) else (s, n, I.drop 1, O ++ [rd I 0], w, st, true))
    else if a = 3 then (s, (O.length : Int), [], O, mn 100000 (w + I.length), true, true)
    else if a = 4 then (s, n, I, O, w, true, true)
    else if a = 5 then (s, n, I, O, w, false, true)
    else (s, n, I, O, w, st, false))
  else (s, n, I, O, w, st, false)
theorem lineOk_parts {s n : Int} {I O : List Int} {w : Int} (h : lineOk s n I O w = true) : ((0 ≤ s ∧ s ≤ 40) ∧ n ≤ s) ∧ (I.length : Int) ≤ 5 ∧ (0 ≤ w ∧ w ≤ 100000) ∧ (O.length : Int) + I.length = n := by
  simp only [lineOk, Bool.and_eq_true, decide_eq_true_eq] at h
  exact h.1
theorem lineOk_seq {s n : Int} {I O : List Int} {w : Int} (h : lineOk s n I O w = true) : seqB 0 (O ++ I) = true := by
  simp only [lineOk, Bool.and_eq_true] at h
  exact h.2
theorem lineOk_mk {s n : Int} {I O : List Int} {w : Int} (h : ((0 ≤ s ∧ s ≤ 40) ∧ n ≤ s) ∧ (I.length : Int) ≤ 5 ∧ (0 ≤ w ∧ w ≤ 100000) ∧ (O.length : Int) + I.length = n) (h2 : seqB 0 (O ++ I) = true) : lineOk s n I O w = true := by
  unfold lineOk
  rw [decide_eq_true h, h2]
  rfl
theorem istep_eq (s n : Int) (I O : List Int) (w : Int) (st : Bool) (a : Int) (hI : I.length ≤ 1048576) (hO : O.length ≤ 1048576) : Ev (fun k => impl_LineStep.f k s n I O w st a) (lstep s n I O w st a) := by
  unfold impl_LineStep.f lstep
  simp only [copyLine_eq s n I O w st hI hO, Option.bind_some]
  refine Ev.bind (iline_eq s n I O w st hI hO) ?_
  by_cases hl : lineOk s n I O w = true
  · simp only [if_pos hl]
    have hp := lineOk_parts hl
    by_cases h1 : a = 1
    · simp only [if_pos h1]
      by_cases h2 : (I.length : Int) ≥ 5
      · simp only [if_pos h2]; exact Ev.now _
      simp only [if_neg h2]
      by_cases h3 : n ≥ s
      · simp only [if_pos h3]; exact Ev.now _
      simp only [if_neg h3]
      by_cases h4 : st = true
      · simp only [if_pos h4]; exact Ev.now _
      simp only [if_neg h4, if_pos (show I.length < 17592186044416 by omega)]
      rw [Loops.wrap_in (show -9223372036854775808 ≤ n + 1 by omega) (by omega)]
      exact Ev.now _
    simp only [if_neg h1]
    by_cases h1 : a = 2
    · simp only [if_pos h1]
      by_cases h2 : (I.length : Int) = 0
      · simp only [if_pos h2]; exact Ev.now _
      simp only [if_neg h2]
      by_cases h4 : st = true
      · simp only [if_pos h4]; exact Ev.now _
      simp only [if_neg h4, if_pos (show 0 < (I.length : Int) by omega), if_pos (show O.length < 17592186044416 by omega), if_pos (show 1 ≤ (I.length : Int) by omega)]
      exact Ev.now _
    simp only [if_neg h1]
    by_cases h1 : a = 3
    · simp only [if_pos h1]
      rw [Loops.wrap_in (show -9223372036854775808 ≤ w + (I.length : Int) by omega) (by omega)]
      exact Ev.now _
    simp only [if_neg h1]
    by_cases h1 : a = 4
    · simp only [if_pos h1]; exact Ev.now _
    simp only [if_neg h1]
    by_cases h1 : a = 5
    · simp only [if_pos h1]; exact Ev.now _
    simp only [if_neg h1]; exact Ev.now _
  · simp only [if_neg hl]; exact Ev.now _
/-- A step that is taken leads from a good line to a good one. -/
theorem lstep_good (s n : Int) (I O : List Int) (w : Int) (st : Bool) (a : Int) (hl : lineOk s n I O w = true) : ∃ n2 I2 O2 w2 st2 ok, lstep s n I O w st a = (s, n2, I2, O2, w2, st2, ok) ∧ lineOk s n2 I2 O2 w2 = true ∧ w2 ≤ w + 5 := by
  have hp := lineOk_parts hl
  have hs := lineOk_seq hl
  unfold lstep
  rw [if_pos hl]
  split
  · split
    · exact ⟨_, _, _, _, _, _, rfl, hl, by omega⟩
    split
    · exact ⟨_, _, _, _, _, _, rfl, hl, by omega⟩
    split
    · exact ⟨_, _, _, _, _, _, rfl, hl, by omega⟩
    refine ⟨_, _, _, _, _, _, rfl, lineOk_mk ⟨by omega, by simp; omega, by omega, by simp; omega⟩ ?_, by omega⟩
    rw [← List.append_assoc, seqB_append, hs, Bool.true_and]
    simp only [seqB, Bool.and_true, decide_eq_true_eq, List.length_append]
    omega
  split
  · split
    · exact ⟨_, _, _, _, _, _, rfl, hl, by omega⟩
    split
    · exact ⟨_, _, _, _, _, _, rfl, hl, by omega⟩
    rename_i hne _
    cases I with
    | nil => exact absurd rfl hne
    | cons x xs =>
      refine ⟨_, _, _, _, _, _, rfl, lineOk_mk ⟨by omega, ?_, by omega, ?_⟩ ?_, by omega⟩
      · simp at hp ⊢; omega
      · simp at hp ⊢; omega
      · have e : (O ++ [rd (x :: xs) 0]) ++ List.drop 1 (x :: xs) = O ++ (x :: xs) := by simp [rd]
        rw [e]; exact hs
  split
  · refine ⟨_, _, _, _, _, _, rfl, lineOk_mk ⟨by omega, by simp, by unfold mn; split <;> omega, by simp⟩ ?_, by unfold mn; split <;> omega⟩
    rw [List.append_nil]
    rw [seqB_append, Bool.and_eq_true] at hs
    exact hs.1
  split
  · exact ⟨_, _, _, _, _, _, rfl, hl, by omega⟩
  split
  · exact ⟨_, _, _, _, _, _, rfl, hl, by omega⟩
  exact ⟨_, _, _, _, _, _, rfl, hl, by omega⟩
theorem good_len {s n : Int} {I O : List Int} {w : Int} (h : lineOk s n I O w = true) : I.length ≤ 1048576 ∧ O.length ≤ 1048576 := by
  have := lineOk_parts h
  omega
theorem scopy_eq (l : List Int) (hl : l.length ≤ 1048576) : spec_l05Copy.f l = some l := by
  unfold spec_l05Copy.f
  simp only [Option.bind_some, List.length_nil, List.nil_append]
  rw [if_pos (by omega)]
theorem scopyLine_eq (s n : Int) (I O : List Int) (w : Int) (st : Bool) (hI : I.length ≤ 1048576) (hO : O.length ≤ 1048576) : spec_l37Copy.f s n I O w st = some (s, n, I, O, w, st) := by
  unfold spec_l37Copy.f
  simp only [scopy_eq I hI, scopy_eq O hO, Option.bind_some]
theorem sstep_eq (s n : Int) (I O : List Int) (w : Int) (st : Bool) (a : Int) (hI : I.length ≤ 1048576) (hO : O.length ≤ 1048576) : Ev (fun k => spec_LineStep.f k s n I O w st a) (lstep s n I O w st a) := by
  unfold spec_LineStep.f lstep
  simp only [scopyLine_eq s n I O w st hI hO, Option.bind_some]
  refine Ev.bind (sline_eq s n I O w st hI hO) ?_
  by_cases hl : lineOk s n I O w = true
  · simp only [if_pos hl]
    have hp := lineOk_parts hl
    by_cases h1 : a = 1
    · simp only [if_pos h1]
      by_cases h4 : st = true
      · simp only [if_pos h4, ite_self]; exact Ev.now _
      simp only [if_neg h4]
      by_cases h2 : (I.length : Int) = 5
      · simp only [if_pos h2, if_pos (show (I.length : Int) ≥ 5 by omega)]; exact Ev.now _
      simp only [if_neg h2, if_neg (show ¬ (I.length : Int) ≥ 5 by omega)]
      by_cases h3 : n = s
      · simp only [if_pos h3, if_pos (show n ≥ s by omega)]; exact Ev.now _
      simp only [if_neg h3, if_neg (show ¬ n ≥ s by omega), if_pos (show I.length < 17592186044416 by omega)]
      rw [Loops.wrap_in (show -9223372036854775808 ≤ n + 1 by omega) (by omega)]
      exact Ev.now _
    simp only [if_neg h1]
    by_cases h1 : a = 2
    · simp only [if_pos h1]
      by_cases h4 : st = true
      · simp only [if_pos h4, ite_self]; exact Ev.now _
      simp only [if_neg h4]
      by_cases h2 : (I.length : Int) = 0
      · simp only [if_pos h2]; exact Ev.now _
      simp only [if_neg h2, if_pos (show 0 < (I.length : Int) by omega), if_pos (show O.length < 17592186044416 by omega), if_pos (show 1 ≤ (I.length : Int) by omega)]
      exact Ev.now _
    simp only [if_neg h1]
    by_cases h1 : a = 3
    · simp only [if_pos h1]
      rw [Loops.wrap_in (show -9223372036854775808 ≤ w + (I.length : Int) by omega) (by omega)]
      exact Ev.now _
    simp only [if_neg h1]
    by_cases h1 : a = 4
    · simp only [if_pos h1]; exact Ev.now _
    simp only [if_neg h1]
    by_cases h1 : a = 5
    · simp only [if_pos h1]; exact Ev.now _
    simp only [if_neg h1]; exact Ev.now _
  · simp only [if_neg hl]; exact Ev.now _
theorem lstep_len (s n : Int) (I O : List Int) (w : Int) (st : Bool) (a : Int) : (lstep s n I O w st a).2.2.1.length ≤ I.length + 1 ∧ (lstep s n I O w st a).2.2.2.1.length ≤ O.length + 1 := by
  unfold lstep
  repeat' split
  all_goals simp
  all_goals omega
theorem lstep_inv (s n : Int) (I O : List Int) (w : Int) (st : Bool) (a : Int) (hI : I.length ≤ 1048576) (hO : O.length ≤ 1048576) : (lstep s n I O w st a).2.2.1.length ≤ 1048576 ∧ (lstep s n I O w st a).2.2.2.1.length ≤ 1048576 := by
  by_cases hl : lineOk s n I O w = true
  · have := lstep_len s n I O w st a
    have := lineOk_parts hl
    omega
  · unfold lstep
    rw [if_neg hl]
    exact ⟨hI, hO⟩
theorem lstep_no (s n : Int) (I O : List Int) (w : Int) (st : Bool) (a : Int) (h : (lstep s n I O w st a).2.2.2.2.2.2 = false) : lstep s n I O w st a = (s, n, I, O, w, st, false) := by
  unfold lstep at h ⊢
  repeat' split
  all_goals first | rfl | simp_all
def lrun : List Int → Int → Int → List Int → List Int → Int → Bool → Int → Int × Int × List Int × List Int × Int × Bool × Int
  | [], s, n, I, O, w, st, c => (s, n, I, O, w, st, c)
  | a :: T', s, n, I, O, w, st, c => lrun T' (lstep s n I O w st a).1 (lstep s n I O w st a).2.1 (lstep s n I O w st a).2.2.1 (lstep s n I O w st a).2.2.2.1 (lstep s n I O w st a).2.2.2.2.1 (lstep s n I O w st a).2.2.2.2.2.1 (if (lstep s n I O w st a).2.2.2.2.2.2 = true then wrap64 (c + 1) else c)
theorem lrun_cons {a : Int} {T' : List Int} {s n : Int} {I O : List Int} {w : Int} {st : Bool} {c s2 n2 : Int} {I2 O2 : List Int} {w2 : Int} {st2 ok : Bool} (h : lstep s n I O w st a = (s2, n2, I2, O2, w2, st2, ok)) : lrun (a :: T') s n I O w st c = lrun T' s2 n2 I2 O2 w2 st2 (if ok = true then wrap64 (c + 1) else c) := by
  simp only [lrun, h]
theorem lrun_len : ∀ (T : List Int) (s n : Int) (I O : List Int) (w : Int) (st : Bool) (c : Int), I.length ≤ 1048576 → O.length ≤ 1048576 → (lrun T s n I O w st c).2.2.1.length ≤ 1048576 ∧ (lrun T s n I O w st c).2.2.2.1.length ≤ 1048576
  | [], s, n, I, O, w, st, c, hI, hO => ⟨hI, hO⟩
  | a :: T', s, n, I, O, w, st, c, hI, hO => by
    have h := lstep_inv s n I O w st a hI hO
    exact lrun_len T' _ _ _ _ _ _ _ h.1 h.2
theorem irun_all (T : List Int) (hT : T.length ≤ 200) : ∀ (m i : Nat), i + m = T.length → ∀ (s n : Int) (I O : List Int) (w : Int) (st : Bool) (c : Int), I.length ≤ 1048576 → O.length ≤ 1048576 → Ev (fun k => impl_RunLine.l0 k c T (T.length : Int) (i : Int) s n I O w st) (lrun (T.drop i) s n I O w st c) := by
  intro m
  induction m with
  | zero =>
    intro i hi s n I O w st c hI hO
    obtain rfl : i = T.length := by omega
    rw [List.drop_length]
    refine Loops.Ev.one (fun k => ?_)
    simp only [impl_RunLine.l0]
    rw [if_neg (by omega)]
    rfl
  | succ m ih =>
    intro i hi s n I O w st c hI hO
    have ev := istep_eq s n I O w st (rd T (i : Int)) hI hO
    have hv := lstep_inv s n I O w st (rd T (i : Int)) hI hO
    have hn := lstep_no s n I O w st (rd T (i : Int))
    obtain ⟨⟨s2, n2, I2, O2, w2, st2, ok⟩, hR⟩ : ∃ R, lstep s n I O w st (rd T (i : Int)) = R := ⟨_, rfl⟩
    rw [Loops.drop_cons_getD T 0 i (by omega), ← Loops.rd_nat, lrun_cons hR]
    rw [hR] at ev hv hn
    simp only at hv hn
    refine Loops.Ev.succ ?_
    simp only [impl_RunLine.l0, if_pos (show (i : Int) < (T.length : Int) by omega), if_pos (show 0 ≤ (i : Int) by omega)]
    refine Ev.bind ev ?_
    cases ok with
    | true =>
      simp only [if_true]
      rw [Loops.wrap_succ (show i < T.length by omega) (by omega)]
      exact ih (i + 1) (by omega) s2 n2 I2 O2 w2 st2 (wrap64 (c + 1)) hv.1 hv.2
    | false =>
      simp only [Bool.false_eq_true, if_false]
      have h := hn rfl
      simp only [Prod.mk.injEq, and_true] at h
      obtain ⟨rfl, rfl, rfl, rfl, rfl, rfl⟩ := h
      rw [Loops.wrap_succ (show i < T.length by omega) (by omega)]
      exact ih (i + 1) (by omega) _ _ _ _ _ _ c hI hO
theorem irunline_eq (s n : Int) (I O : List Int) (w : Int) (st : Bool) (L : List Int) (hI : I.length ≤ 1048576) (hO : O.length ≤ 1048576) (hL : L.length ≤ 1048576) : Ev (fun k => impl_RunLine.f k s n I O w st L) (lrun (L.take 200) s n I O w st 0) := by
  have hm0 : 0 ≤ mn (L.length : Int) 200 := by unfold mn; split <;> omega
  have hm1 : mn (L.length : Int) 200 ≤ (L.length : Int) := by unfold mn; split <;> omega
  have hT : L.take ((mn (L.length : Int) 200) : Int).toNat = L.take 200 := by
    unfold mn
    split
    · rfl
    · rename_i h
      rw [List.take_of_length_le (show L.length ≤ 200 by omega), List.take_of_length_le (by omega)]
  unfold impl_RunLine.f
  simp only [copyLine_eq s n I O w st hI hO, Option.bind_some, if_pos hm0, if_pos hm1, hT]
  have key := irun_all (L.take 200) (by rw [List.length_take]; omega) (L.take 200).length 0 (by omega) s n I O w st 0 hI hO
  rw [List.drop_zero] at key
  exact key
theorem take_drop_cons (L : List Int) (i : Nat) (h : i < L.length) (h2 : i < 200) : (L.take 200).drop i = rd L (i : Int) :: (L.take 200).drop (i + 1) := by
  rw [Loops.drop_cons_getD (L.take 200) 0 i (by rw [List.length_take]; omega), Loops.rd_nat]
  congr 1
  simp [List.getD, List.getElem?_take, h2]
theorem srun_all (L : List Int) (hL : L.length ≤ 1048576) : ∀ (m i : Nat), i + m = (L.take 200).length → ∀ (s n : Int) (I O : List Int) (w : Int) (st : Bool) (c : Int), I.length ≤ 1048576 → O.length ≤ 1048576 → Ev (fun k => spec_RunLine.l0 k L c (i : Int) s n I O w st) (lrun ((L.take 200).drop i) s n I O w st c) := by
  intro m
  induction m with
  | zero =>
    intro i hi s n I O w st c hI hO
    have hi2 : i = (L.take 200).length := by omega
    rw [show (L.take 200).drop i = [] by rw [hi2, List.drop_length]]
    rw [List.length_take] at hi2
    have hj : Ev (fun k => spec_RunLine.j1 k L c (i : Int) false s n I O w st) (s, n, I, O, w, st, c) := Loops.Ev.one (fun k => by simp only [spec_RunLine.j1, Bool.false_eq_true, if_false])
    refine Loops.Ev.succ ?_
    simp only [spec_RunLine.l0]
    by_cases h : (i : Int) < (L.length : Int)
    · simp only [if_pos h, decide_eq_false (show ¬ (i : Int) < 200 by omega)]
      exact hj
    · simp only [if_neg h]
      exact hj
  | succ m ih =>
    intro i hi s n I O w st c hI hO
    have hlen := hi
    rw [List.length_take] at hlen
    have ev := sstep_eq s n I O w st (rd L (i : Int)) hI hO
    have hv := lstep_inv s n I O w st (rd L (i : Int)) hI hO
    obtain ⟨⟨s2, n2, I2, O2, w2, st2, ok⟩, hR⟩ : ∃ R, lstep s n I O w st (rd L (i : Int)) = R := ⟨_, rfl⟩
    rw [take_drop_cons L i (by omega) (by omega), lrun_cons hR]
    rw [hR] at ev hv
    simp only at hv
    refine Loops.Ev.succ ?_
    simp only [spec_RunLine.l0, if_pos (show (i : Int) < (L.length : Int) by omega), decide_eq_true (show (i : Int) < 200 by omega)]
    refine Loops.Ev.succ ?_
    simp only [spec_RunLine.j1, if_true, if_pos (show (i : Int) < (L.length : Int) by omega), if_pos (show 0 ≤ (i : Int) by omega)]
    refine Ev.bind ev ?_
    cases ok with
    | true =>
      simp only [if_true]
      rw [Loops.wrap_succ (show i < L.length by omega) (by omega)]
      exact ih (i + 1) (by omega) s2 n2 I2 O2 w2 st2 (wrap64 (c + 1)) hv.1 hv.2
    | false =>
      simp only [Bool.false_eq_true, if_false]
      rw [Loops.wrap_succ (show i < L.length by omega) (by omega)]
      exact ih (i + 1) (by omega) s2 n2 I2 O2 w2 st2 c hv.1 hv.2
theorem srunline_eq (s n : Int) (I O : List Int) (w : Int) (st : Bool) (L : List Int) (hI : I.length ≤ 1048576) (hO : O.length ≤ 1048576) (hL : L.length ≤ 1048576) : Ev (fun k => spec_RunLine.f k s n I O w st L) (lrun (L.take 200) s n I O w st 0) := by
  unfold spec_RunLine.f
  simp only [scopyLine_eq s n I O w st hI hO, Option.bind_some]
  have key := srun_all L hL (L.take 200).length 0 (by omega) s n I O w st 0 hI hO
  rw [List.drop_zero] at key
  exact key
theorem FnExactRunLine : ∀ (a0_0 : Int) (a0_1 : Int) (l0_2 : List Int) (l0_3 : List Int) (a0_4 : Int) (a0_5 : Bool) (l1 : List Int), ((Lit.int .i64 a0_0).wf = true) → ((Lit.int .i64 a0_1).wf = true) → (l0_2.length ≤ maxLen ∧ ∀ x ∈ l0_2, (Lit.int .i64 x).wf = true) → (l0_3.length ≤ maxLen ∧ ∀ x ∈ l0_3, (Lit.int .i64 x).wf = true) → ((Lit.int .i64 a0_4).wf = true) → (l1.length ≤ maxLen ∧ ∀ x ∈ l1, (Lit.int .i64 x).wf = true) → ∃ k, laws_FnExactRunLine.f k a0_0 a0_1 l0_2 l0_3 a0_4 a0_5 l1 = some true := by
  intro s n A B w st L _ _ ⟨hA, _⟩ ⟨hB, _⟩ _ _
  have e : maxLen = 9223372036854775807 := by decide
  rw [e] at hA hB
  refine Ev.rounds ?_
  unfold laws_FnExactRunLine.f
  by_cases hL : (L.length : Int) > 1048576
  · simp only [if_pos hL]; exact Ev.now _
  simp only [if_neg hL]
  obtain ⟨t, ht, hs⟩ := szLine_eq s n A B w st hA hB
  simp only [ht, Option.bind_some]
  by_cases h : t < 0
  · simp only [if_pos h]; exact Ev.now _
  obtain ⟨hA, hB⟩ := hs (by omega)
  simp only [if_neg h]
  have tl := toLine_eq s n A B w st hA hB
  have ti := toIntS_eq L (by omega)
  have es := srunline_eq s n A B w st L hA hB (by omega)
  have ei := irunline_eq s n A B w st L hA hB (by omega)
  have hlen := lrun_len (L.take 200) s n A B w st 0 hA hB
  obtain ⟨⟨s2, n2, I2, O2, w2, st2, c⟩, hR⟩ : ∃ R, lrun (L.take 200) s n A B w st 0 = R := ⟨_, rfl⟩
  rw [hR] at es ei hlen
  simp only at hlen
  have eq := eqLineB_eq s2 n2 I2 O2 w2 st2 (by omega) (by omega)
  refine Ev.bind tl (Ev.bind ti (Ev.bind es (Ev.bind tl (Ev.bind ti (Ev.bind ei (Ev.bind eq ?_))))))
  simp only [if_true, bne_self_eq_false]
  refine Loops.Ev.succ ?_
  simp only [laws_FnExactRunLine.j0, Bool.false_eq_true, if_false]
  refine Ev.bind tl (Ev.bind (eqLineB_eq s n A B w st (by omega) (by omega)) ?_)
  simp only [if_true]
  refine Ev.bind ti (Ev.bind (eqIntS_eq L (by omega)) ?_)
  simp only [if_true]
  refine Ev.bind (markLineB_eq s n A B w st (by omega) (by omega)) ?_
  refine Ev.bind (markIntS_eq L (1 + A.length + B.length) (by omega) (by omega) (by omega)) ?_
  simp only [if_neg (show ¬ (1 : Int) + (A.length : Int) + (B.length : Int) + (L.length : Int) < 0 by omega)]
  refine Ev.bind eq ?_
  simp only [if_true, bne_self_eq_false]
  refine Loops.Ev.succ ?_
  simp only [laws_FnExactRunLine.j1, Bool.false_eq_true, if_false]
  refine Ev.bind (markLineB_eq s2 n2 I2 O2 w2 st2 (by omega) (by omega)) ?_
  refine Ev.bind (heldLineB_eq s2 n2 I2.length O2.length w2 st2 (by omega) (by omega)) ?_
  simp only [if_neg (show ¬ (1 : Int) + (I2.length : Int) + (O2.length : Int) < 0 by omega), if_true]
  refine Ev.bind tl (Ev.bind ti (Ev.bind ei (Ev.bind eq ?_)))
  simp only [if_true, bne_self_eq_false]
  refine Loops.Ev.succ ?_
  simp only [laws_FnExactRunLine.j2, Bool.false_eq_true, if_false]
  refine Ev.bind (heldLineB_eq s2 n2 I2.length O2.length w2 st2 (by omega) (by omega)) ?_
  simp only [if_neg (show ¬ (1 : Int) + (I2.length : Int) + (O2.length : Int) < 0 by omega), if_true]
  exact Ev.now _

end Go.Proofs.Ytomhhbnnmjgcgaa.Pure
