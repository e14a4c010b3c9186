/- The pure part of FnDelivered: over numbers and lists alone. No condition beyond the numbers' own kinds. -/
import Derived.Test.YtomhhbnnmjgcgaaQFnDelivered6
import Derived.Test.YtomhhbnnmjgcgaaLot
import Derived.Test.YtomhhbnnmjgcgaaDraw
namespace Go.Proofs.Ytomhhbnnmjgcgaa.Pure
open Go.RowKit Go.Proofs.Ytomhhbnnmjgcgaa.PFnDelivered Go.Proofs.YtomhhbnnmjgcgaaW.PrintWords Go.Proofs.YtomhhbnnmjgcgaaW.PrintLast Go.Proofs.YtomhhbnnmjgcgaaW.PrintMore
set_option linter.unusedVariables false
set_option linter.unusedSimpArgs false

theorem byte_some (b : List Int) (hb : b.length ≤ 1048576) (i h : Int) (hi : 0 ≤ i) : ∃ x i2 h2, spec_l01Byte.f b i h = some (x, i2, h2) ∧ 0 ≤ x ∧ x ≤ 255 ∧ 0 ≤ i2 := by
  unfold spec_l01Byte.f
  by_cases hl : i < (b.length : Int)
  · rw [if_pos hl, if_pos hi, show wrap64 (i + 1) = i + 1 from Loops.wrap_in (by omega) (by omega)]
    exact ⟨_, _, _, rfl, (Draw.and255 _).1, (Draw.and255 _).2, by omega⟩
  · rw [if_neg hl]
    exact ⟨_, _, _, rfl, (Draw.and255 _).1, (Draw.and255 _).2, hi⟩
theorem below_some (b : List Int) (hb : b.length ≤ 1048576) (i h n : Int) (hi : 0 ≤ i) (hn : 0 < n) : ∃ x i2 h2, spec_l01Below.f b i h n = some (x, i2, h2) ∧ 0 ≤ x ∧ x < n ∧ 0 ≤ i2 := by
  unfold spec_l01Below.f
  rw [if_neg (by omega)]
  by_cases h8 : n ≤ 256
  · rw [if_pos h8]
    obtain ⟨x, i2, h2, e, hx0, hx1, hi2⟩ := byte_some b hb i h hi
    rw [e]
    simp only [Option.bind_some]
    rw [if_neg (by omega)]
    refine ⟨_, _, _, rfl, Int.tmod_nonneg _ hx0, Int.tmod_lt_of_pos _ hn, hi2⟩
  · rw [if_neg h8]
    obtain ⟨x, i2, h2, e, hx0, hx1, hi2⟩ := byte_some b hb i h hi
    rw [e]
    simp only [Option.bind_some]
    obtain ⟨y, i3, h3, e3, hy0, hy1, hi3⟩ := byte_some b hb i2 h2 hi2
    rw [e3]
    simp only [Option.bind_some]
    obtain ⟨z, i4, h4, e4, hz0, hz1, hi4⟩ := byte_some b hb i3 h3 hi3
    rw [e4]
    simp only [Option.bind_some]
    obtain ⟨w, i5, h5, e5, hw0, hw1, hi5⟩ := byte_some b hb i4 h4 hi4
    rw [e5]
    simp only [Option.bind_some]
    rw [if_neg (by omega)]
    refine ⟨_, _, _, rfl, Int.tmod_nonneg _ ?_, Int.tmod_lt_of_pos _ hn, hi5⟩
    unfold wrap64
    omega
theorem new_some (b : List Int) (hb : b.length ≤ 1048576) : ∃ h, Ev (fun k => spec_l01New.f k b) (b, 0, h) := by
  have key : ∀ (d : Nat) (i h : Int), 0 ≤ i → 4000 - i ≤ d → ∃ h2, Ev (fun k => spec_l01New.l0 k b h i) (b, 0, h2) := by
    intro d
    induction d with
    | zero =>
      intro i h h0 hd
      refine ⟨h, Loops.Ev.one (fun k => ?_)⟩
      simp only [spec_l01New.l0]
      by_cases hl : i < (b.length : Int)
      · rw [if_pos hl, if_neg (by omega)]
      · rw [if_neg hl]
    | succ d ih =>
      intro i h h0 hd
      by_cases hl : i < (b.length : Int) ∧ i < 4000
      · obtain ⟨h2, e⟩ := ih (i + 1) (Go.bits .and .i64 (wrap64 ((wrap64 ((wrap64 (h * 131)) + (wrap64 (rd b i)))) + 7)) 1073741823) (by omega) (by omega)
        refine ⟨h2, Ev.step (fun k => ?_) e⟩
        simp only [spec_l01New.l0]
        rw [if_pos hl.1, if_pos hl.2, if_pos h0, show wrap64 (i + 1) = i + 1 from Loops.wrap_in (by omega) (by omega)]
      · refine ⟨h, Loops.Ev.one (fun k => ?_)⟩
        simp only [spec_l01New.l0]
        by_cases hl1 : i < (b.length : Int)
        · rw [if_pos hl1, if_neg (by omega)]
        · rw [if_neg hl1]
  obtain ⟨h2, e⟩ := key 4000 0 (wrap64 (98729 + (b.length : Int))) (by omega) (by omega)
  exact ⟨h2, e⟩
theorem pick_some (b : List Int) (hb : b.length ≤ 1048576) (i h : Int) (hi : 0 ≤ i) (l : List Int) (h0 : 0 < l.length) (h1 : l.length ≤ 256) : ∃ x i2 h2, spec_l01PickInt.f b i h l = some (x, i2, h2) ∧ 0 ≤ i2 := by
  unfold spec_l01PickInt.f
  obtain ⟨x, i2, h2, e, hx0, hx1, hi2⟩ := below_some b hb i h (l.length : Int) hi (by omega)
  rw [e]
  simp only [Option.bind_some]
  rw [if_pos hx0, if_pos hx1]
  exact ⟨_, _, _, rfl, hi2⟩
theorem acts_loop (b : List Int) (hb : b.length ≤ 1048576) (n : Int) (hn : n ≤ 1000) : ∀ (d : Nat) (L : List Int) (i h : Int), 0 ≤ i → n - L.length ≤ d → ∃ M j h2, Ev (fun k => spec_l37Acts.l0 k L n (L.length : Int) b i h) (M, j, h2) ∧ (M.length : Int) ≤ mx n L.length ∧ 0 ≤ j := by
  intro d
  induction d with
  | zero =>
    intro L i h hi hd
    refine ⟨L, i, h, Loops.Ev.one (fun k => ?_), by unfold mx; split <;> omega, hi⟩
    simp only [spec_l37Acts.l0]
    rw [if_neg (by omega)]
  | succ d ih =>
    intro L i h hi hd
    by_cases hl : (L.length : Int) < n
    · obtain ⟨x, i2, h2, e, hi2⟩ := pick_some b hb i h hi [1, 1, 1, 2, 2, 3, 4, 5, 5] (by simp) (by simp)
      obtain ⟨M, j, h3, ev, hM, hj⟩ := ih (L ++ [x]) i2 h2 hi2 (by simp; omega)
      refine ⟨M, j, h3, Ev.step (fun k => ?_) ev, ?_, hj⟩
      · simp only [spec_l37Acts.l0]
        rw [if_pos hl, e]
        simp only [Option.bind_some]
        rw [if_pos (by omega), show wrap64 ((L.length : Int) + 1) = ((L ++ [x]).length : Int) by simp; exact Loops.wrap_in (by omega) (by omega)]
      · simp only [List.length_append, List.length_cons, List.length_nil] at hM
        unfold mx at hM ⊢
        split at hM <;> split <;> omega
    · refine ⟨L, i, h, Loops.Ev.one (fun k => ?_), by unfold mx; split <;> omega, hi⟩
      simp only [spec_l37Acts.l0]
      rw [if_neg (by omega)]
theorem drawLine_some (b : List Int) (hb : b.length ≤ 1048576) : ∃ n M, Ev (fun k => spec_DrawLine.f k b) (n, M) ∧ 0 ≤ n ∧ n < 14 ∧ M.length ≤ 1000 := by
  unfold spec_DrawLine.f
  obtain ⟨h0, e0⟩ := new_some b hb
  obtain ⟨n, i2, h2, e, hn0, hn1, hi2⟩ := below_some b hb 0 h0 14 (by omega) (by omega)
  obtain ⟨m, i3, h3, e3, hm0, hm1, hi3⟩ := below_some b hb i2 h2 40 hi2 (by omega)
  obtain ⟨M, j, h4, ev, hM, hj⟩ := acts_loop b hb m (by omega) 40 [] i3 h3 hi3 (by simp; omega)
  refine ⟨n, M, Ev.bind e0 ?_, hn0, hn1, by simp only [List.length_nil] at hM; unfold mx at hM; split at hM <;> omega⟩
  simp only [e, Option.bind_some]
  have hacts : Ev (fun k => spec_l37Acts.f k b i2 h2 40) (M, j, h4) := by
    unfold spec_l37Acts.f
    simp only [e3, Option.bind_some]
    exact ev
  exact Ev.bind hacts (Ev.now _)
theorem within_eq (a b c : Int) : impl_within.f a b c = some (decide (b ≤ a ∧ a ≤ c)) := by
  unfold impl_within.f
  by_cases h : a ≥ b
  · rw [if_pos h]; congr 1; simp; omega
  · rw [if_neg h]; congr 1; simp; omega
def seqB : Int → List Int → Bool
  | _, [] => true
  | a, x :: xs => decide (x = a) && seqB (a + 1) xs
theorem seqB_append (l m : List Int) : ∀ a, seqB a (l ++ m) = (seqB a l && seqB (a + l.length) m) := by
  induction l with
  | nil => intro a; simp [seqB]
  | cons x xs ih =>
    intro a
    simp only [List.cons_append, seqB, ih, Bool.and_assoc, List.length_cons]
    rw [show a + 1 + (xs.length : Int) = a + ((xs.length + 1 : Nat) : Int) by omega]
theorem seq_loop {G : Nat → Int → Option Bool} {r : Bool} (l : List Int) (a : Int) (hl : l.length ≤ 9223372036854775807)
    (hG : ∀ k (i : Nat), i < l.length → G (k + 1) (i : Int) = if l.getD i 0 = a + i then G k (wrap64 ((i : Int) + 1)) else some false)
    (fin : Ev (fun k => G k (l.length : Int)) r) : Ev (fun k => G k 0) (seqB a l && r) := by
  have key := Loops.back_loop (G := fun k i (_ : Unit) => G k i) (fun i _ => seqB (a + i) (l.drop i) && r) l.length (fun i _ hi ih => by
    rw [Loops.drop_cons_getD l 0 i hi]
    by_cases h : l.getD i 0 = a + i
    · refine Ev.step (f := fun k => G k ((i + 1 : Nat) : Int)) (fun k => by rw [hG k i hi, if_pos h, Loops.wrap_succ hi hl]) ?_
      simp only [seqB, decide_eq_true h, Bool.true_and]
      rw [show a + (i : Int) + 1 = a + ((i + 1 : Nat) : Int) by omega]
      exact ih ()
    · refine Loops.Ev.one (fun k => ?_)
      rw [hG k i hi, if_neg h]
      simp only [seqB, decide_eq_false h, Bool.false_and]) (fun _ => by simpa [seqB] using fin) ()
  simpa using key
theorem concat_eq (A B : List Int) (hA : A.length ≤ 1048576) (hB : B.length ≤ 1048576) : Ev (fun k => slices_Concat_int_int.f k [A, B]) (A ++ B) := by
  refine ⟨6, fun k hk => ?_⟩
  obtain ⟨k, rfl⟩ : ∃ j, k = j + 6 := ⟨k - 6, by omega⟩
  have w1 : wrap64 (0 + 1) = 1 := by unfold wrap64; omega
  have w2 : wrap64 (1 + 1) = 2 := by unfold wrap64; omega
  have hl : (([A, B].length : Nat) : Int) = 2 := rfl
  have e0 : rd_L2 [A, B] 0 = A := rfl
  have e1 : rd_L2 [A, B] 1 = B := rfl
  have wA : wrap64 (0 + (A.length : Int)) = A.length := by unfold wrap64; omega
  have wB : wrap64 ((A.length : Int) + (B.length : Int)) = A.length + B.length := by unfold wrap64; omega
  unfold slices_Concat_int_int.f
  show slices_Concat_int_int.l0 (k + 5 + 1) [A, B] 0 [A, B] (([A, B].length : Nat) : Int) 0 = _
  rw [slices_Concat_int_int.l0, hl, if_pos (by omega), if_pos (by omega), if_pos (by omega), e0, wA, if_neg (by omega), w1]
  show slices_Concat_int_int.l0 (k + 4 + 1) [A, B] (A.length : Int) [A, B] 2 1 = _
  rw [slices_Concat_int_int.l0, hl, if_pos (by omega), if_pos (by omega), if_pos (by omega), e1, wB, if_neg (by omega), w2]
  show slices_Concat_int_int.l0 (k + 3 + 1) [A, B] ((A.length : Int) + B.length) [A, B] 2 2 = _
  rw [slices_Concat_int_int.l0, hl, if_neg (by omega), if_neg (by omega), if_neg (by omega)]
  show slices_Concat_int_int.l1 (k + 2 + 1) [] [A, B] 2 0 = _
  rw [slices_Concat_int_int.l1, hl, if_pos (by omega), if_pos (by omega), if_pos (by omega), e0, if_pos (by simp; omega), w1, List.nil_append]
  show slices_Concat_int_int.l1 (k + 1 + 1) A [A, B] 2 1 = _
  rw [slices_Concat_int_int.l1, hl, if_pos (by omega), if_pos (by omega), if_pos (by omega), e1, if_pos (by omega), w2]
  show slices_Concat_int_int.l1 (k + 1) (A ++ B) [A, B] 2 2 = _
  rw [slices_Concat_int_int.l1, if_neg (by omega)]
def lineOk (s n : Int) (A B : List Int) (w : Int) : Bool := decide (((0 ≤ s ∧ s ≤ 40) ∧ n ≤ s) ∧ (A.length : Int) ≤ 5 ∧ (0 ≤ w ∧ w ≤ 100000) ∧ (B.length : Int) + A.length = n) && seqB 0 (B ++ A)
theorem iline_eq (s n : Int) (A B : List Int) (w : Int) (st : Bool) (hA : A.length ≤ 1048576) (hB : B.length ≤ 1048576) : Ev (fun k => impl_LineOk.f k s n A B w st) (lineOk s n A B w) := by
  have jt : Ev (fun k => impl_LineOk.j0 k true s n A B w st) false := Loops.Ev.one (fun k => by simp only [impl_LineOk.j0, if_true])
  have jf : Ev (fun k => impl_LineOk.j0 k false s n A B w st) (seqB 0 (B ++ A)) := by
    refine Loops.Ev.succ ?_
    simp only [impl_LineOk.j0, Bool.false_eq_true, if_false]
    refine (Ev.bind (concat_eq B A hB hA) ?_)
    have key := seq_loop (G := fun k i => impl_LineOk.l0 k (B ++ A) ((B ++ A).length : Int) i) (r := true) (B ++ A) 0 (by simp; omega) (fun k i hi => by
      simp only [impl_LineOk.l0]
      rw [if_pos (by omega), if_pos (by omega), if_pos (by omega), Loops.rd_nat, Int.zero_add]) (Loops.Ev.one (fun k => by
      simp only [impl_LineOk.l0]
      rw [if_neg (by omega)]))
    simpa using key
  unfold impl_LineOk.f lineOk
  simp only [within_eq, Option.bind_some, decide_eq_true_eq]
  by_cases h1 : 0 ≤ s ∧ s ≤ 40
  · simp only [if_pos h1]
    by_cases h2 : n > s
    · simp only [if_pos h2]
      exact Loops.Ev.eq jt (by rw [decide_eq_false (by omega)]; rfl)
    · simp only [if_neg h2]
      by_cases h3 : (A.length : Int) > 5
      · simp only [if_pos h3]
        exact Loops.Ev.eq jt (by rw [decide_eq_false (by omega)]; rfl)
      · simp only [if_neg h3]
        by_cases h4 : 0 ≤ w ∧ w ≤ 100000
        · simp only [if_pos h4]
          rw [Loops.wrap_in (show -9223372036854775808 ≤ (B.length : Int) + (A.length : Int) by omega) (by omega)]
          by_cases h5 : (B.length : Int) + A.length = n
          · rw [show ((B.length : Int) + (A.length : Int) != n) = false by simp [h5], decide_eq_true (by omega), Bool.true_and]
            exact jf
          · rw [show ((B.length : Int) + (A.length : Int) != n) = true by simp [h5]]
            exact Loops.Ev.eq jt (by rw [decide_eq_false (by omega)]; rfl)
        · simp only [if_neg h4]
          exact Loops.Ev.eq jt (by rw [decide_eq_false (by omega)]; rfl)
  · simp only [if_neg h1]
    exact Loops.Ev.eq jt (by rw [decide_eq_false (by omega)]; rfl)
def newLine (a : Int) : Int × Int × List Int × List Int × Int × Bool × Bool := if 0 ≤ a ∧ a ≤ 40 then (a, 0, [], [], 0, false, true) else (0, 0, [], [], 0, false, false)
theorem inew_eq (a : Int) : impl_NewLine.f a = some (newLine a) := by
  unfold impl_NewLine.f newLine
  rw [within_eq]
  by_cases h : 0 ≤ a ∧ a ≤ 40 <;> simp [h]
theorem clone_eq (l : List Int) (hl : l.length ≤ 1048576) : slices_Clone_int_int.f l = some l := by
  unfold slices_Clone_int_int.f
  simp only [Option.bind_some, List.length_nil, List.nil_append]
  rw [if_pos (by omega)]
theorem copyLine_eq (s n : Int) (I O : List Int) (w : Int) (st : Bool) (hI : I.length ≤ 1048576) (hO : O.length ≤ 1048576) : impl_copyLine.f s n I O w st = some (s, n, I, O, w, st) := by
  unfold impl_copyLine.f
  simp only [clone_eq I hI, clone_eq O hO, Option.bind_some]
def lstep (s n : Int) (I O : List Int) (w : Int) (st : Bool) (a : Int) : Int × Int × List Int × List Int × Int × Bool × Bool :=
  if lineOk s n I O w = true then
    (if a = 1 then (if (I.length : Int) ≥ 5 then (s, n, I, O, w, st, false) else if n ≥ s then (s, n, I, O, w, st, false) else if st = true then (s, n, I, O, w, st, false) else (s, n + 1, I ++ [n], O, w, st, true))
    else if a = 2 then (if (I.length : Int) = 0 then (s, n, I, O, w, st, false) else if st = true then (s, n, I, O, w, st, false) else (s, n, I.drop 1, O ++ [rd I 0], w, st, true))
    else if a = 3 then (s, (O.length : Int), [], O, mn 100000 (w + I.length), true, true)
    else if a = 4 then (s, n, I, O, w, true, true)
    else if a = 5 then (s, n, I, O, w, false, true)
    else (s, n, I, O, w, st, false))
  else (s, n, I, O, w, st, false)
theorem lineOk_parts {s n : Int} {I O : List Int} {w : Int} (h : lineOk s n I O w = true) : ((0 ≤ s ∧ s ≤ 40) ∧ n ≤ s) ∧ (I.length : Int) ≤ 5 ∧ (0 ≤ w ∧ w ≤ 100000) ∧ (O.length : Int) + I.length = n := by
  simp only [lineOk, Bool.and_eq_true, decide_eq_true_eq] at h
  exact h.1
theorem lineOk_seq {s n : Int} {I O : List Int} {w : Int} (h : lineOk s n I O w = true) : seqB 0 (O ++ I) = true := by
  simp only [lineOk, Bool.and_eq_true] at h
  exact h.2
theorem lineOk_mk {s n : Int} {I O : List Int} {w : Int} (h : ((0 ≤ s ∧ s ≤ 40) ∧ n ≤ s) ∧ (I.length : Int) ≤ 5 ∧ (0 ≤ w ∧ w ≤ 100000) ∧ (O.length : Int) + I.length = n) (h2 : seqB 0 (O ++ I) = true) : lineOk s n I O w = true := by
  unfold lineOk
  rw [decide_eq_true h, h2]
  rfl
theorem istep_eq (s n : Int) (I O : List Int) (w : Int) (st : Bool) (a : Int) (hI : I.length ≤ 1048576) (hO : O.length ≤ 1048576) : Ev (fun k => impl_LineStep.f k s n I O w st a) (lstep s n I O w st a) := by
  unfold impl_LineStep.f lstep
  simp only [copyLine_eq s n I O w st hI hO, Option.bind_some]
  refine Ev.bind (iline_eq s n I O w st hI hO) ?_
  by_cases hl : lineOk s n I O w = true
  · simp only [if_pos hl]
    have hp := lineOk_parts hl
    by_cases h1 : a = 1
    · simp only [if_pos h1]
      by_cases h2 : (I.length : Int) ≥ 5
      · simp only [if_pos h2]; exact Ev.now _
      simp only [if_neg h2]
      by_cases h3 : n ≥ s
      · simp only [if_pos h3]; exact Ev.now _
      simp only [if_neg h3]
      by_cases h4 : st = true
      · simp only [if_pos h4]; exact Ev.now _
      simp only [if_neg h4, if_pos (show I.length < 17592186044416 by omega)]
      rw [Loops.wrap_in (show -9223372036854775808 ≤ n + 1 by omega) (by omega)]
      exact Ev.now _
    simp only [if_neg h1]
    by_cases h1 : a = 2
    · simp only [if_pos h1]
      by_cases h2 : (I.length : Int) = 0
      · simp only [if_pos h2]; exact Ev.now _
      simp only [if_neg h2]
      by_cases h4 : st = true
      · simp only [if_pos h4]; exact Ev.now _
      simp only [if_neg h4, if_pos (show 0 < (I.length : Int) by omega), if_pos (show O.length < 17592186044416 by omega), if_pos (show 1 ≤ (I.length : Int) by omega)]
      exact Ev.now _
    simp only [if_neg h1]
    by_cases h1 : a = 3
    · simp only [if_pos h1]
      rw [Loops.wrap_in (show -9223372036854775808 ≤ w + (I.length : Int) by omega) (by omega)]
      exact Ev.now _
    simp only [if_neg h1]
    by_cases h1 : a = 4
    · simp only [if_pos h1]; exact Ev.now _
    simp only [if_neg h1]
    by_cases h1 : a = 5
    · simp only [if_pos h1]; exact Ev.now _
    simp only [if_neg h1]; exact Ev.now _
  · simp only [if_neg hl]; exact Ev.now _
/-- A step that is taken leads from a good line to a good one. -/
theorem lstep_good (s n : Int) (I O : List Int) (w : Int) (st : Bool) (a : Int) (hl : lineOk s n I O w = true) : ∃ n2 I2 O2 w2 st2 ok, lstep s n I O w st a = (s, n2, I2, O2, w2, st2, ok) ∧ lineOk s n2 I2 O2 w2 = true ∧ w2 ≤ w + 5 := by
  have hp := lineOk_parts hl
  have hs := lineOk_seq hl
  unfold lstep
  rw [if_pos hl]
  split
  · split
    · exact ⟨_, _, _, _, _, _, rfl, hl, by omega⟩
    split
    · exact ⟨_, _, _, _, _, _, rfl, hl, by omega⟩
    split
    · exact ⟨_, _, _, _, _, _, rfl, hl, by omega⟩
    refine ⟨_, _, _, _, _, _, rfl, lineOk_mk ⟨by omega, by simp; omega, by omega, by simp; omega⟩ ?_, by omega⟩
    rw [← List.append_assoc, seqB_append, hs, Bool.true_and]
    simp only [seqB, Bool.and_true, decide_eq_true_eq, List.length_append]
    omega
  split
  · split
    · exact ⟨_, _, _, _, _, _, rfl, hl, by omega⟩
    split
    · exact ⟨_, _, _, _, _, _, rfl, hl, by omega⟩
    rename_i hne _
    cases I with
    | nil => exact absurd rfl hne
    | cons x xs =>
      refine ⟨_, _, _, _, _, _, rfl, lineOk_mk ⟨by omega, ?_, by omega, ?_⟩ ?_, by omega⟩
      · simp at hp ⊢; omega
      · simp at hp ⊢; omega
      · have e : (O ++ [rd (x :: xs) 0]) ++ List.drop 1 (x :: xs) = O ++ (x :: xs) := by simp [rd]
        rw [e]; exact hs
  split
  · refine ⟨_, _, _, _, _, _, rfl, lineOk_mk ⟨by omega, by simp, by unfold mn; split <;> omega, by simp⟩ ?_, by unfold mn; split <;> omega⟩
    rw [List.append_nil]
    rw [seqB_append, Bool.and_eq_true] at hs
    exact hs.1
  split
  · exact ⟨_, _, _, _, _, _, rfl, hl, by omega⟩
  split
  · exact ⟨_, _, _, _, _, _, rfl, hl, by omega⟩
  exact ⟨_, _, _, _, _, _, rfl, hl, by omega⟩
theorem good_len {s n : Int} {I O : List Int} {w : Int} (h : lineOk s n I O w = true) : I.length ≤ 1048576 ∧ O.length ≤ 1048576 := by
  have := lineOk_parts h
  omega
theorem irun_some (L : List Int) (hL : L.length ≤ 200) (s : Int) : ∀ (m i : Nat), i + m = L.length → ∀ (c n : Int) (I O : List Int) (w : Int) (st : Bool), lineOk s n I O w = true → w ≤ 5 * i → ∃ n2 I2 O2 w2 st2 c2, Ev (fun k => impl_RunLine.l0 k c L (L.length : Int) (i : Int) s n I O w st) (s, n2, I2, O2, w2, st2, c2) ∧ lineOk s n2 I2 O2 w2 = true ∧ w2 ≤ 1000 := by
  intro m
  induction m with
  | zero =>
    intro i hi c n I O w st hl hw
    obtain rfl : i = L.length := by omega
    refine ⟨n, I, O, w, st, c, Loops.Ev.one (fun k => ?_), hl, by omega⟩
    simp only [impl_RunLine.l0]
    rw [if_neg (by omega)]
  | succ m ih =>
    intro i hi c n I O w st hl hw
    have hg := good_len hl
    obtain ⟨n2, I2, O2, w2, st2, ok, e, hl2, hw2⟩ := lstep_good s n I O w st (rd L (i : Int)) hl
    have ev := istep_eq s n I O w st (rd L (i : Int)) hg.1 hg.2
    rw [e] at ev
    cases ok with
    | true =>
      obtain ⟨n3, I3, O3, w3, st3, c3, ev3, h3⟩ := ih (i + 1) (by omega) (wrap64 (c + 1)) n2 I2 O2 w2 st2 hl2 (by omega)
      refine ⟨n3, I3, O3, w3, st3, c3, Loops.Ev.succ ?_, h3⟩
      simp only [impl_RunLine.l0, if_pos (show (i : Int) < (L.length : Int) by omega), if_pos (show 0 ≤ (i : Int) by omega)]
      refine Ev.bind ev ?_
      simp only [if_true]
      rw [Loops.wrap_succ (show i < L.length by omega) (by omega)]
      exact ev3
    | false =>
      obtain ⟨n3, I3, O3, w3, st3, c3, ev3, h3⟩ := ih (i + 1) (by omega) c n I O w st hl (by omega)
      refine ⟨n3, I3, O3, w3, st3, c3, Loops.Ev.succ ?_, h3⟩
      simp only [impl_RunLine.l0, if_pos (show (i : Int) < (L.length : Int) by omega), if_pos (show 0 ≤ (i : Int) by omega)]
      refine Ev.bind ev ?_
      simp only [Bool.false_eq_true, if_false]
      rw [Loops.wrap_succ (show i < L.length by omega) (by omega)]
      exact ev3
theorem seqB_get : ∀ (l : List Int) (a : Int), seqB a l = true → ∀ i, i < l.length → l.getD i 0 = a + i := by
  intro l
  induction l with
  | nil => intro a _ i hi; exact absurd hi (by simp)
  | cons x xs ih =>
    intro a h i hi
    simp only [seqB, Bool.and_eq_true, decide_eq_true_eq] at h
    cases i with
    | zero => simp; exact h.1
    | succ i =>
      have := ih (a + 1) h.2 i (by simpa using hi)
      simp only [List.getD_cons_succ, this]
      omega
theorem feed_ok {s n : Int} {I O : List Int} {w : Int} (hl : lineOk s n I O w = true) (h : (I.length : Int) < 5 ∧ n < s) : lstep s n I O w false 1 = (s, n + 1, I ++ [n], O, w, false, true) := by
  unfold lstep
  rw [if_pos hl, if_pos rfl, if_neg (by omega), if_neg (by omega), if_neg (by simp)]
theorem feed_no {s n : Int} {I O : List Int} {w : Int} (hl : lineOk s n I O w = true) (h : ¬ ((I.length : Int) < 5 ∧ n < s)) : lstep s n I O w false 1 = (s, n, I, O, w, false, false) := by
  unfold lstep
  rw [if_pos hl, if_pos rfl]
  by_cases h5 : (I.length : Int) ≥ 5
  · rw [if_pos h5]
  · rw [if_neg h5, if_pos (by omega)]
theorem move_ok {s n : Int} {I O : List Int} {w : Int} (hl : lineOk s n I O w = true) (h : ¬ (I.length : Int) = 0) : lstep s n I O w false 2 = (s, n, I.drop 1, O ++ [rd I 0], w, false, true) := by
  unfold lstep
  rw [if_pos hl, if_neg (by omega), if_pos rfl, if_neg h, if_neg (by simp)]
theorem move_no {s n : Int} {I O : List Int} {w : Int} (hl : lineOk s n I O w = true) (h : (I.length : Int) = 0) : lstep s n I O w false 2 = (s, n, I, O, w, false, false) := by
  unfold lstep
  rw [if_pos hl, if_neg (by omega), if_pos rfl, if_pos h]
theorem good_after {s n : Int} {I O : List Int} {w : Int} {st : Bool} {a n2 : Int} {I2 O2 : List Int} {w2 : Int} {st2 ok : Bool} (hl : lineOk s n I O w = true) (e : lstep s n I O w st a = (s, n2, I2, O2, w2, st2, ok)) : lineOk s n2 I2 O2 w2 = true := by
  obtain ⟨n3, I3, O3, w3, st3, ok3, e3, h3, _⟩ := lstep_good s n I O w st a hl
  have h := e3.symm.trans e
  simp only [Prod.mk.injEq] at h
  obtain ⟨_, rfl, rfl, rfl, rfl, _⟩ := h
  exact h3
theorem fin_l1 (s : Int) (w : Int) : ∀ (d : Nat) (c : Bool) (n : Int) (I O : List Int), lineOk s n I O w = true → 2 * ((s - n) + (s - O.length)) + (if c = true then 1 else 0) < d → ∃ O2, Ev (fun k => impl_FinishLine.l1 k c s n I O w false) (s, s, [], O2, w, false) ∧ lineOk s s [] O2 w = true := by
  intro d
  induction d with
  | zero =>
    intro c n I O hl hd
    have hp := lineOk_parts hl
    split at hd <;> omega
  | succ d ih =>
    intro c n I O hl hd
    have hp := lineOk_parts hl
    have hg := good_len hl
    by_cases hf : (I.length : Int) < 5 ∧ n < s
    · have e := feed_ok hl hf
      have ev := istep_eq s n I O w false 1 hg.1 hg.2
      rw [e] at ev
      obtain ⟨O2, ev2, h2⟩ := ih true (n + 1) (I ++ [n]) O (good_after hl e) (by simp only [if_true]; split at hd <;> omega)
      refine ⟨O2, Loops.Ev.succ ?_, h2⟩
      simp only [impl_FinishLine.l1]
      refine Ev.bind ev ?_
      simp only [if_true]
      exact ev2
    · have e := feed_no hl hf
      have ev := istep_eq s n I O w false 1 hg.1 hg.2
      rw [e] at ev
      by_cases hm : (I.length : Int) = 0
      · have e2 := move_no hl hm
        have ev2 := istep_eq s n I O w false 2 hg.1 hg.2
        rw [e2] at ev2
        obtain rfl : I = [] := List.eq_nil_of_length_eq_zero (by omega)
        obtain rfl : n = s := by simp at hf hp; omega
        cases c with
        | true =>
          obtain ⟨O2, ev3, h3⟩ := ih false n [] O hl (by simp only [Bool.false_eq_true, if_false]; simp only [if_true] at hd; omega)
          refine ⟨O2, Loops.Ev.succ ?_, h3⟩
          simp only [impl_FinishLine.l1]
          refine Ev.bind ev ?_
          simp only [Bool.false_eq_true, if_false]
          refine Ev.bind ev2 ?_
          simp only [Bool.false_eq_true, if_false]
          refine Loops.Ev.succ ?_
          simp only [impl_FinishLine.l0, if_true]
          exact ev3
        | false =>
          refine ⟨O, Loops.Ev.succ ?_, hl⟩
          simp only [impl_FinishLine.l1]
          refine Ev.bind ev ?_
          simp only [Bool.false_eq_true, if_false]
          refine Ev.bind ev2 ?_
          simp only [Bool.false_eq_true, if_false]
          refine Loops.Ev.one (fun k => ?_)
          simp only [impl_FinishLine.l0, Bool.false_eq_true, if_false]
      · have e2 := move_ok hl hm
        have ev2 := istep_eq s n I O w false 2 hg.1 hg.2
        rw [e2] at ev2
        obtain ⟨O2, ev3, h3⟩ := ih false n (I.drop 1) (O ++ [rd I 0]) (good_after hl e2) (by simp only [Bool.false_eq_true, if_false, List.length_append, List.length_cons, List.length_nil]; split at hd <;> omega)
        refine ⟨O2, Loops.Ev.succ ?_, h3⟩
        simp only [impl_FinishLine.l1]
        refine Ev.bind ev ?_
        simp only [Bool.false_eq_true, if_false]
        refine Ev.bind ev2 ?_
        simp only [if_true]
        refine Loops.Ev.succ ?_
        simp only [impl_FinishLine.l0, if_true]
        exact ev3
theorem ifin_good (s n : Int) (I O : List Int) (w : Int) (st : Bool) (hl : lineOk s n I O w = true) : ∃ O2, Ev (fun k => impl_FinishLine.f k s n I O w st) (s, s, [], O2, w, false) ∧ lineOk s s [] O2 w = true := by
  have hp := lineOk_parts hl
  have hg := good_len hl
  obtain ⟨O2, ev, h2⟩ := fin_l1 s w 1000 false n I O hl (by simp only [Bool.false_eq_true, if_false]; omega)
  refine ⟨O2, ?_, h2⟩
  unfold impl_FinishLine.f
  have e : lstep s n I O w st 5 = (s, n, I, O, w, false, true) := by
    unfold lstep
    rw [if_pos hl, if_neg (by omega), if_neg (by omega), if_neg (by omega), if_neg (by omega), if_pos rfl]
  have eg := istep_eq s n I O w st 5 hg.1 hg.2
  rw [e] at eg
  refine Ev.bind eg (Loops.Ev.succ ?_)
  simp only [impl_FinishLine.l0, if_true]
  exact ev
theorem FnDelivered : ∀ (l0 : List Int), (l0.length ≤ maxLen ∧ ∀ x ∈ l0, (Lit.int .u8 x).wf = true) → ∃ k, laws_FnDelivered.f k l0 = some true := by
  intro b _
  refine Ev.rounds ?_
  unfold laws_FnDelivered.f laws_big.f
  simp only [Option.bind_some]
  by_cases hb : (b.length : Int) > 1048576
  · simp only [decide_eq_true hb, if_true]
    exact Ev.now _
  simp only [decide_eq_false hb, Bool.false_eq_true, if_false]
  obtain ⟨s, M, ev, hs0, hs1, hM⟩ := drawLine_some b (by omega)
  refine Ev.bind ev ?_
  have hnew : newLine s = (s, 0, [], [], 0, false, true) := by unfold newLine; rw [if_pos (by omega)]
  simp only [inew_eq, hnew, Option.bind_some]
  obtain ⟨T, hT⟩ : ∃ T, T = M.take ((mn (M.length : Int) 200) : Int).toNat := ⟨_, rfl⟩
  have hm0 : 0 ≤ mn (M.length : Int) 200 := by unfold mn; split <;> omega
  have hm1 : mn (M.length : Int) 200 ≤ (M.length : Int) := by unfold mn; split <;> omega
  have hm2 : mn (M.length : Int) 200 ≤ 200 := by unfold mn; split <;> omega
  have hTl : T.length ≤ 200 := by rw [hT, List.length_take]; omega
  have hl0 : lineOk s 0 [] [] 0 = true := lineOk_mk ⟨by omega, by simp, by omega, by simp⟩ rfl
  obtain ⟨n, I, O, w, st, c, evr, hl, hw⟩ := irun_some T hTl s T.length 0 (by omega) 0 0 [] [] 0 false hl0 (by omega)
  have hrun : Ev (fun k => impl_RunLine.f k s 0 [] [] 0 false M) (s, n, I, O, w, st, c) := by
    unfold impl_RunLine.f
    simp only [copyLine_eq s 0 [] [] 0 false (by simp) (by simp), Option.bind_some, if_pos hm0, if_pos hm1, ← hT]
    exact evr
  refine Ev.bind hrun ?_
  have hp := lineOk_parts hl
  have hg := good_len hl
  simp only [if_true]
  refine Ev.bind (iline_eq s n I O w st hg.1 hg.2) ?_
  simp only [hl, Bool.not_true]
  refine Loops.Ev.succ ?_
  simp only [laws_FnDelivered.j0, Bool.false_eq_true, if_false]
  have hO : seqB 0 O = true := by
    have h2 := lineOk_seq hl
    rw [seqB_append, Bool.and_eq_true] at h2
    exact h2.1
  obtain ⟨O2, evf, h2⟩ := ifin_good s n I O w st hl
  have hp2 := lineOk_parts h2
  have hg2 := good_len h2
  have hO2 : seqB 0 O2 = true := by
    have h3 := lineOk_seq h2
    rw [seqB_append, Bool.and_eq_true] at h3
    exact h3.1
  have hlen : (O2.length : Int) = s := by simp at hp2; omega
  refine Loops.up_loop (G := fun k i (_ : Unit) => laws_FnDelivered.l0 k s i s n I O w st) (fun _ => ()) O.length (fun k i hi => ?_) (Loops.Ev.succ ?_)
  · simp only [laws_FnDelivered.l0]
    rw [if_pos (by omega), if_pos (by omega), Loops.rd_nat, if_pos (by rw [seqB_get O 0 hO i hi]; omega), Loops.wrap_succ hi (by omega)]
  simp only [laws_FnDelivered.l0, if_neg (show ¬ ((O.length : Int) < (O.length : Int)) by omega)]
  refine Ev.bind evf ?_
  simp only [if_pos hlen]
  refine Loops.up_loop (G := fun k i (_ : Unit) => laws_FnDelivered.l1 k s i s n I O w st s s [] O2 w false) (fun _ => ()) O2.length (fun k i hi => ?_) (Loops.Ev.succ ?_)
  · simp only [laws_FnDelivered.l1]
    rw [if_pos (by omega), if_pos (by omega), if_pos (by omega), Loops.rd_nat, if_pos (by rw [seqB_get O2 0 hO2 i hi]; omega), Loops.wrap_succ hi (by omega)]
  simp only [laws_FnDelivered.l1, if_neg (show ¬ ((O2.length : Int) < s) by omega)]
  have hd : Ev (fun k => impl_IsDone.f k s s [] O2 w false) true := by
    unfold impl_IsDone.f
    refine Ev.bind (iline_eq s s [] O2 w false (by simp) hg2.2) ?_
    simp only [h2, if_true, hlen, beq_self_eq_true]
    exact Ev.now _
  refine Ev.bind hd ?_
  simp only [if_true, List.length_nil, Int.ofNat_zero, beq_self_eq_true]
  exact Ev.now _

end Go.Proofs.Ytomhhbnnmjgcgaa.Pure
