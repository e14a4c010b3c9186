/- The pure part of FnCopies: over numbers and lists alone. No condition beyond the numbers' own kinds. -/
import Derived.Test.YtjkhjfladhppkaaQFnCopies2
import Derived.Test.YtjkhjfladhppkaaLoops
import Derived.Test.YtjkhjfladhppkaaDraw
namespace Go.Proofs.Ytjkhjfladhppkaa.Pure
open Go.RowKit Go.Proofs.Ytjkhjfladhppkaa.PFnCopies Go.Proofs.YtjkhjfladhppkaaW.PrintWords Go.Proofs.YtjkhjfladhppkaaW.PrintLast Go.Proofs.YtjkhjfladhppkaaW.PrintMore
set_option linter.unusedVariables false
set_option linter.unusedSimpArgs false

theorem byte_some (b : List Int) (hb : b.length ≤ 1048576) (i h : Int) (hi : 0 ≤ i) : ∃ x i2 h2, spec_l01Byte.f b i h = some (x, i2, h2) ∧ 0 ≤ x ∧ x ≤ 255 ∧ 0 ≤ i2 := by
  unfold spec_l01Byte.f
  by_cases hl : i < (b.length : Int)
  · rw [if_pos hl, if_pos hi, show wrap64 (i + 1) = i + 1 from Loops.wrap_in (by omega) (by omega)]
    exact ⟨_, _, _, rfl, (Draw.and255 _).1, (Draw.and255 _).2, by omega⟩
  · rw [if_neg hl]
    exact ⟨_, _, _, rfl, (Draw.and255 _).1, (Draw.and255 _).2, hi⟩
theorem below_some (b : List Int) (hb : b.length ≤ 1048576) (i h n : Int) (hi : 0 ≤ i) (hn : 0 < n) : ∃ x i2 h2, spec_l01Below.f b i h n = some (x, i2, h2) ∧ 0 ≤ x ∧ x < n ∧ 0 ≤ i2 := by
  unfold spec_l01Below.f
  rw [if_neg (by omega)]
  by_cases h8 : n ≤ 256
  · rw [if_pos h8]
    obtain ⟨x, i2, h2, e, hx0, hx1, hi2⟩ := byte_some b hb i h hi
    rw [e]
    simp only [Option.bind_some]
    rw [if_neg (by omega)]
    refine ⟨_, _, _, rfl, Int.tmod_nonneg _ hx0, Int.tmod_lt_of_pos _ hn, hi2⟩
  · rw [if_neg h8]
    obtain ⟨x, i2, h2, e, hx0, hx1, hi2⟩ := byte_some b hb i h hi
    rw [e]
    simp only [Option.bind_some]
    obtain ⟨y, i3, h3, e3, hy0, hy1, hi3⟩ := byte_some b hb i2 h2 hi2
    rw [e3]
    simp only [Option.bind_some]
    obtain ⟨z, i4, h4, e4, hz0, hz1, hi4⟩ := byte_some b hb i3 h3 hi3
    rw [e4]
    simp only [Option.bind_some]
    obtain ⟨w, i5, h5, e5, hw0, hw1, hi5⟩ := byte_some b hb i4 h4 hi4
    rw [e5]
    simp only [Option.bind_some]
    rw [if_neg (by omega)]
    refine ⟨_, _, _, rfl, Int.tmod_nonneg _ ?_, Int.tmod_lt_of_pos _ hn, hi5⟩
    unfold wrap64
    omega
theorem new_some (b : List Int) (hb : b.length ≤ 1048576) : ∃ h, Ev (fun k => spec_l01New.f k b) (b, 0, h) := by
  have key : ∀ (d : Nat) (i h : Int), 0 ≤ i → 4000 - i ≤ d → ∃ h2, Ev (fun k => spec_l01New.l0 k b h i) (b, 0, h2) := by
    intro d
    induction d with
    | zero =>
      intro i h h0 hd
      refine ⟨h, Loops.Ev.one (fun k => ?_)⟩
      simp only [spec_l01New.l0]
      by_cases hl : i < (b.length : Int)
      · rw [if_pos hl, if_neg (by omega)]
      · rw [if_neg hl]
    | succ d ih =>
      intro i h h0 hd
      by_cases hl : i < (b.length : Int) ∧ i < 4000
      · obtain ⟨h2, e⟩ := ih (i + 1) (Go.bits .and .i64 (wrap64 ((wrap64 ((wrap64 (h * 131)) + (wrap64 (rd b i)))) + 7)) 1073741823) (by omega) (by omega)
        refine ⟨h2, Ev.step (fun k => ?_) e⟩
        simp only [spec_l01New.l0]
        rw [if_pos hl.1, if_pos hl.2, if_pos h0, show wrap64 (i + 1) = i + 1 from Loops.wrap_in (by omega) (by omega)]
      · refine ⟨h, Loops.Ev.one (fun k => ?_)⟩
        simp only [spec_l01New.l0]
        by_cases hl1 : i < (b.length : Int)
        · rw [if_pos hl1, if_neg (by omega)]
        · rw [if_neg hl1]
  obtain ⟨h2, e⟩ := key 4000 0 (wrap64 (98729 + (b.length : Int))) (by omega) (by omega)
  exact ⟨h2, e⟩
theorem places_loop (b : List Int) (hb : b.length ≤ 1048576) : ∀ (d : Nat) (L : List Int) (i h : Int), 0 ≤ i → L.length + d = 12 → (∀ x ∈ L, 0 ≤ x ∧ x < 10000) → ∃ M, Ev (fun k => spec_DrawPlaces.l0 k L (L.length : Int) b i h) M ∧ M.length = 12 ∧ ∀ x ∈ M, 0 ≤ x ∧ x < 10000 := by
  intro d
  induction d with
  | zero =>
    intro L i h hi hd hx
    refine ⟨L, Loops.Ev.one (fun k => ?_), by omega, hx⟩
    simp only [spec_DrawPlaces.l0]
    rw [if_neg (by omega)]
  | succ d ih =>
    intro L i h hi hd hx
    obtain ⟨x, i2, h2, e, hx0, hx1, hi2⟩ := below_some b hb i h 10000 hi (by omega)
    obtain ⟨M, ev, hM, hMx⟩ := ih (L ++ [x]) i2 h2 hi2 (by simp; omega) (fun y hy => by
      rcases List.mem_append.1 hy with hy | hy
      · exact hx y hy
      · rw [List.mem_singleton.1 hy]; exact ⟨hx0, hx1⟩)
    refine ⟨M, Ev.step (fun k => ?_) ev, hM, hMx⟩
    simp only [spec_DrawPlaces.l0]
    rw [if_pos (by omega), e]
    simp only [Option.bind_some]
    rw [if_pos (by omega), show wrap64 ((L.length : Int) + 1) = ((L ++ [x]).length : Int) by simp; exact Loops.wrap_in (by omega) (by omega)]
theorem places_some (b : List Int) (hb : b.length ≤ 1048576) : ∃ M, Ev (fun k => spec_DrawPlaces.f k b) M ∧ M.length = 12 ∧ ∀ x ∈ M, 0 ≤ x ∧ x < 10000 := by
  unfold spec_DrawPlaces.f
  obtain ⟨h0, e0⟩ := new_some b hb
  obtain ⟨M, ev, hM⟩ := places_loop b hb 12 [] 0 h0 (by omega) (by simp) (by simp)
  exact ⟨M, Ev.bind e0 ev, hM⟩
theorem place_in {M : List Int} (hM : M.length = 12) (hx : ∀ x ∈ M, 0 ≤ x ∧ x < 10000) (i : Nat) (hi : i < 12) : 0 ≤ rd M (i : Int) ∧ rd M (i : Int) < 10000 := by
  have hlt : i < M.length := by omega
  have : rd M (i : Int) = M[i] := by simp [rd, List.getD, List.getElem?_eq_getElem hlt]
  rw [this]
  exact hx _ (List.getElem_mem hlt)
theorem within_eq (a b c : Int) : impl_within.f a b c = some (decide (b ≤ a ∧ a ≤ c)) := by
  unfold impl_within.f
  by_cases h : a ≥ b
  · rw [if_pos h]; congr 1; simp; omega
  · rw [if_neg h]; congr 1; simp; omega
/-- The steps of a job: for each copy its sheets, and a mark. -/
def steps (s : Nat) (m : Int) : Nat → List Int
  | 0 => []
  | c + 1 => (List.replicate s 0 ++ [m]) ++ steps s m c
theorem steps_len (s : Nat) (m : Int) : ∀ c, (steps s m c).length = c * (s + 1) := by
  intro c
  induction c with
  | zero => simp [steps]
  | succ c ih => simp only [steps, List.length_append, List.length_replicate, List.length_singleton, ih]; rw [Nat.succ_mul]; omega
def mark (s : Int) (staple : Bool) : Int := if staple = true ∧ 2 ≤ s ∧ s ≤ 10 then 1 else 2
theorem ifin_l1 (c s : Nat) (m : Int) (hc : c ≤ 20) (hs : s ≤ 64) : ∀ (d i : Nat) (L : List Int) (r : List Int), i + d = s → L.length + d ≤ 1000000 →
    Ev (fun k => impl_FinishSteps.l0 k (c : Int) (s : Int) m (L ++ (List.replicate d 0 ++ [m]))) r → Ev (fun k => impl_FinishSteps.l1 k ((c + 1 : Nat) : Int) (s : Int) m L (i : Int)) r := by
  intro d
  induction d with
  | zero =>
    intro i L r hi hL h
    refine Ev.step (fun k => ?_) h
    simp only [impl_FinishSteps.l1]
    rw [if_neg (by omega), if_pos (by omega), show wrap64 (((c + 1 : Nat) : Int) - 1) = (c : Int) by unfold wrap64; omega]
    simp
  | succ d ih =>
    intro i L r hi hL h
    refine Ev.step (fun k => ?_) (ih (i + 1) (L ++ [0]) r (by omega) (by simp; omega) (by simpa [List.replicate_succ] using h))
    simp only [impl_FinishSteps.l1]
    rw [if_pos (by omega), if_pos (by omega), Loops.wrap_succ (n := s) (by omega) (by omega)]
theorem ifin_l0 (s : Nat) (m : Int) (hs : s ≤ 64) : ∀ (c : Nat) (L : List Int), c ≤ 20 → L.length + c * 65 ≤ 1000000 → Ev (fun k => impl_FinishSteps.l0 k (c : Int) (s : Int) m L) (L ++ steps s m c) := by
  intro c
  induction c with
  | zero =>
    intro L hc hL
    refine Loops.Ev.one (fun k => ?_)
    simp only [impl_FinishSteps.l0]
    rw [if_neg (by omega)]
    simp [steps]
  | succ c ih =>
    intro L hc hL
    refine Ev.step (f := fun k => impl_FinishSteps.l1 k ((c + 1 : Nat) : Int) (s : Int) m L ((0 : Nat) : Int)) (fun k => ?_) (ifin_l1 c s m (by omega) hs s 0 L _ (by omega) (by omega) ?_)
    · simp only [impl_FinishSteps.l0]
      rw [if_pos (by omega)]
      rfl
    · have := ih (L ++ (List.replicate s 0 ++ [m])) (by omega) (by simp; omega)
      simpa [steps] using this
theorem ifin_eq (c s : Int) (staple : Bool) (hc : 1 ≤ c ∧ c ≤ 20) (hs : 1 ≤ s ∧ s ≤ 64) : Ev (fun k => impl_FinishSteps.f k c s staple) (steps s.toNat (mark s staple) c.toNat) := by
  have key : ∀ m, Ev (fun k => impl_FinishSteps.j2 k c s m) (steps s.toNat m c.toNat) := by
    intro m
    refine Ev.step (f := fun k => impl_FinishSteps.l0 k c s m []) (fun k => by simp only [impl_FinishSteps.j2]) ?_
    have := ifin_l0 s.toNat m (by omega) c.toNat [] (by omega) (by simp; omega)
    rw [show ((c.toNat : Nat) : Int) = c by omega, show ((s.toNat : Nat) : Int) = s by omega] at this
    simpa using this
  unfold impl_FinishSteps.f
  refine Ev.bind (a := true) (Loops.Ev.const (by rw [within_eq, decide_eq_true hc])) ?_
  simp only [if_true]
  refine Ev.bind (a := true) (Loops.Ev.const (by rw [within_eq, decide_eq_true hs])) ?_
  refine Ev.step (f := fun k => if staple = true then ((impl_within.f s 2 10).bind fun t119 => (impl_FinishSteps.j1 k c s 2 t119)) else (impl_FinishSteps.j1 k c s 2 false)) (fun k => by simp [impl_FinishSteps.j0]) ?_
  unfold mark
  cases staple with
  | false =>
    simp only [Bool.false_eq_true, if_false, false_and]
    exact Ev.step (fun k => by simp [impl_FinishSteps.j1]) (key 2)
  | true =>
    simp only [if_true, true_and, within_eq, Option.bind_some]
    by_cases h : 2 ≤ s ∧ s ≤ 10
    · rw [if_pos h, decide_eq_true h]
      exact Ev.step (fun k => by simp [impl_FinishSteps.j1]) (key 1)
    · rw [if_neg h, decide_eq_false h]
      exact Ev.step (fun k => by simp [impl_FinishSteps.j1]) (key 2)
theorem ifin_bad (c s : Int) (staple : Bool) (h : ¬ ((1 ≤ c ∧ c ≤ 20) ∧ 1 ≤ s ∧ s ≤ 64)) : Ev (fun k => impl_FinishSteps.f k c s staple) [] := by
  unfold impl_FinishSteps.f
  refine Ev.bind (Loops.Ev.const (within_eq c 1 20)) ?_
  by_cases hc : 1 ≤ c ∧ c ≤ 20
  · rw [decide_eq_true hc]
    simp only [if_true]
    refine Ev.bind (a := false) (Loops.Ev.const (by rw [within_eq, decide_eq_false (fun h2 => h ⟨hc, h2⟩)])) ?_
    exact Loops.Ev.one (fun k => by simp [impl_FinishSteps.j0])
  · rw [decide_eq_false hc]
    simp only [Bool.false_eq_true, if_false]
    exact Loops.Ev.one (fun k => by simp [impl_FinishSteps.j0])
/-- The copy of sheet s: how many marks lie ahead of it; q sheets lie behind us. -/
def copyOf (s : Int) : List Int → Int → Int → Int
  | [], _, _ => -1
  | x :: xs, q, n => if x = 0 then (if q = s then n else copyOf s xs (q + 1) n) else copyOf s xs q (n + 1)
theorem icopy_loop (l : List Int) (hl : l.length ≤ 4194304) (s : Int) (hs0 : -9223372036854775808 ≤ s) (hs1 : s ≤ 9223372036854775807) : ∀ (d i : Nat) (q n : Int), i + d = l.length → 0 ≤ q → q ≤ i → 0 ≤ n → n ≤ i →
    Ev (fun k => impl_CopyOf.l0 k (wrap64 (s - q)) n l (l.length : Int) (i : Int)) (copyOf s (l.drop i) q n) := by
  intro d
  induction d with
  | zero =>
    intro i q n hi _ _ _ _
    rw [List.drop_of_length_le (by omega)]
    refine Loops.Ev.one (fun k => ?_)
    simp only [impl_CopyOf.l0]
    rw [if_neg (by omega)]
    rfl
  | succ d ih =>
    intro i q n hi hq0 hq1 hn hni
    have hlt : i < l.length := by omega
    rw [Loops.drop_cons_getD l 0 i hlt]
    unfold copyOf
    by_cases hx : l.getD i 0 = 0
    · rw [if_pos hx]
      by_cases hs : q = s
      · rw [if_pos hs]
        refine Loops.Ev.one (fun k => ?_)
        simp only [impl_CopyOf.l0]
        rw [if_pos (by omega), if_pos (by omega), if_pos (by omega), Loops.rd_nat, if_pos hx, if_pos (by unfold wrap64; omega)]
      · rw [if_neg hs]
        refine Ev.step (fun k => ?_) (ih (i + 1) (q + 1) n (by omega) (by omega) (by omega) hn (by omega))
        simp only [impl_CopyOf.l0]
        rw [if_pos (by omega), if_pos (by omega), if_pos (by omega), Loops.rd_nat, if_pos hx, if_neg (by unfold wrap64; omega), Loops.wrap_succ hlt (by omega), show wrap64 (wrap64 (s - q) - 1) = wrap64 (s - (q + 1)) by unfold wrap64; omega]
    · rw [if_neg hx]
      refine Ev.step (fun k => ?_) (ih (i + 1) q (n + 1) (by omega) (by omega) (by omega) (by omega) (by omega))
      simp only [impl_CopyOf.l0]
      rw [if_pos (by omega), if_pos (by omega), if_pos (by omega), Loops.rd_nat, if_neg hx, Loops.wrap_succ hlt (by omega), show wrap64 (n + 1) = n + 1 from Loops.wrap_in (by omega) (by omega)]
theorem icopy_eq (l : List Int) (hl : l.length ≤ 4194304) (s : Int) (hs0 : -9223372036854775808 ≤ s) (hs1 : s ≤ 9223372036854775807) : Ev (fun k => impl_CopyOf.f k l s) (copyOf s l 0 0) := by
  unfold impl_CopyOf.f
  have := icopy_loop l hl s hs0 hs1 l.length 0 0 0 (by omega) (by omega) (by omega) (by omega) (by omega)
  rw [show wrap64 (s - 0) = s by unfold wrap64; omega] at this
  exact this
theorem copy_past (t : Int) : ∀ (L : List Int) (q n : Int), t < q → copyOf t L q n = -1 := by
  intro L
  induction L with
  | nil => intro q n _; rfl
  | cons x xs ih =>
    intro q n h
    unfold copyOf
    split
    · rw [if_neg (by omega)]; exact ih _ _ (by omega)
    · exact ih _ _ h
theorem copy_cons (t x : Int) (xs : List Int) (q n : Int) : copyOf t (x :: xs) q n = if x = 0 then (if q = t then n else copyOf t xs (q + 1) n) else copyOf t xs q (n + 1) := rfl
theorem copy_rep (t : Int) (R : List Int) : ∀ (r : Nat) (q n : Int), copyOf t (List.replicate r 0 ++ R) q n = if q ≤ t ∧ t < q + r then n else copyOf t R (q + r) n := by
  intro r
  induction r with
  | zero => intro q n; simp; omega
  | succ r ih =>
    intro q n
    rw [List.replicate_succ, List.cons_append, copy_cons, if_pos rfl]
    by_cases h : q = t
    · rw [if_pos h, if_pos (by omega)]
    · rw [if_neg h, ih]
      have e : q + 1 + (r : Int) = q + ((r + 1 : Nat) : Int) := by omega
      rw [e]
      by_cases h2 : q ≤ t ∧ t < q + ((r + 1 : Nat) : Int)
      · rw [if_pos h2, if_pos (by omega)]
      · rw [if_neg h2, if_neg (by omega)]
theorem copy_steps (t m : Int) (hm : m ≠ 0) (s : Nat) (hs : 1 ≤ s) : ∀ (c : Nat) (q n : Int), q ≤ t → copyOf t (steps s m c) q n = if t < q + (c : Int) * s then n + (t - q) / s else -1 := by
  intro c
  induction c with
  | zero => intro q n h; rw [if_neg (by simp; omega)]; rfl
  | succ c ih =>
    intro q n h
    have e : ((c + 1 : Nat) : Int) * (s : Int) = (c : Int) * s + s := by
      rw [show ((c + 1 : Nat) : Int) = (c : Int) + 1 by omega, Int.add_mul, Int.one_mul]
    have hp : 0 ≤ (c : Int) * (s : Int) := Int.mul_nonneg (by omega) (by omega)
    unfold steps
    rw [List.append_assoc, copy_rep, e]
    by_cases h1 : t < q + s
    · rw [if_pos (by omega), if_pos (by omega), Int.ediv_eq_zero_of_lt (by omega) (by omega)]
      omega
    · rw [if_neg (by omega)]
      show copyOf t (m :: steps s m c) (q + s) n = _
      rw [copy_cons, if_neg hm, ih (q + s) (n + 1) (by omega)]
      have e2 : (t - q) / (s : Int) = (t - (q + s)) / s + 1 := by
        rw [← Int.add_mul_ediv_right (t - (q + s)) 1 (show (s : Int) ≠ 0 by omega)]
        congr 1
        omega
      by_cases h2 : t < q + s + (c : Int) * s
      · rw [if_pos h2, if_pos (by omega), e2]; omega
      · rw [if_neg h2, if_neg (by omega)]
theorem FnCopies : ∀ (l0 : List Int), (l0.length ≤ maxLen ∧ ∀ x ∈ l0, (Lit.int .u8 x).wf = true) → ∃ k, laws_FnCopies.f k l0 = some true := by
  intro b _
  refine Ev.rounds ?_
  unfold laws_FnCopies.f laws_big.f
  simp only [Option.bind_some]
  by_cases hb : (b.length : Int) > 1048576
  · simp only [decide_eq_true hb, if_true]
    exact Ev.now _
  simp only [decide_eq_false hb, Bool.false_eq_true, if_false]
  obtain ⟨M, ev, hM, hx⟩ := places_some b (by omega)
  have p0 : 0 ≤ rd M 0 ∧ rd M 0 < 10000 := place_in hM hx 0 (by omega)
  have p1 : 0 ≤ rd M 1 ∧ rd M 1 < 10000 := place_in hM hx 1 (by omega)
  have p2 : 0 ≤ rd M 2 ∧ rd M 2 < 10000 := place_in hM hx 2 (by omega)
  refine Ev.bind ev ?_
  simp only [hM]
  simp only [if_pos (show (0 : Int) < ((12 : Nat) : Int) by omega), if_pos (show (1 : Int) < ((12 : Nat) : Int) by omega), if_pos (show (2 : Int) < ((12 : Nat) : Int) by omega)]
  have c0 := Int.tmod_nonneg 20 p0.1
  have c1 := Int.tmod_lt_of_pos (rd M 0) (show (0 : Int) < 20 by omega)
  have s0 := Int.tmod_nonneg 64 p1.1
  have s1 := Int.tmod_lt_of_pos (rd M 1) (show (0 : Int) < 64 by omega)
  obtain ⟨c, hc⟩ : ∃ c, c = 1 + Int.tmod (rd M 0) 20 := ⟨_, rfl⟩
  obtain ⟨s, hs⟩ : ∃ s, s = 1 + Int.tmod (rd M 1) 64 := ⟨_, rfl⟩
  rw [show wrap64 (1 + Int.tmod (rd M 0) 20) = c by rw [← hc]; exact Loops.wrap_in (by omega) (by omega), show wrap64 (1 + Int.tmod (rd M 1) 64) = s by rw [← hs]; exact Loops.wrap_in (by omega) (by omega)]
  have hp1 : 1 * s ≤ c * s := Int.mul_le_mul_of_nonneg_right (by omega) (by omega)
  have hp2 : c * s ≤ 20 * s := Int.mul_le_mul_of_nonneg_right (by omega) (by omega)
  rw [show wrap64 (c * s) = c * s from Loops.wrap_in (by omega) (by omega)]
  have k0 := Int.tmod_nonneg (c * s) p2.1
  have k1 := Int.tmod_lt_of_pos (rd M 2) (show 0 < c * s by omega)
  obtain ⟨t, ht⟩ : ∃ t, t = Int.tmod (rd M 2) (c * s) := ⟨_, rfl⟩
  rw [← ht] at k0 k1 ⊢
  have hlen : (steps s.toNat (mark s true) c.toNat).length ≤ 4194304 := by
    rw [steps_len]
    have : c.toNat * (s.toNat + 1) ≤ 20 * 65 := Nat.mul_le_mul (by omega) (by omega)
    omega
  have hm : mark s true ≠ 0 := by unfold mark; split <;> omega
  have hcs : ((c.toNat : Nat) : Int) * ((s.toNat : Nat) : Int) = c * s := by rw [Int.toNat_of_nonneg (by omega), Int.toNat_of_nonneg (by omega)]
  have r1 : copyOf t (steps s.toNat (mark s true) c.toNat) 0 0 = t / s := by
    rw [copy_steps t _ hm s.toNat (by omega) c.toNat 0 0 k0, hcs, if_pos (by omega), Int.toNat_of_nonneg (by omega)]
    simp
  have r2 : copyOf (c * s) (steps s.toNat (mark s true) c.toNat) 0 0 = -1 := by
    rw [copy_steps (c * s) _ hm s.toNat (by omega) c.toNat 0 0 (by omega), hcs, if_neg (by omega)]
  have r3 : copyOf (-1) (steps s.toNat (mark s true) c.toNat) 0 0 = -1 := copy_past (-1) _ 0 0 (by omega)
  have e1 := icopy_eq _ hlen t (by omega) (by omega)
  have e2 := icopy_eq _ hlen (c * s) (by omega) (by omega)
  have e3 := icopy_eq _ hlen (-1) (by omega) (by omega)
  rw [r1] at e1
  rw [r2] at e2
  rw [r3] at e3
  have hdiv : wrap64 (Int.tdiv t s) = t / s := by
    rw [Int.tdiv_eq_ediv_of_nonneg k0]
    have h0 := Int.ediv_nonneg k0 (show 0 ≤ s by omega)
    have h1 := Int.ediv_le_self s k0
    exact Loops.wrap_in (by omega) (by omega)
  refine Ev.bind (ifin_eq c s true (by omega) (by omega)) ?_
  simp only [if_neg (show ¬ c * s = 0 by omega)]
  refine Ev.bind e1 ?_
  simp only [if_neg (show ¬ s = 0 by omega), hdiv, if_true]
  refine Ev.bind e2 ?_
  simp only [if_true]
  refine Ev.bind e3 ?_
  exact Ev.now _

end Go.Proofs.Ytjkhjfladhppkaa.Pure
