/- The pure part of FnFinishes: over numbers and lists alone. No condition beyond the numbers' own kinds. -/
import Derived.Test.YtjkhjfladhppkaaQFnFinishes2
import Derived.Test.YtjkhjfladhppkaaLoops
import Derived.Test.YtjkhjfladhppkaaDraw
namespace Go.Proofs.Ytjkhjfladhppkaa.Pure
open Go.RowKit Go.Proofs.Ytjkhjfladhppkaa.PFnFinishes Go.Proofs.YtjkhjfladhppkaaW.PrintWords Go.Proofs.YtjkhjfladhppkaaW.PrintLast Go.Proofs.YtjkhjfladhppkaaW.PrintMore
set_option linter.unusedVariables false
set_option linter.unusedSimpArgs false

theorem byte_some (b : List Int) (hb : b.length ≤ 1048576) (i h : Int) (hi : 0 ≤ i) : ∃ x i2 h2, spec_l01Byte.f b i h = some (x, i2, h2) ∧ 0 ≤ x ∧ x ≤ 255 ∧ 0 ≤ i2 := by
  unfold spec_l01Byte.f
  by_cases hl : i < (b.length : Int)
  · rw [if_pos hl, if_pos hi, show wrap64 (i + 1) = i + 1 from Loops.wrap_in (by omega) (by omega)]
    exact ⟨_, _, _, rfl, (Draw.and255 _).1, (Draw.and255 _).2, by omega⟩
  · rw [if_neg hl]
    exact ⟨_, _, _, rfl, (Draw.and255 _).1, (Draw.and255 _).2, hi⟩
theorem below_some (b : List Int) (hb : b.length ≤ 1048576) (i h n : Int) (hi : 0 ≤ i) (hn : 0 < n) : ∃ x i2 h2, spec_l01Below.f b i h n = some (x, i2, h2) ∧ 0 ≤ x ∧ x < n ∧ 0 ≤ i2 := by
  unfold spec_l01Below.f
  rw [if_neg (by omega)]
  by_cases h8 : n ≤ 256
  · rw [if_pos h8]
    obtain ⟨x, i2, h2, e, hx0, hx1, hi2⟩ := byte_some b hb i h hi
    rw [e]
    simp only [Option.bind_some]
    rw [if_neg (by omega)]
    refine ⟨_, _, _, rfl, Int.tmod_nonneg _ hx0, Int.tmod_lt_of_pos _ hn, hi2⟩
  · rw [if_neg h8]
    obtain ⟨x, i2, h2, e, hx0, hx1, hi2⟩ := byte_some b hb i h hi
    rw [e]
    simp only [Option.bind_some]
    obtain ⟨y, i3, h3, e3, hy0, hy1, hi3⟩ := byte_some b hb i2 h2 hi2
    rw [e3]
    simp only [Option.bind_some]
    obtain ⟨z, i4, h4, e4, hz0, hz1, hi4⟩ := byte_some b hb i3 h3 hi3
    rw [e4]
    simp only [Option.bind_some]
    obtain ⟨w, i5, h5, e5, hw0, hw1, hi5⟩ := byte_some b hb i4 h4 hi4
    rw [e5]
    simp only [Option.bind_some]
    rw [if_neg (by omega)]
    refine ⟨_, _, _, rfl, Int.tmod_nonneg _ ?_, Int.tmod_lt_of_pos _ hn, hi5⟩
    unfold wrap64
    omega
theorem new_some (b : List Int) (hb : b.length ≤ 1048576) : ∃ h, Ev (fun k => spec_l01New.f k b) (b, 0, h) := by
  have key : ∀ (d : Nat) (i h : Int), 0 ≤ i → 4000 - i ≤ d → ∃ h2, Ev (fun k => spec_l01New.l0 k b h i) (b, 0, h2) := by
    intro d
    induction d with
    | zero =>
      intro i h h0 hd
      refine ⟨h, Loops.Ev.one (fun k => ?_)⟩
      simp only [spec_l01New.l0]
      by_cases hl : i < (b.length : Int)
      · rw [if_pos hl, if_neg (by omega)]
      · rw [if_neg hl]
    | succ d ih =>
      intro i h h0 hd
      by_cases hl : i < (b.length : Int) ∧ i < 4000
      · obtain ⟨h2, e⟩ := ih (i + 1) (Go.bits .and .i64 (wrap64 ((wrap64 ((wrap64 (h * 131)) + (wrap64 (rd b i)))) + 7)) 1073741823) (by omega) (by omega)
        refine ⟨h2, Ev.step (fun k => ?_) e⟩
        simp only [spec_l01New.l0]
        rw [if_pos hl.1, if_pos hl.2, if_pos h0, show wrap64 (i + 1) = i + 1 from Loops.wrap_in (by omega) (by omega)]
      · refine ⟨h, Loops.Ev.one (fun k => ?_)⟩
        simp only [spec_l01New.l0]
        by_cases hl1 : i < (b.length : Int)
        · rw [if_pos hl1, if_neg (by omega)]
        · rw [if_neg hl1]
  obtain ⟨h2, e⟩ := key 4000 0 (wrap64 (98729 + (b.length : Int))) (by omega) (by omega)
  exact ⟨h2, e⟩
theorem places_loop (b : List Int) (hb : b.length ≤ 1048576) : ∀ (d : Nat) (L : List Int) (i h : Int), 0 ≤ i → L.length + d = 12 → (∀ x ∈ L, 0 ≤ x ∧ x < 10000) → ∃ M, Ev (fun k => spec_DrawPlaces.l0 k L (L.length : Int) b i h) M ∧ M.length = 12 ∧ ∀ x ∈ M, 0 ≤ x ∧ x < 10000 := by
  intro d
  induction d with
  | zero =>
    intro L i h hi hd hx
    refine ⟨L, Loops.Ev.one (fun k => ?_), by omega, hx⟩
    simp only [spec_DrawPlaces.l0]
    rw [if_neg (by omega)]
  | succ d ih =>
    intro L i h hi hd hx
    obtain ⟨x, i2, h2, e, hx0, hx1, hi2⟩ := below_some b hb i h 10000 hi (by omega)
    obtain ⟨M, ev, hM, hMx⟩ := ih (L ++ [x]) i2 h2 hi2 (by simp; omega) (fun y hy => by
      rcases List.mem_append.1 hy with hy | hy
      · exact hx y hy
      · rw [List.mem_singleton.1 hy]; exact ⟨hx0, hx1⟩)
    refine ⟨M, Ev.step (fun k => ?_) ev, hM, hMx⟩
    simp only [spec_DrawPlaces.l0]
    rw [if_pos (by omega), e]
    simp only [Option.bind_some]
    rw [if_pos (by omega), show wrap64 ((L.length : Int) + 1) = ((L ++ [x]).length : Int) by simp; exact Loops.wrap_in (by omega) (by omega)]
theorem places_some (b : List Int) (hb : b.length ≤ 1048576) : ∃ M, Ev (fun k => spec_DrawPlaces.f k b) M ∧ M.length = 12 ∧ ∀ x ∈ M, 0 ≤ x ∧ x < 10000 := by
  unfold spec_DrawPlaces.f
  obtain ⟨h0, e0⟩ := new_some b hb
  obtain ⟨M, ev, hM⟩ := places_loop b hb 12 [] 0 h0 (by omega) (by simp) (by simp)
  exact ⟨M, Ev.bind e0 ev, hM⟩
theorem place_in {M : List Int} (hM : M.length = 12) (hx : ∀ x ∈ M, 0 ≤ x ∧ x < 10000) (i : Nat) (hi : i < 12) : 0 ≤ rd M (i : Int) ∧ rd M (i : Int) < 10000 := by
  have hlt : i < M.length := by omega
  have : rd M (i : Int) = M[i] := by simp [rd, List.getD, List.getElem?_eq_getElem hlt]
  rw [this]
  exact hx _ (List.getElem_mem hlt)
theorem within_eq (a b c : Int) : impl_within.f a b c = some (decide (b ≤ a ∧ a ≤ c)) := by
  unfold impl_within.f
  by_cases h : a ≥ b
  · rw [if_pos h]; congr 1; simp; omega
  · rw [if_neg h]; congr 1; simp; omega
/-- The steps of a job: for each copy its sheets, and a mark. -/
def steps (s : Nat) (m : Int) : Nat → List Int
  | 0 => []
  | c + 1 => (List.replicate s 0 ++ [m]) ++ steps s m c
theorem steps_len (s : Nat) (m : Int) : ∀ c, (steps s m c).length = c * (s + 1) := by
  intro c
  induction c with
  | zero => simp [steps]
  | succ c ih => simp only [steps, List.length_append, List.length_replicate, List.length_singleton, ih]; rw [Nat.succ_mul]; omega
def mark (s : Int) (staple : Bool) : Int := if staple = true ∧ 2 ≤ s ∧ s ≤ 10 then 1 else 2
theorem ifin_l1 (c s : Nat) (m : Int) (hc : c ≤ 20) (hs : s ≤ 64) : ∀ (d i : Nat) (L : List Int) (r : List Int), i + d = s → L.length + d ≤ 1000000 →
    Ev (fun k => impl_FinishSteps.l0 k (c : Int) (s : Int) m (L ++ (List.replicate d 0 ++ [m]))) r → Ev (fun k => impl_FinishSteps.l1 k ((c + 1 : Nat) : Int) (s : Int) m L (i : Int)) r := by
  intro d
  induction d with
  | zero =>
    intro i L r hi hL h
    refine Ev.step (fun k => ?_) h
    simp only [impl_FinishSteps.l1]
    rw [if_neg (by omega), if_pos (by omega), show wrap64 (((c + 1 : Nat) : Int) - 1) = (c : Int) by unfold wrap64; omega]
    simp
  | succ d ih =>
    intro i L r hi hL h
    refine Ev.step (fun k => ?_) (ih (i + 1) (L ++ [0]) r (by omega) (by simp; omega) (by simpa [List.replicate_succ] using h))
    simp only [impl_FinishSteps.l1]
    rw [if_pos (by omega), if_pos (by omega), Loops.wrap_succ (n := s) (by omega) (by omega)]
theorem ifin_l0 (s : Nat) (m : Int) (hs : s ≤ 64) : ∀ (c : Nat) (L : List Int), c ≤ 20 → L.length + c * 65 ≤ 1000000 → Ev (fun k => impl_FinishSteps.l0 k (c : Int) (s : Int) m L) (L ++ steps s m c) := by
  intro c
  induction c with
  | zero =>
    intro L hc hL
    refine Loops.Ev.one (fun k => ?_)
    simp only [impl_FinishSteps.l0]
    rw [if_neg (by omega)]
    simp [steps]
  | succ c ih =>
    intro L hc hL
    refine Ev.step (f := fun k => impl_FinishSteps.l1 k ((c + 1 : Nat) : Int) (s : Int) m L ((0 : Nat) : Int)) (fun k => ?_) (ifin_l1 c s m (by omega) hs s 0 L _ (by omega) (by omega) ?_)
    · simp only [impl_FinishSteps.l0]
      rw [if_pos (by omega)]
      rfl
    · have := ih (L ++ (List.replicate s 0 ++ [m])) (by omega) (by simp; omega)
      simpa [steps] using this
theorem ifin_eq (c s : Int) (staple : Bool) (hc : 1 ≤ c ∧ c ≤ 20) (hs : 1 ≤ s ∧ s ≤ 64) : Ev (fun k => impl_FinishSteps.f k c s staple) (steps s.toNat (mark s staple) c.toNat) := by
  have key : ∀ m, Ev (fun k => impl_FinishSteps.j2 k c s m) (steps s.toNat m c.toNat) := by
    intro m
    refine Ev.step (f := fun k => impl_FinishSteps.l0 k c s m []) (fun k => by simp only [impl_FinishSteps.j2]) ?_
    have := ifin_l0 s.toNat m (by omega) c.toNat [] (by omega) (by simp; omega)
    rw [show ((c.toNat : Nat) : Int) = c by omega, show ((s.toNat : Nat) : Int) = s by omega] at this
    simpa using this
  unfold impl_FinishSteps.f
  refine Ev.bind (a := true) (Loops.Ev.const (by rw [within_eq, decide_eq_true hc])) ?_
  simp only [if_true]
  refine Ev.bind (a := true) (Loops.Ev.const (by rw [within_eq, decide_eq_true hs])) ?_
  refine Ev.step (f := fun k => if staple = true then ((impl_within.f s 2 10).bind fun t119 => (impl_FinishSteps.j1 k c s 2 t119)) else (impl_FinishSteps.j1 k c s 2 false)) (fun k => by simp [impl_FinishSteps.j0]) ?_
  unfold mark
  cases staple with
  | false =>
    simp only [Bool.false_eq_true, if_false, false_and]
    exact Ev.step (fun k => by simp [impl_FinishSteps.j1]) (key 2)
  | true =>
    simp only [if_true, true_and, within_eq, Option.bind_some]
    by_cases h : 2 ≤ s ∧ s ≤ 10
    · rw [if_pos h, decide_eq_true h]
      exact Ev.step (fun k => by simp [impl_FinishSteps.j1]) (key 1)
    · rw [if_neg h, decide_eq_false h]
      exact Ev.step (fun k => by simp [impl_FinishSteps.j1]) (key 2)
theorem ifin_bad (c s : Int) (staple : Bool) (h : ¬ ((1 ≤ c ∧ c ≤ 20) ∧ 1 ≤ s ∧ s ≤ 64)) : Ev (fun k => impl_FinishSteps.f k c s staple) [] := by
  unfold impl_FinishSteps.f
  refine Ev.bind (Loops.Ev.const (within_eq c 1 20)) ?_
  by_cases hc : 1 ≤ c ∧ c ≤ 20
  · rw [decide_eq_true hc]
    simp only [if_true]
    refine Ev.bind (a := false) (Loops.Ev.const (by rw [within_eq, decide_eq_false (fun h2 => h ⟨hc, h2⟩)])) ?_
    exact Loops.Ev.one (fun k => by simp [impl_FinishSteps.j0])
  · rw [decide_eq_false hc]
    simp only [Bool.false_eq_true, if_false]
    exact Loops.Ev.one (fun k => by simp [impl_FinishSteps.j0])
def spl (s : List Int × Int) (x : Int) : List Int × Int := if x = 0 then (s.1, s.2 + 1) else (s.1 ++ [s.2], 0)
theorem spl_len : ∀ (l : List Int) (s : List Int × Int), (l.foldl spl s).1.length ≤ s.1.length + l.length := by
  intro l
  induction l with
  | nil => intro s; simp
  | cons x xs ih =>
    intro s
    rw [List.foldl_cons]
    have := ih (spl s x)
    have h2 : (spl s x).1.length ≤ s.1.length + 1 := by unfold spl; split <;> simp
    simp only [List.length_cons]
    omega
theorem isplit_eq (l : List Int) (hl : l.length ≤ 4194304) : Ev (fun k => impl_SplitCopies.f k l) (l.foldl spl ([], 0)).1 := by
  unfold impl_SplitCopies.f
  exact Loops.fold_loop (G := fun k i (s : List Int × Int) => impl_SplitCopies.l0 k s.1 s.2 l (l.length : Int) i) (r := fun s => s.1) l 0 spl (fun i s => 0 ≤ s.2 ∧ s.2 ≤ i ∧ s.1.length ≤ i) (fun k i s hi hs => by
    simp only [impl_SplitCopies.l0]
    rw [if_pos (by omega), if_pos (by omega), if_pos (by omega), Loops.wrap_succ hi (by omega), show wrap64 (s.2 + 1) = s.2 + 1 from Loops.wrap_in (by omega) (by omega), Loops.rd_nat, if_pos (show s.1.length < 17592186044416 by omega)]
    unfold spl
    split <;> rfl) (fun i s hi hs => by unfold spl; split <;> simp <;> omega) (fun s hs => Loops.Ev.one (fun k => by
    simp only [impl_SplitCopies.l0]
    rw [if_neg (by omega)])) ([], 0) (by simp)
def cnt (a : Int) (n x : Int) : Int := if x = a then n + 1 else n
theorem icount_eq (l : List Int) (a : Int) (hl : l.length ≤ 4194304) : Ev (fun k => impl_CountStep.f k l a) (l.foldl (cnt a) 0) := by
  unfold impl_CountStep.f
  exact Loops.fold_loop (G := fun k i s => impl_CountStep.l0 k a s l (l.length : Int) i) (r := id) l 0 (cnt a) (fun i s => 0 ≤ s ∧ s ≤ i) (fun k i s hi hs => by
    simp only [impl_CountStep.l0]
    rw [if_pos (by omega), if_pos (by omega), if_pos (by omega), Loops.wrap_succ hi (by omega), show wrap64 (s + 1) = s + 1 from Loops.wrap_in (by omega) (by omega), Loops.rd_nat]
    unfold cnt
    split <;> rfl) (fun i s hi hs => by unfold cnt; split <;> omega) (fun s hs => Loops.Ev.one (fun k => by
    simp only [impl_CountStep.l0]
    rw [if_neg (by omega)]
    rfl)) 0 (by omega)
theorem spl_rep (R : List Int) : ∀ (r : Nat) (L : List Int) (n : Int), (List.replicate r 0 ++ R).foldl spl (L, n) = R.foldl spl (L, n + r) := by
  intro r
  induction r with
  | zero => intro L n; simp
  | succ r ih =>
    intro L n
    rw [List.replicate_succ, List.cons_append, List.foldl_cons]
    have e : spl (L, n) 0 = (L, n + 1) := by simp [spl]
    rw [e, ih, show n + 1 + (r : Int) = n + ((r + 1 : Nat) : Int) by omega]
theorem spl_steps (m : Int) (hm : m ≠ 0) (s : Nat) : ∀ (c : Nat) (L : List Int), (steps s m c).foldl spl (L, 0) = (L ++ List.replicate c (s : Int), 0) := by
  intro c
  induction c with
  | zero => intro L; simp [steps]
  | succ c ih =>
    intro L
    unfold steps
    rw [List.append_assoc, spl_rep]
    show (steps s m c).foldl spl (spl (L, 0 + (s : Int)) m) = _
    have e : spl (L, 0 + (s : Int)) m = (L ++ [(s : Int)], 0) := by simp [spl, hm]
    rw [e, ih, List.replicate_succ]
    simp
theorem cnt_rep (a : Int) (R : List Int) : ∀ (r : Nat) (n : Int), (List.replicate r 0 ++ R).foldl (cnt a) n = R.foldl (cnt a) (n + if a = 0 then (r : Int) else 0) := by
  intro r
  induction r with
  | zero => intro n; simp
  | succ r ih =>
    intro n
    rw [List.replicate_succ, List.cons_append, List.foldl_cons, ih]
    congr 1
    unfold cnt
    by_cases h : a = 0
    · rw [if_pos h, if_pos h, if_pos h.symm]; omega
    · rw [if_neg h, if_neg h, if_neg (fun h2 => h h2.symm)]
theorem cnt_steps (a m : Int) (s : Nat) : ∀ (c : Nat) (n : Int), (steps s m c).foldl (cnt a) n = n + (c : Int) * ((if a = 0 then (s : Int) else 0) + (if m = a then 1 else 0)) := by
  intro c
  induction c with
  | zero => intro n; simp [steps]
  | succ c ih =>
    intro n
    unfold steps
    rw [List.append_assoc, cnt_rep]
    show (steps s m c).foldl (cnt a) (cnt a (n + if a = 0 then (s : Int) else 0) m) = _
    rw [ih]
    have e : cnt a (n + if a = 0 then (s : Int) else 0) m = n + ((if a = 0 then (s : Int) else 0) + (if m = a then 1 else 0)) := by
      unfold cnt; by_cases h : m = a
      · rw [if_pos h, if_pos h]; omega
      · rw [if_neg h, if_neg h]; omega
    rw [e, show ((c + 1 : Nat) : Int) = (c : Int) + 1 by omega, Int.add_mul, Int.one_mul]
    omega
theorem FnFinishes : ∀ (l0 : List Int), (l0.length ≤ maxLen ∧ ∀ x ∈ l0, (Lit.int .u8 x).wf = true) → ∃ k, laws_FnFinishes.f k l0 = some true := by
  intro b _
  refine Ev.rounds ?_
  unfold laws_FnFinishes.f laws_big.f
  simp only [Option.bind_some]
  by_cases hb : (b.length : Int) > 1048576
  · simp only [decide_eq_true hb, if_true]
    exact Ev.now _
  simp only [decide_eq_false hb, Bool.false_eq_true, if_false]
  obtain ⟨M, ev, hM, hx⟩ := places_some b (by omega)
  have p0 : 0 ≤ rd M 0 ∧ rd M 0 < 10000 := place_in hM hx 0 (by omega)
  have p1 : 0 ≤ rd M 1 ∧ rd M 1 < 10000 := place_in hM hx 1 (by omega)
  refine Ev.bind ev ?_
  simp only [hM]
  simp only [if_pos (show (0 : Int) < ((12 : Nat) : Int) by omega), if_pos (show (1 : Int) < ((12 : Nat) : Int) by omega), if_pos (show (2 : Int) < ((12 : Nat) : Int) by omega)]
  have c0 := Int.tmod_nonneg 20 p0.1
  have c1 := Int.tmod_lt_of_pos (rd M 0) (show (0 : Int) < 20 by omega)
  have s0 := Int.tmod_nonneg 64 p1.1
  have s1 := Int.tmod_lt_of_pos (rd M 1) (show (0 : Int) < 64 by omega)
  obtain ⟨c, hc⟩ : ∃ c, c = 1 + Int.tmod (rd M 0) 20 := ⟨_, rfl⟩
  obtain ⟨s, hs⟩ : ∃ s, s = 1 + Int.tmod (rd M 1) 64 := ⟨_, rfl⟩
  obtain ⟨st, hst⟩ : ∃ st, st = (Int.tmod (rd M 2) 2 == 0) := ⟨_, rfl⟩
  rw [show wrap64 (1 + Int.tmod (rd M 0) 20) = c by rw [← hc]; exact Loops.wrap_in (by omega) (by omega), show wrap64 (1 + Int.tmod (rd M 1) 64) = s by rw [← hs]; exact Loops.wrap_in (by omega) (by omega), ← hst]
  have hp1 : 0 ≤ c * s := Int.mul_nonneg (by omega) (by omega)
  have hp2 : c * s ≤ 20 * s := Int.mul_le_mul_of_nonneg_right (by omega) (by omega)
  have hp3 : c * (s + 1) = c * s + c := by rw [Int.mul_add, Int.mul_one]
  have hcn : ((c.toNat : Nat) : Int) = c := by omega
  have hsn : ((s.toNat : Nat) : Int) = s := by omega
  obtain ⟨L, hL⟩ : ∃ L, L = steps s.toNat (mark s st) c.toNat := ⟨_, rfl⟩
  have hlen : (L.length : Int) = c * s + c := by
    rw [hL, steps_len, Int.natCast_mul, hcn, show ((s.toNat + 1 : Nat) : Int) = s + 1 by omega, hp3]
  have hlen2 : L.length ≤ 4194304 := by omega
  have hm : mark s st ≠ 0 := by unfold mark; split <;> omega
  have es := isplit_eq L hlen2
  have hsp : (L.foldl spl ([], 0)).1 = List.replicate c.toNat s := by rw [hL, spl_steps _ hm, hsn]; simp
  rw [hsp] at es
  have n0 : L.foldl (cnt 0) 0 = c * s := by
    rw [hL, cnt_steps, hcn, hsn, if_pos rfl, if_neg hm]; simp
  have n1 : L.foldl (cnt 1) 0 = if mark s st = 1 then c else 0 := by
    rw [hL, cnt_steps, hcn, if_neg (by omega)]
    split <;> simp
  have n2 : L.foldl (cnt 2) 0 = if mark s st = 2 then c else 0 := by
    rw [hL, cnt_steps, hcn, if_neg (by omega)]
    split <;> simp
  have e0 := icount_eq L 0 hlen2
  have e1 := icount_eq L 1 hlen2
  have e2 := icount_eq L 2 hlen2
  rw [n0] at e0
  rw [n1] at e1
  rw [n2] at e2
  have ef := ifin_eq c s st (by omega) (by omega)
  rw [← hL] at ef
  refine Ev.bind ef (Ev.bind es ?_)
  rw [hlen, List.length_replicate, hcn, show wrap64 (s + 1) = s + 1 from Loops.wrap_in (by omega) (by omega), show wrap64 (c * (s + 1)) = c * s + c by rw [hp3]; exact Loops.wrap_in (by omega) (by omega), show wrap64 (c * s) = c * s from Loops.wrap_in (by omega) (by omega)]
  simp only [if_true]
  refine Ev.bind e0 ?_
  simp only [bne_self_eq_false]
  refine Ev.step (f := fun k => laws_FnFinishes.l0 k c s st L (List.replicate c.toNat s) 0) (fun k => by simp [laws_FnFinishes.j0]) ?_
  refine Loops.up_loop (G := fun k i (_ : Unit) => laws_FnFinishes.l0 k c s st L (List.replicate c.toNat s) i) (fun _ => ()) c.toNat (fun k i hi => by
    simp only [laws_FnFinishes.l0]
    rw [if_pos (by omega), if_pos (by omega), if_pos (by simp; omega), Loops.rd_nat, if_pos (by simp [List.getD, List.getElem?_replicate, hi]), Loops.wrap_succ hi (by omega)]) ?_
  refine Ev.step (f := fun k => ((impl_CountStep.f k L 1).bind fun t162 => (if st = true then (if s ≥ 2 then (if ((t162 == c) == (decide (s ≤ 10))) = true then ((impl_CountStep.f k L 2).bind fun t163 => (some ((wrap64 (t162 + t163)) == c))) else (some false)) else (if ((t162 == c) == false) = true then ((impl_CountStep.f k L 2).bind fun t164 => (some ((wrap64 (t162 + t164)) == c))) else (some false))) else (if ((t162 == c) == false) = true then ((impl_CountStep.f k L 2).bind fun t165 => (some ((wrap64 (t162 + t165)) == c))) else (some false))))) (fun k => by
    simp only [laws_FnFinishes.l0]
    rw [if_neg (by omega)]) ?_
  refine Ev.bind e1 ?_
  have fin : ∀ x y : Int, x + y = c → (wrap64 (x + y) == c) = true := by
    intro x y h
    rw [h, show wrap64 c = c from Loops.wrap_in (by omega) (by omega)]
    simp
  have h12 : (if mark s st = 1 then c else 0) + (if mark s st = 2 then c else 0) = c := by
    unfold mark; split <;> simp
  cases st with
  | false =>
    have hm2 : mark s false = 2 := by simp [mark]
    simp only [hm2, Bool.false_eq_true, if_false, if_true, show ¬ ((2 : Int) = 1) by omega] at e2 h12 ⊢
    simp only [show ((0 : Int) == c) = false by simp; omega]
    refine Ev.bind e2 ?_
    exact Loops.Ev.const (by rw [fin 0 c (by omega)])
  | true =>
    simp only [if_true]
    by_cases h2 : s ≥ 2
    · simp only [if_pos h2]
      by_cases h10 : s ≤ 10
      · have hm1 : mark s true = 1 := by unfold mark; rw [if_pos ⟨rfl, h2, h10⟩]
        simp only [hm1, if_true, show ¬ ((1 : Int) = 2) by omega, if_false] at e2 ⊢
        simp only [decide_eq_true h10, beq_self_eq_true, if_true]
        refine Ev.bind e2 ?_
        exact Loops.Ev.const (by rw [fin c 0 (by omega)])
      · have hm2 : mark s true = 2 := by unfold mark; rw [if_neg (by omega)]
        simp only [hm2, show ¬ ((2 : Int) = 1) by omega, if_false, if_true] at e2 ⊢
        simp only [decide_eq_false h10, show ((0 : Int) == c) = false by simp; omega, beq_self_eq_true, if_true]
        refine Ev.bind e2 ?_
        exact Loops.Ev.const (by rw [fin 0 c (by omega)])
    · have hm2 : mark s true = 2 := by unfold mark; rw [if_neg (by omega)]
      simp only [if_neg h2]
      simp only [hm2, show ¬ ((2 : Int) = 1) by omega, if_false, if_true] at e2 ⊢
      simp only [show ((0 : Int) == c) = false by simp; omega, beq_self_eq_true, if_true]
      refine Ev.bind e2 ?_
      exact Loops.Ev.const (by rw [fin 0 c (by omega)])

end Go.Proofs.Ytjkhjfladhppkaa.Pure
