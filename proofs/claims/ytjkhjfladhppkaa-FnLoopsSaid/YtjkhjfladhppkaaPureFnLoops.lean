/- The pure part of FnLoops: over numbers and lists alone. No condition beyond the numbers' own kinds. -/
import Derived.Test.YtjkhjfladhppkaaQFnLoops3
import Derived.Test.YtjkhjfladhppkaaLoops
import Derived.Test.YtjkhjfladhppkaaDraw
namespace Go.Proofs.Ytjkhjfladhppkaa.Pure
open Go.RowKit Go.Proofs.Ytjkhjfladhppkaa.PFnLoops Go.Proofs.YtjkhjfladhppkaaW.PrintWords Go.Proofs.YtjkhjfladhppkaaW.PrintLast Go.Proofs.YtjkhjfladhppkaaW.PrintMore
set_option linter.unusedVariables false
set_option linter.unusedSimpArgs false

theorem byte_some (b : List Int) (hb : b.length ≤ 1048576) (i h : Int) (hi : 0 ≤ i) : ∃ x i2 h2, spec_l01Byte.f b i h = some (x, i2, h2) ∧ 0 ≤ x ∧ x ≤ 255 ∧ 0 ≤ i2 := by
  unfold spec_l01Byte.f
  by_cases hl : i < (b.length : Int)
  · rw [if_pos hl, if_pos hi, show wrap64 (i + 1) = i + 1 from Loops.wrap_in (by omega) (by omega)]
    exact ⟨_, _, _, rfl, (Draw.and255 _).1, (Draw.and255 _).2, by omega⟩
  · rw [if_neg hl]
    exact ⟨_, _, _, rfl, (Draw.and255 _).1, (Draw.and255 _).2, hi⟩
theorem below_some (b : List Int) (hb : b.length ≤ 1048576) (i h n : Int) (hi : 0 ≤ i) (hn : 0 < n) : ∃ x i2 h2, spec_l01Below.f b i h n = some (x, i2, h2) ∧ 0 ≤ x ∧ x < n ∧ 0 ≤ i2 := by
  unfold spec_l01Below.f
  rw [if_neg (by omega)]
  by_cases h8 : n ≤ 256
  · rw [if_pos h8]
    obtain ⟨x, i2, h2, e, hx0, hx1, hi2⟩ := byte_some b hb i h hi
    rw [e]
    simp only [Option.bind_some]
    rw [if_neg (by omega)]
    refine ⟨_, _, _, rfl, Int.tmod_nonneg _ hx0, Int.tmod_lt_of_pos _ hn, hi2⟩
  · rw [if_neg h8]
    obtain ⟨x, i2, h2, e, hx0, hx1, hi2⟩ := byte_some b hb i h hi
    rw [e]
    simp only [Option.bind_some]
    obtain ⟨y, i3, h3, e3, hy0, hy1, hi3⟩ := byte_some b hb i2 h2 hi2
    rw [e3]
    simp only [Option.bind_some]
    obtain ⟨z, i4, h4, e4, hz0, hz1, hi4⟩ := byte_some b hb i3 h3 hi3
    rw [e4]
    simp only [Option.bind_some]
    obtain ⟨w, i5, h5, e5, hw0, hw1, hi5⟩ := byte_some b hb i4 h4 hi4
    rw [e5]
    simp only [Option.bind_some]
    rw [if_neg (by omega)]
    refine ⟨_, _, _, rfl, Int.tmod_nonneg _ ?_, Int.tmod_lt_of_pos _ hn, hi5⟩
    unfold wrap64
    omega
theorem new_some (b : List Int) (hb : b.length ≤ 1048576) : ∃ h, Ev (fun k => spec_l01New.f k b) (b, 0, h) := by
  have key : ∀ (d : Nat) (i h : Int), 0 ≤ i → 4000 - i ≤ d → ∃ h2, Ev (fun k => spec_l01New.l0 k b h i) (b, 0, h2) := by
    intro d
    induction d with
    | zero =>
      intro i h h0 hd
      refine ⟨h, Loops.Ev.one (fun k => ?_)⟩
      simp only [spec_l01New.l0]
      by_cases hl : i < (b.length : Int)
      · rw [if_pos hl, if_neg (by omega)]
      · rw [if_neg hl]
    | succ d ih =>
      intro i h h0 hd
      by_cases hl : i < (b.length : Int) ∧ i < 4000
      · obtain ⟨h2, e⟩ := ih (i + 1) (Go.bits .and .i64 (wrap64 ((wrap64 ((wrap64 (h * 131)) + (wrap64 (rd b i)))) + 7)) 1073741823) (by omega) (by omega)
        refine ⟨h2, Ev.step (fun k => ?_) e⟩
        simp only [spec_l01New.l0]
        rw [if_pos hl.1, if_pos hl.2, if_pos h0, show wrap64 (i + 1) = i + 1 from Loops.wrap_in (by omega) (by omega)]
      · refine ⟨h, Loops.Ev.one (fun k => ?_)⟩
        simp only [spec_l01New.l0]
        by_cases hl1 : i < (b.length : Int)
        · rw [if_pos hl1, if_neg (by omega)]
        · rw [if_neg hl1]
  obtain ⟨h2, e⟩ := key 4000 0 (wrap64 (98729 + (b.length : Int))) (by omega) (by omega)
  exact ⟨h2, e⟩
theorem places_loop (b : List Int) (hb : b.length ≤ 1048576) : ∀ (d : Nat) (L : List Int) (i h : Int), 0 ≤ i → L.length + d = 12 → (∀ x ∈ L, 0 ≤ x ∧ x < 10000) → ∃ M, Ev (fun k => spec_DrawPlaces.l0 k L (L.length : Int) b i h) M ∧ M.length = 12 ∧ ∀ x ∈ M, 0 ≤ x ∧ x < 10000 := by
  intro d
  induction d with
  | zero =>
    intro L i h hi hd hx
    refine ⟨L, Loops.Ev.one (fun k => ?_), by omega, hx⟩
    simp only [spec_DrawPlaces.l0]
    rw [if_neg (by omega)]
  | succ d ih =>
    intro L i h hi hd hx
    obtain ⟨x, i2, h2, e, hx0, hx1, hi2⟩ := below_some b hb i h 10000 hi (by omega)
    obtain ⟨M, ev, hM, hMx⟩ := ih (L ++ [x]) i2 h2 hi2 (by simp; omega) (fun y hy => by
      rcases List.mem_append.1 hy with hy | hy
      · exact hx y hy
      · rw [List.mem_singleton.1 hy]; exact ⟨hx0, hx1⟩)
    refine ⟨M, Ev.step (fun k => ?_) ev, hM, hMx⟩
    simp only [spec_DrawPlaces.l0]
    rw [if_pos (by omega), e]
    simp only [Option.bind_some]
    rw [if_pos (by omega), show wrap64 ((L.length : Int) + 1) = ((L ++ [x]).length : Int) by simp; exact Loops.wrap_in (by omega) (by omega)]
theorem places_some (b : List Int) (hb : b.length ≤ 1048576) : ∃ M, Ev (fun k => spec_DrawPlaces.f k b) M ∧ M.length = 12 ∧ ∀ x ∈ M, 0 ≤ x ∧ x < 10000 := by
  unfold spec_DrawPlaces.f
  obtain ⟨h0, e0⟩ := new_some b hb
  obtain ⟨M, ev, hM⟩ := places_loop b hb 12 [] 0 h0 (by omega) (by simp) (by simp)
  exact ⟨M, Ev.bind e0 ev, hM⟩
theorem place_in {M : List Int} (hM : M.length = 12) (hx : ∀ x ∈ M, 0 ≤ x ∧ x < 10000) (i : Nat) (hi : i < 12) : 0 ≤ rd M (i : Int) ∧ rd M (i : Int) < 10000 := by
  have hlt : i < M.length := by omega
  have : rd M (i : Int) = M[i] := by simp [rd, List.getD, List.getElem?_eq_getElem hlt]
  rw [this]
  exact hx _ (List.getElem_mem hlt)
/-- The law behind the draw, at numbers of sides and of the loop. -/
def law (n m : Int) : Option Bool := (impl_LoopOrder.f 400 n m).bind fun t => laws_FnLoops.l0 400 n m t 0
def rowOk (a : Nat) : Bool := (List.range 4).all fun i => (List.range 6).all fun j => law (1 + ((a + i : Nat) : Int)) (1 + (j : Int)) == some true
set_option maxRecDepth 100000 in
theorem row0 : rowOk 0 = true := by decide +kernel
set_option maxRecDepth 100000 in
theorem row4 : rowOk 4 = true := by decide +kernel
set_option maxRecDepth 100000 in
theorem row8 : rowOk 8 = true := by decide +kernel
set_option maxRecDepth 100000 in
theorem row12 : rowOk 12 = true := by decide +kernel
set_option maxRecDepth 100000 in
theorem row16 : rowOk 16 = true := by decide +kernel
set_option maxRecDepth 100000 in
theorem row20 : rowOk 20 = true := by decide +kernel
set_option maxRecDepth 100000 in
theorem row24 : rowOk 24 = true := by decide +kernel
set_option maxRecDepth 100000 in
theorem row28 : rowOk 28 = true := by decide +kernel
set_option maxRecDepth 100000 in
theorem row32 : rowOk 32 = true := by decide +kernel
set_option maxRecDepth 100000 in
theorem row36 : rowOk 36 = true := by decide +kernel
theorem law_of (a : Nat) (h : rowOk a = true) (i j : Nat) (h0 : a ≤ i) (hi : i < a + 4) (hj : j < 6) : law (1 + (i : Int)) (1 + (j : Int)) = some true := by
  unfold rowOk at h
  have h2 := List.all_eq_true.1 (List.all_eq_true.1 h (i - a) (List.mem_range.2 (by omega))) j (List.mem_range.2 hj)
  rw [show a + (i - a) = i by omega] at h2
  exact beq_iff_eq.1 h2
theorem law_all (i j : Nat) (hi : i < 40) (hj : j < 6) : law (1 + (i : Int)) (1 + (j : Int)) = some true := by
  by_cases h0 : i < 4
  · exact law_of 0 row0 i j (by omega) (by omega) hj
  by_cases h4 : i < 8
  · exact law_of 4 row4 i j (by omega) (by omega) hj
  by_cases h8 : i < 12
  · exact law_of 8 row8 i j (by omega) (by omega) hj
  by_cases h12 : i < 16
  · exact law_of 12 row12 i j (by omega) (by omega) hj
  by_cases h16 : i < 20
  · exact law_of 16 row16 i j (by omega) (by omega) hj
  by_cases h20 : i < 24
  · exact law_of 20 row20 i j (by omega) (by omega) hj
  by_cases h24 : i < 28
  · exact law_of 24 row24 i j (by omega) (by omega) hj
  by_cases h28 : i < 32
  · exact law_of 28 row28 i j (by omega) (by omega) hj
  by_cases h32 : i < 36
  · exact law_of 32 row32 i j (by omega) (by omega) hj
  exact law_of 36 row36 i j (by omega) (by omega) hj
theorem law_ev (n m : Int) (h : law n m = some true) : Ev (fun k => (impl_LoopOrder.f k n m).bind fun t => laws_FnLoops.l0 k n m t 0) true :=
  Ev.of (k := 400) (fun k => LeO.bind (impl_LoopOrder.mono n m k) (fun t => laws_FnLoops.mono_l k n m t 0)) h
theorem FnLoops : ∀ (l0 : List Int), (l0.length ≤ maxLen ∧ ∀ x ∈ l0, (Lit.int .u8 x).wf = true) → ∃ k, laws_FnLoops.f k l0 = some true := by
  intro b _
  refine Ev.rounds ?_
  unfold laws_FnLoops.f laws_big.f
  simp only [Option.bind_some]
  by_cases hb : (b.length : Int) > 1048576
  · simp only [decide_eq_true hb, if_true]
    exact Ev.now _
  simp only [decide_eq_false hb, Bool.false_eq_true, if_false]
  obtain ⟨M, ev, hM, hx⟩ := places_some b (by omega)
  have p0 : 0 ≤ rd M 0 ∧ rd M 0 < 10000 := place_in hM hx 0 (by omega)
  have p1 : 0 ≤ rd M 1 ∧ rd M 1 < 10000 := place_in hM hx 1 (by omega)
  refine Ev.bind ev ?_
  simp only [hM]
  simp only [if_pos (show (0 : Int) < ((12 : Nat) : Int) by omega), if_pos (show (1 : Int) < ((12 : Nat) : Int) by omega)]
  have n0 := Int.tmod_nonneg 40 p0.1
  have n1 := Int.tmod_lt_of_pos (rd M 0) (show (0 : Int) < 40 by omega)
  have m0 := Int.tmod_nonneg 6 p1.1
  have m1 := Int.tmod_lt_of_pos (rd M 1) (show (0 : Int) < 6 by omega)
  rw [Loops.wrap_in (x := 1 + Int.tmod (rd M 0) 40) (by omega) (by omega), Loops.wrap_in (x := 1 + Int.tmod (rd M 1) 6) (by omega) (by omega)]
  have h := law_all (Int.tmod (rd M 0) 40).toNat (Int.tmod (rd M 1) 6).toNat (by omega) (by omega)
  simp only [Int.toNat_of_nonneg n0, Int.toNat_of_nonneg m0] at h
  exact law_ev _ _ h

end Go.Proofs.Ytjkhjfladhppkaa.Pure
