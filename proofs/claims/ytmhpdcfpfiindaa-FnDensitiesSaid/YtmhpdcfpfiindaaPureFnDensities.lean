/- The pure part of FnDensities: over numbers and lists alone. No condition beyond the numbers' own kinds. -/
import Derived.Test.YtmhpdcfpfiindaaQFnDensities3
import Derived.Test.YtmhpdcfpfiindaaLoops
import Derived.Test.YtmhpdcfpfiindaaDraw
namespace Go.Proofs.Ytmhpdcfpfiindaa.Pure
open Go.RowKit Go.Proofs.Ytmhpdcfpfiindaa.PFnDensities Go.Proofs.YtmhpdcfpfiindaaW.PrintWords Go.Proofs.YtmhpdcfpfiindaaW.PrintLast Go.Proofs.YtmhpdcfpfiindaaW.PrintMore
set_option linter.unusedVariables false
set_option linter.unusedSimpArgs false

theorem byte_some (b : List Int) (hb : b.length ≤ 1048576) (i h : Int) (hi : 0 ≤ i) : ∃ x i2 h2, spec_l01Byte.f b i h = some (x, i2, h2) ∧ 0 ≤ x ∧ x ≤ 255 ∧ 0 ≤ i2 := by
  unfold spec_l01Byte.f
  by_cases hl : i < (b.length : Int)
  · rw [if_pos hl, if_pos hi, show wrap64 (i + 1) = i + 1 from Loops.wrap_in (by omega) (by omega)]
    exact ⟨_, _, _, rfl, (Draw.and255 _).1, (Draw.and255 _).2, by omega⟩
  · rw [if_neg hl]
    exact ⟨_, _, _, rfl, (Draw.and255 _).1, (Draw.and255 _).2, hi⟩
theorem below_some (b : List Int) (hb : b.length ≤ 1048576) (i h n : Int) (hi : 0 ≤ i) (hn : 0 < n) : ∃ x i2 h2, spec_l01Below.f b i h n = some (x, i2, h2) ∧ 0 ≤ x ∧ x < n ∧ 0 ≤ i2 := by
  unfold spec_l01Below.f
  rw [if_neg (by omega)]
  by_cases h8 : n ≤ 256
  · rw [if_pos h8]
    obtain ⟨x, i2, h2, e, hx0, hx1, hi2⟩ := byte_some b hb i h hi
    rw [e]
    simp only [Option.bind_some]
    rw [if_neg (by omega)]
    refine ⟨_, _, _, rfl, Int.tmod_nonneg _ hx0, Int.tmod_lt_of_pos _ hn, hi2⟩
  · rw [if_neg h8]
    obtain ⟨x, i2, h2, e, hx0, hx1, hi2⟩ := byte_some b hb i h hi
    rw [e]
    simp only [Option.bind_some]
    obtain ⟨y, i3, h3, e3, hy0, hy1, hi3⟩ := byte_some b hb i2 h2 hi2
    rw [e3]
    simp only [Option.bind_some]
    obtain ⟨z, i4, h4, e4, hz0, hz1, hi4⟩ := byte_some b hb i3 h3 hi3
    rw [e4]
    simp only [Option.bind_some]
    obtain ⟨w, i5, h5, e5, hw0, hw1, hi5⟩ := byte_some b hb i4 h4 hi4
    rw [e5]
    simp only [Option.bind_some]
    rw [if_neg (by omega)]
    refine ⟨_, _, _, rfl, Int.tmod_nonneg _ ?_, Int.tmod_lt_of_pos _ hn, hi5⟩
    unfold wrap64
    omega
theorem new_some (b : List Int) (hb : b.length ≤ 1048576) : ∃ h, Ev (fun k => spec_l01New.f k b) (b, 0, h) := by
  have key : ∀ (d : Nat) (i h : Int), 0 ≤ i → 4000 - i ≤ d → ∃ h2, Ev (fun k => spec_l01New.l0 k b h i) (b, 0, h2) := by
    intro d
    induction d with
    | zero =>
      intro i h h0 hd
      refine ⟨h, Loops.Ev.one (fun k => ?_)⟩
      simp only [spec_l01New.l0]
      by_cases hl : i < (b.length : Int)
      · rw [if_pos hl, if_neg (by omega)]
      · rw [if_neg hl]
    | succ d ih =>
      intro i h h0 hd
      by_cases hl : i < (b.length : Int) ∧ i < 4000
      · obtain ⟨h2, e⟩ := ih (i + 1) (Go.bits .and .i64 (wrap64 ((wrap64 ((wrap64 (h * 131)) + (wrap64 (rd b i)))) + 7)) 1073741823) (by omega) (by omega)
        refine ⟨h2, Ev.step (fun k => ?_) e⟩
        simp only [spec_l01New.l0]
        rw [if_pos hl.1, if_pos hl.2, if_pos h0, show wrap64 (i + 1) = i + 1 from Loops.wrap_in (by omega) (by omega)]
      · refine ⟨h, Loops.Ev.one (fun k => ?_)⟩
        simp only [spec_l01New.l0]
        by_cases hl1 : i < (b.length : Int)
        · rw [if_pos hl1, if_neg (by omega)]
        · rw [if_neg hl1]
  obtain ⟨h2, e⟩ := key 4000 0 (wrap64 (98729 + (b.length : Int))) (by omega) (by omega)
  exact ⟨h2, e⟩
theorem within_eq (a b c : Int) : impl_within.f a b c = some (decide (b ≤ a ∧ a ≤ c)) := by
  unfold impl_within.f
  by_cases h : a ≥ b
  · rw [if_pos h]; congr 1; simp; omega
  · rw [if_neg h]; congr 1; simp; omega
def dok (c g w : Int) : Bool := decide (0 ≤ c ∧ c ≤ 1000) && (decide (50 ≤ g ∧ g ≤ 150) && decide (0 ≤ w ∧ w ≤ 500))
theorem dok_true {c g w : Int} (h : dok c g w = true) : 0 ≤ c ∧ c ≤ 1000 ∧ 50 ≤ g ∧ g ≤ 150 ∧ 0 ≤ w ∧ w ≤ 500 := by
  simp [dok] at h; omega
theorem dok_mk {c g w : Int} (h : 0 ≤ c ∧ c ≤ 1000 ∧ 50 ≤ g ∧ g ≤ 150 ∧ 0 ≤ w ∧ w ≤ 500) : dok c g w = true := by
  simp [dok]; omega
theorem idok_eq (c g w : Int) : impl_DensityOk.f c g w = some (dok c g w) := by
  unfold impl_DensityOk.f dok
  simp only [within_eq, Option.bind_some]
  cases decide (0 ≤ c ∧ c ≤ 1000) <;> cases decide (50 ≤ g ∧ g ≤ 150) <;> simp
theorem iread_eq (c g w : Int) : impl_ReadPatch.f c g w = some (if dok c g w = true then wrap64 (Int.tdiv (wrap64 (c * g)) 100) else -1) := by
  unfold impl_ReadPatch.f
  rw [idok_eq, Option.bind_some]
  cases dok c g w <;> rfl
theorem prod_bounds {c g : Int} (h0 : 0 ≤ c) (h1 : c ≤ 1000) (h2 : 50 ≤ g) (h3 : g ≤ 150) : 0 ≤ c * g ∧ c * g ≤ 150000 := by
  constructor
  · exact Int.mul_nonneg h0 (by omega)
  · exact Int.le_trans (Int.mul_le_mul_of_nonneg_right h1 (by omega)) (by omega)
theorem read_plain {c g w : Int} (h : dok c g w = true) : wrap64 (Int.tdiv (wrap64 (c * g)) 100) = c * g / 100 := by
  have := dok_true h
  have hb := prod_bounds (c := c) (g := g) (by omega) (by omega) (by omega) (by omega)
  have e : wrap64 (c * g) = c * g := by unfold wrap64; omega
  rw [e, Int.tdiv_eq_ediv_of_nonneg hb.1]
  unfold wrap64; omega
theorem clamp_eq (x : Int) : impl_Clamp.f x 0 1000 = some (mn 1000 (mx 0 x)) := by
  unfold impl_Clamp.f mn mx
  rw [if_neg (by omega)]
  by_cases h1 : x < 0
  · rw [if_pos h1, if_neg (show ¬ (0 < x) by omega)]; rfl
  · rw [if_neg h1]
    by_cases h2 : 0 < x
    · rw [if_pos h2]
      by_cases h3 : 1000 < x
      · rw [if_pos h3, if_neg (show ¬ x < 1000 by omega)]
      · rw [if_neg h3]; congr 1; split <;> omega
    · rw [if_neg h2]
      obtain rfl : x = 0 := by omega
      rfl
theorem tdiv2 (x : Int) : (0 ≤ x ∧ 2 * Int.tdiv x 2 ≤ x ∧ x ≤ 2 * Int.tdiv x 2 + 1) ∨ (x < 0 ∧ x ≤ 2 * Int.tdiv x 2 ∧ 2 * Int.tdiv x 2 ≤ x + 1) := by
  rcases Int.lt_or_le x 0 with h | h
  · right
    have e : Int.tdiv x 2 = -((-x) / 2) := by
      have := Int.neg_tdiv (a := -x) (b := 2)
      rw [Int.neg_neg] at this
      rw [this, Int.tdiv_eq_ediv_of_nonneg (by omega)]
    rw [e]; omega
  · left
    rw [Int.tdiv_eq_ediv_of_nonneg h]; omega
def nxt (c g w : Int) : Int := mn 1000 (mx 0 (c + Int.tdiv (w - c * g / 100) 2))
theorem iadj_ok {c g w : Int} (h : dok c g w = true) : impl_AdjustCharge.f c g w = some (nxt c g w, g, w) := by
  have h0 := dok_true h
  have hb := prod_bounds (c := c) (g := g) (by omega) (by omega) (by omega) (by omega)
  have hr := read_plain h
  unfold impl_AdjustCharge.f nxt
  simp only [idok_eq, iread_eq, h, if_true, Option.bind_some, hr, clamp_eq]
  rw [show wrap64 (w - c * g / 100) = w - c * g / 100 from Loops.wrap_in (by omega) (by omega)]
  have ht : -5000 ≤ Int.tdiv (w - c * g / 100) 2 ∧ Int.tdiv (w - c * g / 100) 2 ≤ 5000 := by have := tdiv2 (w - c * g / 100); omega
  rw [show wrap64 (Int.tdiv (w - c * g / 100) 2) = Int.tdiv (w - c * g / 100) 2 from Loops.wrap_in (by omega) (by omega), show wrap64 (c + Int.tdiv (w - c * g / 100) 2) = c + Int.tdiv (w - c * g / 100) 2 from Loops.wrap_in (by omega) (by omega)]
theorem nxt_in (c g w : Int) : 0 ≤ nxt c g w ∧ nxt c g w ≤ 1000 := by
  unfold nxt mn mx
  split <;> split <;> omega
theorem nxt_ok {c g w : Int} (h : dok c g w = true) : dok (nxt c g w) g w = true := by
  have h0 := dok_true h
  have := nxt_in c g w
  exact dok_mk (by omega)
/-- Where the charge comes in at most d rounds, and in how many. -/
def settle (g w : Int) : Nat → Int → Int × Int
  | 0, c => (c, 0)
  | d + 1, c => if nxt c g w = c then (c, 0) else ((settle g w d (nxt c g w)).1, (settle g w d (nxt c g w)).2 + 1)
theorem settle_le (g w : Int) : ∀ (d : Nat) (c : Int), 0 ≤ (settle g w d c).2 ∧ (settle g w d c).2 ≤ d := by
  intro d
  induction d with
  | zero => intro c; simp [settle]
  | succ d ih =>
    intro c
    unfold settle
    have := ih (nxt c g w)
    split
    · simp only; omega
    · simp only; omega
theorem settle_ok {g w : Int} : ∀ (d : Nat) (c : Int), dok c g w = true → dok (settle g w d c).1 g w = true := by
  intro d
  induction d with
  | zero => intro c h; exact h
  | succ d ih =>
    intro c h
    unfold settle
    split
    · exact h
    · exact ih _ (nxt_ok h)
theorem isettle_loop {g w R : Int} (hR : R ≤ 100) : ∀ (d : Nat) (c n : Int), dok c g w = true → 0 ≤ n → n + d = R →
    Ev (fun k => impl_SettleDensity.l0 k R n c g w) ((settle g w d c).1, g, w, n + (settle g w d c).2) := by
  intro d
  induction d with
  | zero =>
    intro c n h hn hd
    refine Loops.Ev.one (fun k => ?_)
    simp only [impl_SettleDensity.l0]
    rw [if_neg (by omega)]
    simp [settle]
  | succ d ih =>
    intro c n h hn hd
    unfold settle
    by_cases he : nxt c g w = c
    · rw [if_pos he]
      refine Loops.Ev.one (fun k => ?_)
      simp only [impl_SettleDensity.l0]
      rw [if_pos (by omega), iadj_ok h]
      simp [he]
    · rw [if_neg he]
      refine Ev.step (f := fun k => impl_SettleDensity.l0 k R (n + 1) (nxt c g w) g w) (fun k => ?_) (Loops.Ev.eq (ih (nxt c g w) (n + 1) (nxt_ok h) (by omega) (by omega)) (by simp only [Prod.mk.injEq, true_and]; omega))
      simp only [impl_SettleDensity.l0]
      rw [if_pos (by omega), iadj_ok h, show wrap64 (n + 1) = n + 1 from Loops.wrap_in (by omega) (by omega)]
      simp [he]
theorem isettle_eq {c g w R : Int} (hR : 0 ≤ R ∧ R ≤ 100) (h : dok c g w = true) : Ev (fun k => impl_SettleDensity.f k c g w R) ((settle g w R.toNat c).1, g, w, (settle g w R.toNat c).2) := by
  unfold impl_SettleDensity.f
  refine Ev.bind (a := true) (Loops.Ev.const (by rw [idok_eq, h])) ?_
  simp only [if_true]
  refine Ev.bind (a := true) (Loops.Ev.const (by rw [within_eq, decide_eq_true hR])) ?_
  refine Ev.step (f := fun k => impl_SettleDensity.l0 k R 0 c g w) (fun k => by simp [impl_SettleDensity.j0]) (Loops.Ev.eq (isettle_loop hR.2 R.toNat c 0 h (by omega) (by omega)) (by simp))
theorem isettle_bad {c g w R : Int} (h : ¬ (dok c g w = true ∧ 0 ≤ R ∧ R ≤ 100)) : Ev (fun k => impl_SettleDensity.f k c g w R) (c, g, w, 0) := by
  unfold impl_SettleDensity.f
  refine Ev.bind (Loops.Ev.const (idok_eq c g w)) ?_
  cases hd : dok c g w with
  | false =>
    simp only [Bool.false_eq_true, if_false]
    exact Loops.Ev.one (fun k => by simp [impl_SettleDensity.j0])
  | true =>
    simp only [if_true]
    refine Ev.bind (a := false) (Loops.Ev.const (by rw [within_eq, decide_eq_false (fun h2 => h ⟨hd, h2⟩)])) ?_
    exact Loops.Ev.one (fun k => by simp [impl_SettleDensity.j0])
theorem pickint_some (b : List Int) (hb : b.length ≤ 1048576) (i h : Int) (L : List Int) (hi : 0 ≤ i) (hL : 0 < L.length) (hL2 : L.length ≤ 256) : ∃ x i2 h2, spec_l01PickInt.f b i h L = some (x, i2, h2) ∧ x ∈ L ∧ 0 ≤ i2 := by
  unfold spec_l01PickInt.f
  obtain ⟨x, i2, h2, e, h0, h1, hi2⟩ := below_some b hb i h (L.length : Int) hi (by omega)
  rw [e]
  simp only [Option.bind_some]
  rw [if_pos h0, if_pos h1]
  refine ⟨_, _, _, rfl, ?_, hi2⟩
  have hlt : x.toNat < L.length := by omega
  have : rd L x = L[x.toNat] := by simp [rd, List.getD, List.getElem?_eq_getElem hlt]
  rw [this]
  exact List.getElem_mem hlt
theorem density_some (b : List Int) (hb : b.length ≤ 1048576) (i h : Int) (hi : 0 ≤ i) : ∃ c g w i2 h2, spec_l35Density.f b i h = some (c, g, w, i2, h2) ∧ dok c g w = true := by
  unfold spec_l35Density.f
  obtain ⟨x1, i1, h1, e1, a1, b1, hi1⟩ := below_some b hb i h 1001 hi (by omega)
  rw [e1]; simp only [Option.bind_some]
  obtain ⟨x2, i2, h2, e2, m2, hi2⟩ := pickint_some b hb i1 h1 [0, 1000, x1] hi1 (by simp) (by simp)
  rw [e2]; simp only [Option.bind_some]
  obtain ⟨x3, i3, h3, e3, a3, b3, hi3⟩ := below_some b hb i2 h2 101 hi2 (by omega)
  rw [e3]; simp only [Option.bind_some]
  obtain ⟨x4, i4, h4, e4, a4, b4, hi4⟩ := below_some b hb i3 h3 501 hi3 (by omega)
  rw [e4]; simp only [Option.bind_some]
  obtain ⟨x5, i5, h5, e5, m5, hi5⟩ := pickint_some b hb i4 h4 [0, 500, x4] hi4 (by simp) (by simp)
  rw [e5]; simp only [Option.bind_some]
  refine ⟨_, _, _, _, _, rfl, dok_mk ?_⟩
  rw [show wrap64 (50 + x3) = 50 + x3 from Loops.wrap_in (by omega) (by omega)]
  simp only [List.mem_cons, List.not_mem_nil, or_false] at m2 m5
  omega
theorem ddraw_some (b : List Int) (hb : b.length ≤ 1048576) : ∃ c g w, Ev (fun k => spec_DrawDensity.f k b) (c, g, w) ∧ dok c g w = true := by
  unfold spec_DrawDensity.f
  obtain ⟨h0, e0⟩ := new_some b hb
  obtain ⟨c, g, w, i1, h1, e1, hf⟩ := density_some b hb 0 h0 (by omega)
  exact ⟨c, g, w, Ev.bind e0 (Ev.bind (a := (c, g, w, i1, h1)) (Loops.Ev.const e1) (Ev.now _)), hf⟩
/-- One adjustment, by what is wanted less what is read, times 100. -/
theorem nxt_cases {c g w : Int} (h : dok c g w = true) :
    (-200 < 100 * w - c * g → 100 * w - c * g ≤ 100 → nxt c g w = c) ∧
    (100 < 100 * w - c * g → -50 < 100 * w - nxt c g w * g ∧ 100 * w - nxt c g w * g ≤ 100 * w - c * g - 50 ∧ 4 * (100 * w - nxt c g w * g) ≤ 3 * (100 * w - c * g) + 100) ∧
    (100 * w - c * g ≤ -200 → 100 * w - nxt c g w * g ≤ -50 ∧ 100 * w - c * g + 50 ≤ 100 * w - nxt c g w * g ∧ 3 * (100 * w - c * g) - 200 ≤ 4 * (100 * w - nxt c g w * g)) := by
  have h0 := dok_true h
  obtain ⟨hc0, hc1, hg0, hg1, hw0, hw1⟩ := h0
  have hb := prod_bounds hc0 hc1 hg0 hg1
  have hp0 : c * 50 ≤ c * g := Int.mul_le_mul_of_nonneg_left hg0 hc0
  have hp1 : c * g ≤ c * 150 := Int.mul_le_mul_of_nonneg_left hg1 hc0
  have ht := tdiv2 (w - c * g / 100)
  obtain ⟨D, hD⟩ : ∃ D, D = Int.tdiv (w - c * g / 100) 2 := ⟨_, rfl⟩
  rw [← hD] at ht
  have hcl : 0 ≤ c + D ∧ c + D ≤ 1000 := by omega
  have hn : nxt c g w = c + D := by
    unfold nxt mn mx
    rw [← hD]
    split <;> split <;> omega
  rw [hn, Int.add_mul]
  refine ⟨fun h1 h2 => by omega, fun h1 => ?_, fun h1 => ?_⟩
  · have hd0 : 0 ≤ D := by omega
    have q0 : D * 50 ≤ D * g := Int.mul_le_mul_of_nonneg_left hg0 hd0
    have q1 : D * g ≤ D * 150 := Int.mul_le_mul_of_nonneg_left hg1 hd0
    omega
  · have hd0 : D ≤ 0 := by omega
    have q0 : D * g ≤ D * 50 := Int.mul_le_mul_of_nonpos_left hd0 hg0
    have q1 : D * 150 ≤ D * g := Int.mul_le_mul_of_nonpos_left hd0 hg1
    omega
/-- How far it is still to go. -/
def far (x : Int) : Int := if 100 < x then x - 100 else if x ≤ -200 then -x - 199 else 0
def bd : Nat → Int
  | 0 => 0
  | d + 1 => max (bd d + 50) ((4 * bd d - 1) / 3)
theorem settles {g w : Int} : ∀ (d : Nat) (c : Int), dok c g w = true → far (100 * w - c * g) ≤ bd d → ∀ m, d ≤ m → (settle g w m c).2 ≤ d ∧ nxt (settle g w m c).1 g w = (settle g w m c).1 := by
  have fixd : ∀ (c : Int), nxt c g w = c → ∀ m, (settle g w m c).2 ≤ 0 ∧ nxt (settle g w m c).1 g w = (settle g w m c).1 := by
    intro c h m
    cases m with
    | zero => exact ⟨by simp [settle], h⟩
    | succ m => unfold settle; rw [if_pos h]; exact ⟨by simp, h⟩
  intro d
  induction d with
  | zero =>
    intro c h hf m _
    obtain ⟨n1, n2, n3⟩ := nxt_cases h
    have hx : nxt c g w = c := by
      unfold far bd at hf
      split at hf
      · omega
      · split at hf
        · omega
        · exact n1 (by omega) (by omega)
    have := fixd c hx m
    exact ⟨by omega, this.2⟩
  | succ d ih =>
    intro c h hf m hm
    obtain ⟨m, rfl⟩ : ∃ z, m = z + 1 := ⟨m - 1, by omega⟩
    by_cases hx : nxt c g w = c
    · have := fixd c hx (m + 1)
      exact ⟨by omega, this.2⟩
    · obtain ⟨n1, n2, n3⟩ := nxt_cases h
      have hfar : far (100 * w - nxt c g w * g) ≤ bd d := by
        have hb0 : 0 ≤ bd d := by
          cases d with
          | zero => simp [bd]
          | succ d =>
            have : ∀ n, 0 ≤ bd n := by
              intro n
              induction n with
              | zero => simp [bd]
              | succ n ih => unfold bd; omega
            exact this _
        unfold bd at hf
        unfold far at hf ⊢
        split at hf
        · have := n2 (by omega)
          split
          · omega
          · rw [if_neg (by omega)]; exact hb0
        · split at hf
          · have := n3 (by omega)
            rw [if_neg (by omega)]
            split
            · omega
            · exact hb0
          · exact absurd (n1 (by omega) (by omega)) hx
      have := ih (nxt c g w) (nxt_ok h) hfar m (by omega)
      unfold settle
      rw [if_neg hx]
      exact ⟨by simp only; omega, this.2⟩
theorem bd40 : 150000 ≤ bd 40 := by decide +kernel
theorem ierr_eq {c g w : Int} (h : dok c g w = true) : impl_DensityError.f c g w = some (mx (w - c * g / 100) (-(w - c * g / 100))) := by
  have h0 := dok_true h
  have hb := prod_bounds (c := c) (g := g) (by omega) (by omega) (by omega) (by omega)
  unfold impl_DensityError.f
  simp only [idok_eq, iread_eq, h, if_true, Option.bind_some, read_plain h]
  rw [show wrap64 (w - c * g / 100) = w - c * g / 100 from Loops.wrap_in (by omega) (by omega), show wrap64 (-(w - c * g / 100)) = -(w - c * g / 100) from Loops.wrap_in (by omega) (by omega)]
theorem err_down {c g w : Int} (h : dok c g w = true) : mx (w - nxt c g w * g / 100) (-(w - nxt c g w * g / 100)) ≤ mx (w - c * g / 100) (-(w - c * g / 100)) := by
  obtain ⟨n1, n2, n3⟩ := nxt_cases h
  by_cases h1 : 100 < 100 * w - c * g
  · have := n2 h1
    unfold mx
    split <;> split <;> omega
  · by_cases h2 : 100 * w - c * g ≤ -200
    · have := n3 h2
      unfold mx
      split <;> split <;> omega
    · rw [n1 (by omega) (by omega)]
      exact Int.le_refl _
theorem err_fixed {c g w : Int} (h : dok c g w = true) (hx : nxt c g w = c) : mx (w - c * g / 100) (-(w - c * g / 100)) ≤ 1 := by
  obtain ⟨n1, n2, n3⟩ := nxt_cases h
  rw [hx] at n2 n3
  unfold mx
  split <;> omega
theorem FnDensities : ∀ (l0 : List Int), (l0.length ≤ maxLen ∧ ∀ x ∈ l0, (Lit.int .u8 x).wf = true) → ∃ k, laws_FnDensities.f k l0 = some true := by
  intro b _
  refine Ev.rounds ?_
  unfold laws_FnDensities.f laws_big.f
  simp only [Option.bind_some]
  by_cases hb : (b.length : Int) > 1048576
  · simp only [decide_eq_true hb, if_true]
    exact Ev.now _
  simp only [decide_eq_false hb, Bool.false_eq_true, if_false]
  obtain ⟨c, g, w, ev, H⟩ := ddraw_some b (by omega)
  have h0 := dok_true H
  have hpb := prod_bounds (c := c) (g := g) (by omega) (by omega) (by omega) (by omega)
  have hf : far (100 * w - c * g) ≤ bd 40 := by
    have := bd40
    unfold far
    split
    · omega
    · split <;> omega
  obtain ⟨s1, s2⟩ := settles 40 c H hf 100 (by omega)
  have hok := settle_ok 100 c H
  refine Ev.bind ev (Ev.bind (isettle_eq (R := 100) (by omega) H) (Ev.bind (a := ((settle g w 100 c).1, g, w, 0)) ?_ ?_))
  · refine Loops.Ev.eq (isettle_eq (R := 5) (by omega) hok) ?_
    show ((settle g w 5 (settle g w 100 c).1).1, g, w, (settle g w 5 (settle g w 100 c).1).2) = _
    unfold settle
    rw [if_pos s2]
    rfl
  · refine Loops.Ev.const ?_
    have e100 : (100 : Int).toNat = 100 := rfl
    simp only [e100, idok_eq, H, hok, Option.bind_some, if_true, iadj_ok hok, iadj_ok H, s2, ierr_eq hok, ierr_eq H, ierr_eq (nxt_ok H)]
    rw [if_pos (by omega)]
    simp only [beq_self_eq_true, Bool.and_self, if_true]
    rw [if_pos (err_fixed hok s2), decide_eq_true (err_down H)]

end Go.Proofs.Ytmhpdcfpfiindaa.Pure
