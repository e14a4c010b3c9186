/- The pure part of FnExactSettleDensity: over numbers and lists alone. No condition beyond the numbers' own kinds. -/
import Derived.Test.YtmhpdcfpfiindaaPFnExactSettleDensityx3
import Derived.Test.YtmhpdcfpfiindaaLoops
namespace Go.Proofs.Ytmhpdcfpfiindaa.Pure
open Go.RowKit Go.Proofs.Ytmhpdcfpfiindaa.PFnExactSettleDensity Go.Proofs.YtmhpdcfpfiindaaW.PrintWords Go.Proofs.YtmhpdcfpfiindaaW.PrintLast Go.Proofs.YtmhpdcfpfiindaaW.PrintMore
set_option linter.unusedVariables false
set_option linter.unusedSimpArgs false

theorem within_eq (a b c : Int) : impl_within.f a b c = some (decide (b ≤ a ∧ a ≤ c)) := by
  unfold impl_within.f
  by_cases h : a ≥ b
  · rw [if_pos h]; congr 1; simp; omega
  · rw [if_neg h]; congr 1; simp; omega
theorem in_eq (a b c : Int) : spec_l01In.f a b c = some (decide (b ≤ a ∧ a ≤ c)) := by
  unfold spec_l01In.f
  by_cases h : a ≥ b
  · rw [if_pos h]; congr 1; simp; omega
  · rw [if_neg h]; congr 1; simp; omega
def dok (c g w : Int) : Bool := decide (0 ≤ c ∧ c ≤ 1000) && (decide (50 ≤ g ∧ g ≤ 150) && decide (0 ≤ w ∧ w ≤ 500))
theorem dok_true {c g w : Int} (h : dok c g w = true) : 0 ≤ c ∧ c ≤ 1000 ∧ 50 ≤ g ∧ g ≤ 150 ∧ 0 ≤ w ∧ w ≤ 500 := by
  simp [dok] at h; omega
theorem dok_mk {c g w : Int} (h : 0 ≤ c ∧ c ≤ 1000 ∧ 50 ≤ g ∧ g ≤ 150 ∧ 0 ≤ w ∧ w ≤ 500) : dok c g w = true := by
  simp [dok]; omega
theorem idok_eq (c g w : Int) : impl_DensityOk.f c g w = some (dok c g w) := by
  unfold impl_DensityOk.f dok
  simp only [within_eq, Option.bind_some]
  cases decide (0 ≤ c ∧ c ≤ 1000) <;> cases decide (50 ≤ g ∧ g ≤ 150) <;> simp
theorem sdok_eq (c g w : Int) : spec_DensityOk.f c g w = some (dok c g w) := by
  unfold spec_DensityOk.f dok
  simp only [in_eq, Option.bind_some]
  cases decide (0 ≤ c ∧ c ≤ 1000) <;> cases decide (50 ≤ g ∧ g ≤ 150) <;> simp
theorem iread_eq (c g w : Int) : impl_ReadPatch.f c g w = some (if dok c g w = true then wrap64 (Int.tdiv (wrap64 (c * g)) 100) else -1) := by
  unfold impl_ReadPatch.f
  rw [idok_eq, Option.bind_some]
  cases dok c g w <;> rfl
theorem sread_eq (c g w : Int) : spec_ReadPatch.f c g w = some (if dok c g w = true then wrap64 (Int.tdiv (wrap64 (c * g)) 100) else -1) := by
  unfold spec_ReadPatch.f
  rw [sdok_eq, Option.bind_some]
  cases dok c g w <;> rfl
theorem prod_bounds {c g : Int} (h0 : 0 ≤ c) (h1 : c ≤ 1000) (h2 : 50 ≤ g) (h3 : g ≤ 150) : 0 ≤ c * g ∧ c * g ≤ 150000 := by
  constructor
  · exact Int.mul_nonneg h0 (by omega)
  · calc c * g ≤ 1000 * g := Int.mul_le_mul_of_nonneg_right h1 (by omega)
      _ ≤ 1000 * 150 := Int.mul_le_mul_of_nonneg_left h3 (by omega)
      _ = 150000 := by omega
theorem read_plain {c g w : Int} (h : dok c g w = true) : wrap64 (Int.tdiv (wrap64 (c * g)) 100) = c * g / 100 := by
  have := dok_true h
  have hb := prod_bounds (c := c) (g := g) (by omega) (by omega) (by omega) (by omega)
  have e : wrap64 (c * g) = c * g := by unfold wrap64; omega
  rw [e, Int.tdiv_eq_ediv_of_nonneg hb.1]
  unfold wrap64; omega
theorem clamp_eq (x : Int) : impl_Clamp.f x 0 1000 = some (mn 1000 (mx 0 x)) := by
  unfold impl_Clamp.f mn mx
  rw [if_neg (by omega)]
  by_cases h1 : x < 0
  · rw [if_pos h1, if_neg (show ¬ (0 < x) by omega)]; rfl
  · rw [if_neg h1]
    by_cases h2 : 0 < x
    · rw [if_pos h2]
      by_cases h3 : 1000 < x
      · rw [if_pos h3, if_neg (show ¬ x < 1000 by omega)]
      · rw [if_neg h3]; congr 1; split <;> omega
    · rw [if_neg h2]
      obtain rfl : x = 0 := by omega
      rfl
theorem tdiv2 (x : Int) : (0 ≤ x ∧ 2 * Int.tdiv x 2 ≤ x ∧ x ≤ 2 * Int.tdiv x 2 + 1) ∨ (x < 0 ∧ x ≤ 2 * Int.tdiv x 2 ∧ 2 * Int.tdiv x 2 ≤ x + 1) := by
  rcases Int.lt_or_le x 0 with h | h
  · right
    have e : Int.tdiv x 2 = -((-x) / 2) := by
      have := Int.neg_tdiv (a := -x) (b := 2)
      rw [Int.neg_neg] at this
      rw [this, Int.tdiv_eq_ediv_of_nonneg (by omega)]
    rw [e]; omega
  · left
    rw [Int.tdiv_eq_ediv_of_nonneg h]; omega
def nxt (c g w : Int) : Int := mn 1000 (mx 0 (c + Int.tdiv (w - c * g / 100) 2))
theorem iadj_ok {c g w : Int} (h : dok c g w = true) : impl_AdjustCharge.f c g w = some (nxt c g w, g, w) := by
  have h0 := dok_true h
  have hb := prod_bounds (c := c) (g := g) (by omega) (by omega) (by omega) (by omega)
  have hr := read_plain h
  unfold impl_AdjustCharge.f nxt
  simp only [idok_eq, iread_eq, h, if_true, Option.bind_some, hr, clamp_eq]
  rw [show wrap64 (w - c * g / 100) = w - c * g / 100 from Loops.wrap_in (by omega) (by omega)]
  have ht : -5000 ≤ Int.tdiv (w - c * g / 100) 2 ∧ Int.tdiv (w - c * g / 100) 2 ≤ 5000 := by have := tdiv2 (w - c * g / 100); omega
  rw [show wrap64 (Int.tdiv (w - c * g / 100) 2) = Int.tdiv (w - c * g / 100) 2 from Loops.wrap_in (by omega) (by omega), show wrap64 (c + Int.tdiv (w - c * g / 100) 2) = c + Int.tdiv (w - c * g / 100) 2 from Loops.wrap_in (by omega) (by omega)]
theorem nxt_in (c g w : Int) : 0 ≤ nxt c g w ∧ nxt c g w ≤ 1000 := by
  unfold nxt mn mx
  split <;> split <;> omega
theorem nxt_ok {c g w : Int} (h : dok c g w = true) : dok (nxt c g w) g w = true := by
  have h0 := dok_true h
  have := nxt_in c g w
  exact dok_mk (by omega)
/-- Where the charge comes in at most d rounds, and in how many. -/
def settle (g w : Int) : Nat → Int → Int × Int
  | 0, c => (c, 0)
  | d + 1, c => if nxt c g w = c then (c, 0) else ((settle g w d (nxt c g w)).1, (settle g w d (nxt c g w)).2 + 1)
theorem settle_le (g w : Int) : ∀ (d : Nat) (c : Int), 0 ≤ (settle g w d c).2 ∧ (settle g w d c).2 ≤ d := by
  intro d
  induction d with
  | zero => intro c; simp [settle]
  | succ d ih =>
    intro c
    unfold settle
    have := ih (nxt c g w)
    split
    · simp only; omega
    · simp only; omega
theorem settle_ok {g w : Int} : ∀ (d : Nat) (c : Int), dok c g w = true → dok (settle g w d c).1 g w = true := by
  intro d
  induction d with
  | zero => intro c h; exact h
  | succ d ih =>
    intro c h
    unfold settle
    split
    · exact h
    · exact ih _ (nxt_ok h)
theorem isettle_loop {g w R : Int} (hR : R ≤ 100) : ∀ (d : Nat) (c n : Int), dok c g w = true → 0 ≤ n → n + d = R →
    Ev (fun k => impl_SettleDensity.l0 k R n c g w) ((settle g w d c).1, g, w, n + (settle g w d c).2) := by
  intro d
  induction d with
  | zero =>
    intro c n h hn hd
    refine Loops.Ev.one (fun k => ?_)
    simp only [impl_SettleDensity.l0]
    rw [if_neg (by omega)]
    simp [settle]
  | succ d ih =>
    intro c n h hn hd
    unfold settle
    by_cases he : nxt c g w = c
    · rw [if_pos he]
      refine Loops.Ev.one (fun k => ?_)
      simp only [impl_SettleDensity.l0]
      rw [if_pos (by omega), iadj_ok h]
      simp [he]
    · rw [if_neg he]
      refine Ev.step (f := fun k => impl_SettleDensity.l0 k R (n + 1) (nxt c g w) g w) (fun k => ?_) (Loops.Ev.eq (ih (nxt c g w) (n + 1) (nxt_ok h) (by omega) (by omega)) (by simp only [Prod.mk.injEq, true_and]; omega))
      simp only [impl_SettleDensity.l0]
      rw [if_pos (by omega), iadj_ok h, show wrap64 (n + 1) = n + 1 from Loops.wrap_in (by omega) (by omega)]
      simp [he]
theorem isettle_eq {c g w R : Int} (hR : 0 ≤ R ∧ R ≤ 100) (h : dok c g w = true) : Ev (fun k => impl_SettleDensity.f k c g w R) ((settle g w R.toNat c).1, g, w, (settle g w R.toNat c).2) := by
  unfold impl_SettleDensity.f
  refine Ev.bind (a := true) (Loops.Ev.const (by rw [idok_eq, h])) ?_
  simp only [if_true]
  refine Ev.bind (a := true) (Loops.Ev.const (by rw [within_eq, decide_eq_true hR])) ?_
  refine Ev.step (f := fun k => impl_SettleDensity.l0 k R 0 c g w) (fun k => by simp [impl_SettleDensity.j0]) (Loops.Ev.eq (isettle_loop hR.2 R.toNat c 0 h (by omega) (by omega)) (by simp))
theorem isettle_bad {c g w R : Int} (h : ¬ (dok c g w = true ∧ 0 ≤ R ∧ R ≤ 100)) : Ev (fun k => impl_SettleDensity.f k c g w R) (c, g, w, 0) := by
  unfold impl_SettleDensity.f
  refine Ev.bind (Loops.Ev.const (idok_eq c g w)) ?_
  cases hd : dok c g w with
  | false =>
    simp only [Bool.false_eq_true, if_false]
    exact Loops.Ev.one (fun k => by simp [impl_SettleDensity.j0])
  | true =>
    simp only [if_true]
    refine Ev.bind (a := false) (Loops.Ev.const (by rw [within_eq, decide_eq_false (fun h2 => h ⟨hd, h2⟩)])) ?_
    exact Loops.Ev.one (fun k => by simp [impl_SettleDensity.j0])
theorem sadj_ok {c g w : Int} (h : dok c g w = true) : spec_AdjustCharge.f c g w = some (nxt c g w, g, w) := by
  rw [← iadj_ok h]
  unfold impl_AdjustCharge.f spec_AdjustCharge.f
  simp only [sdok_eq, idok_eq, sread_eq, iread_eq, clamp_eq, Option.bind_some]
theorem ssettle_loop {g w R : Int} (hR : R ≤ 100) : ∀ (d : Nat) (c n : Int), dok c g w = true → 0 ≤ n → n + d = R →
    Ev (fun k => spec_SettleDensity.l0 k R n c g w) ((settle g w d c).1, g, w, n + (settle g w d c).2) := by
  intro d
  induction d with
  | zero =>
    intro c n h hn hd
    refine Loops.Ev.one (fun k => ?_)
    simp only [spec_SettleDensity.l0]
    rw [if_neg (by omega)]
    simp [settle]
  | succ d ih =>
    intro c n h hn hd
    unfold settle
    by_cases he : nxt c g w = c
    · rw [if_pos he]
      refine Loops.Ev.one (fun k => ?_)
      simp only [spec_SettleDensity.l0]
      rw [if_pos (by omega), sadj_ok h]
      simp [he]
    · rw [if_neg he]
      refine Ev.step (f := fun k => spec_SettleDensity.l0 k R (n + 1) (nxt c g w) g w) (fun k => ?_) (Loops.Ev.eq (ih (nxt c g w) (n + 1) (nxt_ok h) (by omega) (by omega)) (by simp only [Prod.mk.injEq, true_and]; omega))
      simp only [spec_SettleDensity.l0]
      rw [if_pos (by omega), sadj_ok h, show wrap64 (n + 1) = n + 1 from Loops.wrap_in (by omega) (by omega)]
      simp [he]
theorem ssettle_eq {c g w R : Int} (hR : 0 ≤ R ∧ R ≤ 100) (h : dok c g w = true) : Ev (fun k => spec_SettleDensity.f k c g w R) ((settle g w R.toNat c).1, g, w, (settle g w R.toNat c).2) := by
  unfold spec_SettleDensity.f
  refine Ev.bind (a := true) (Loops.Ev.const (by rw [sdok_eq, h])) ?_
  simp only [if_true]
  refine Ev.bind (a := true) (Loops.Ev.const (by rw [in_eq, decide_eq_true hR])) ?_
  refine Ev.step (f := fun k => spec_SettleDensity.l0 k R 0 c g w) (fun k => by simp [spec_SettleDensity.j0]) (Loops.Ev.eq (ssettle_loop hR.2 R.toNat c 0 h (by omega) (by omega)) (by simp))
theorem ssettle_bad {c g w R : Int} (h : ¬ (dok c g w = true ∧ 0 ≤ R ∧ R ≤ 100)) : Ev (fun k => spec_SettleDensity.f k c g w R) (c, g, w, 0) := by
  unfold spec_SettleDensity.f
  refine Ev.bind (Loops.Ev.const (sdok_eq c g w)) ?_
  cases hd : dok c g w with
  | false =>
    simp only [Bool.false_eq_true, if_false]
    exact Loops.Ev.one (fun k => by simp [spec_SettleDensity.j0])
  | true =>
    simp only [if_true]
    refine Ev.bind (a := false) (Loops.Ev.const (by rw [in_eq, decide_eq_false (fun h2 => h ⟨hd, h2⟩)])) ?_
    exact Loops.Ev.one (fun k => by simp [spec_SettleDensity.j0])
theorem FnExactSettleDensity : ∀ (a0_0 : Int) (a0_1 : Int) (a0_2 : Int) (a1 : Int), ((Lit.int .i64 a0_0).wf = true) → ((Lit.int .i64 a0_1).wf = true) → ((Lit.int .i64 a0_2).wf = true) → ((Lit.int .i64 a1).wf = true) → ∃ k, laws_FnExactSettleDensity.f k a0_0 a0_1 a0_2 a1 = some true := by
  intro c g w R _ _ _ _
  refine Ev.rounds ?_
  unfold laws_FnExactSettleDensity.f laws_toDensity.f
  simp only [Option.bind_some]
  by_cases h : dok c g w = true ∧ 0 ≤ R ∧ R ≤ 100
  · refine Ev.bind (ssettle_eq h.2 h.1) (Ev.bind (isettle_eq h.2 h.1) ?_)
    exact Loops.Ev.const (by simp [laws_eqDensity.f])
  · refine Ev.bind (ssettle_bad h) (Ev.bind (isettle_bad h) ?_)
    exact Loops.Ev.const (by simp [laws_eqDensity.f])

end Go.Proofs.Ytmhpdcfpfiindaa.Pure
