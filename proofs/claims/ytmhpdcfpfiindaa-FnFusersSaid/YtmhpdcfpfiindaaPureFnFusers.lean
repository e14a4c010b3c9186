/- The pure part of FnFusers: over numbers and lists alone. No condition beyond the numbers' own kinds. -/
import Derived.Test.YtmhpdcfpfiindaaQFnFusers5
import Derived.Test.YtmhpdcfpfiindaaLoops
import Derived.Test.YtmhpdcfpfiindaaDraw
namespace Go.Proofs.Ytmhpdcfpfiindaa.Pure
open Go.RowKit Go.Proofs.Ytmhpdcfpfiindaa.PFnFusers Go.Proofs.YtmhpdcfpfiindaaW.PrintWords Go.Proofs.YtmhpdcfpfiindaaW.PrintLast Go.Proofs.YtmhpdcfpfiindaaW.PrintMore
set_option linter.unusedVariables false
set_option linter.unusedSimpArgs false

theorem byte_some (b : List Int) (hb : b.length ≤ 1048576) (i h : Int) (hi : 0 ≤ i) : ∃ x i2 h2, spec_l01Byte.f b i h = some (x, i2, h2) ∧ 0 ≤ x ∧ x ≤ 255 ∧ 0 ≤ i2 := by
  unfold spec_l01Byte.f
  by_cases hl : i < (b.length : Int)
  · rw [if_pos hl, if_pos hi, show wrap64 (i + 1) = i + 1 from Loops.wrap_in (by omega) (by omega)]
    exact ⟨_, _, _, rfl, (Draw.and255 _).1, (Draw.and255 _).2, by omega⟩
  · rw [if_neg hl]
    exact ⟨_, _, _, rfl, (Draw.and255 _).1, (Draw.and255 _).2, hi⟩
theorem below_some (b : List Int) (hb : b.length ≤ 1048576) (i h n : Int) (hi : 0 ≤ i) (hn : 0 < n) : ∃ x i2 h2, spec_l01Below.f b i h n = some (x, i2, h2) ∧ 0 ≤ x ∧ x < n ∧ 0 ≤ i2 := by
  unfold spec_l01Below.f
  rw [if_neg (by omega)]
  by_cases h8 : n ≤ 256
  · rw [if_pos h8]
    obtain ⟨x, i2, h2, e, hx0, hx1, hi2⟩ := byte_some b hb i h hi
    rw [e]
    simp only [Option.bind_some]
    rw [if_neg (by omega)]
    refine ⟨_, _, _, rfl, Int.tmod_nonneg _ hx0, Int.tmod_lt_of_pos _ hn, hi2⟩
  · rw [if_neg h8]
    obtain ⟨x, i2, h2, e, hx0, hx1, hi2⟩ := byte_some b hb i h hi
    rw [e]
    simp only [Option.bind_some]
    obtain ⟨y, i3, h3, e3, hy0, hy1, hi3⟩ := byte_some b hb i2 h2 hi2
    rw [e3]
    simp only [Option.bind_some]
    obtain ⟨z, i4, h4, e4, hz0, hz1, hi4⟩ := byte_some b hb i3 h3 hi3
    rw [e4]
    simp only [Option.bind_some]
    obtain ⟨w, i5, h5, e5, hw0, hw1, hi5⟩ := byte_some b hb i4 h4 hi4
    rw [e5]
    simp only [Option.bind_some]
    rw [if_neg (by omega)]
    refine ⟨_, _, _, rfl, Int.tmod_nonneg _ ?_, Int.tmod_lt_of_pos _ hn, hi5⟩
    unfold wrap64
    omega
theorem new_some (b : List Int) (hb : b.length ≤ 1048576) : ∃ h, Ev (fun k => spec_l01New.f k b) (b, 0, h) := by
  have key : ∀ (d : Nat) (i h : Int), 0 ≤ i → 4000 - i ≤ d → ∃ h2, Ev (fun k => spec_l01New.l0 k b h i) (b, 0, h2) := by
    intro d
    induction d with
    | zero =>
      intro i h h0 hd
      refine ⟨h, Loops.Ev.one (fun k => ?_)⟩
      simp only [spec_l01New.l0]
      by_cases hl : i < (b.length : Int)
      · rw [if_pos hl, if_neg (by omega)]
      · rw [if_neg hl]
    | succ d ih =>
      intro i h h0 hd
      by_cases hl : i < (b.length : Int) ∧ i < 4000
      · obtain ⟨h2, e⟩ := ih (i + 1) (Go.bits .and .i64 (wrap64 ((wrap64 ((wrap64 (h * 131)) + (wrap64 (rd b i)))) + 7)) 1073741823) (by omega) (by omega)
        refine ⟨h2, Ev.step (fun k => ?_) e⟩
        simp only [spec_l01New.l0]
        rw [if_pos hl.1, if_pos hl.2, if_pos h0, show wrap64 (i + 1) = i + 1 from Loops.wrap_in (by omega) (by omega)]
      · refine ⟨h, Loops.Ev.one (fun k => ?_)⟩
        simp only [spec_l01New.l0]
        by_cases hl1 : i < (b.length : Int)
        · rw [if_pos hl1, if_neg (by omega)]
        · rw [if_neg hl1]
  obtain ⟨h2, e⟩ := key 4000 0 (wrap64 (98729 + (b.length : Int))) (by omega) (by omega)
  exact ⟨h2, e⟩
theorem within_eq (a b c : Int) : impl_within.f a b c = some (decide (b ≤ a ∧ a ≤ c)) := by
  unfold impl_within.f
  by_cases h : a ≥ b
  · rw [if_pos h]; congr 1; simp; omega
  · rw [if_neg h]; congr 1; simp; omega
def fok (t l h e c o : Int) : Bool := decide (0 ≤ l ∧ l ≤ 300) && (decide (0 ≤ h ∧ h ≤ 300) && (decide (2 ≤ e ∧ e ≤ 20) && (decide (1 ≤ c ∧ c ≤ 20) && (decide (0 ≤ o ∧ o ≤ wrap64 (e - 1)) && (decide (h ≥ wrap64 (wrap64 (wrap64 (l + e) + c) + o)) && decide (0 ≤ t ∧ t ≤ h))))))
theorem fok_true {t l h e c o : Int} (H : fok t l h e c o = true) : (0 ≤ l ∧ l ≤ 300) ∧ (0 ≤ h ∧ h ≤ 300) ∧ (2 ≤ e ∧ e ≤ 20) ∧ (1 ≤ c ∧ c ≤ 20) ∧ (0 ≤ o ∧ o ≤ e - 1) ∧ l + e + c + o ≤ h ∧ 0 ≤ t ∧ t ≤ h := by
  simp only [fok, Bool.and_eq_true, decide_eq_true_eq, wrap64] at H; omega
theorem fok_mk {t l h e c o : Int} (H : (0 ≤ l ∧ l ≤ 300) ∧ (0 ≤ h ∧ h ≤ 300) ∧ (2 ≤ e ∧ e ≤ 20) ∧ (1 ≤ c ∧ c ≤ 20) ∧ (0 ≤ o ∧ o ≤ e - 1) ∧ l + e + c + o ≤ h ∧ 0 ≤ t ∧ t ≤ h) : fok t l h e c o = true := by
  simp only [fok, Bool.and_eq_true, decide_eq_true_eq, wrap64]; omega
theorem ifok_eq (t l h e c o : Int) : impl_FuserOk.f t l h e c o = some (fok t l h e c o) := by
  unfold impl_FuserOk.f fok
  simp only [within_eq, Option.bind_some]
  cases decide (0 ≤ l ∧ l ≤ 300)
  · rfl
  cases decide (0 ≤ h ∧ h ≤ 300)
  · rfl
  cases decide (2 ≤ e ∧ e ≤ 20)
  · rfl
  cases decide (1 ≤ c ∧ c ≤ 20)
  · rfl
  cases decide (0 ≤ o ∧ o ≤ wrap64 (e - 1))
  · rfl
  by_cases hh : h ≥ wrap64 (wrap64 (wrap64 (l + e) + c) + o)
  · simp [hh]
  · simp [hh]
theorem ihot_eq (t l h e c o : Int) : impl_IsHot.f t l h e c o = some (fok t l h e c o && decide (l ≤ t)) := by
  unfold impl_IsHot.f
  rw [ifok_eq, Option.bind_some]
  cases fok t l h e c o <;> simp
def stp (t h e c o : Int) (s : Bool) : Int := mx 0 ((if t + e ≤ h then t + e else t - c) - (if s = true then o else 0))
theorem istep_bad {t l h e c o : Int} (s : Bool) (H : fok t l h e c o = false) : impl_StepFuser.f t l h e c o s = some (t, l, h, e, c, o) := by
  unfold impl_StepFuser.f
  simp [ifok_eq, H]
theorem istep_ok {t l h e c o : Int} (s : Bool) (H : fok t l h e c o = true) : impl_StepFuser.f t l h e c o s = some (stp t h e c o s, l, h, e, c, o) := by
  unfold impl_StepFuser.f stp
  have h0 := fok_true H
  have e1 : wrap64 (t + e) = t + e := by unfold wrap64; omega
  have e2 : wrap64 (t - c) = t - c := by unfold wrap64; omega
  have e3 : wrap64 (t + e - o) = t + e - o := by unfold wrap64; omega
  have e4 : wrap64 (t - c - o) = t - c - o := by unfold wrap64; omega
  simp only [ifok_eq, H, Option.bind_some, if_true, e1, e2, e3, e4]
  by_cases hh : t + e ≤ h <;> cases s <;> simp [hh]
theorem stp_ok {t l h e c o : Int} (s : Bool) (H : fok t l h e c o = true) : fok (stp t h e c o s) l h e c o = true := by
  have h0 := fok_true H
  refine fok_mk ?_
  unfold stp mx
  refine ⟨h0.1, h0.2.1, h0.2.2.1, h0.2.2.2.1, h0.2.2.2.2.1, h0.2.2.2.2.2.1, ?_⟩
  split <;> split <;> split at * <;> omega
theorem stp_up {t l h e c o : Int} (H : fok t l h e c o = true) (hl : t < l) : stp t h e c o false = t + e := by
  have h0 := fok_true H
  unfold stp mx
  simp only [Bool.false_eq_true, if_false]
  rw [if_pos (by omega), if_pos (by omega)]; omega
/-- How often a fuser at t is heated till it is hot. -/
def warm (l e : Int) : Nat → Int → Nat
  | 0, _ => 0
  | d + 1, t => if t < l then warm l e d (t + e) + 1 else 0
theorem warm_le (l e : Int) (he : 2 ≤ e) : ∀ (d : Nat) (t : Int), 0 ≤ t → (warm l e d t : Int) ≤ max 0 (l - t) := by
  intro d
  induction d with
  | zero => intro t _; show ((0 : Nat) : Int) ≤ _; omega
  | succ d ih =>
    intro t ht
    unfold warm
    split
    · have := ih (t + e) (by omega); omega
    · omega
theorem iwarm_loop {l h e c o : Int} : ∀ (d : Nat) (t x : Int), fok t l h e c o = true → (l - t).toNat < d → 0 ≤ x → x + l - t ≤ 4000 → Ev (fun k => impl_WarmUp.l0 k x t l h e c o) (x + warm l e d t) := by
  intro d
  induction d with
  | zero => intro t x _ h1; omega
  | succ d ih =>
    intro t x H hd hx hx2
    have h0 := fok_true H
    unfold warm
    by_cases hl : t < l
    · rw [if_pos hl]
      refine Ev.step (f := fun k => impl_WarmUp.l0 k (x + 1) (t + e) l h e c o) (fun k => ?_) (Loops.Ev.eq (ih (t + e) (x + 1) ?_ (by omega) (by omega) (by omega)) (by omega))
      · simp only [impl_WarmUp.l0]
        rw [ihot_eq, H, decide_eq_false (by omega), istep_ok false H, stp_up H hl]
        simp only [Bool.and_false, Option.bind_some, Bool.false_eq_true, if_false]
        rw [show wrap64 (x + 1) = x + 1 from Loops.wrap_in (by omega) (by omega)]
      · have := stp_ok false H
        rwa [stp_up H hl] at this
    · rw [if_neg hl]
      refine Loops.Ev.one (fun k => ?_)
      simp only [impl_WarmUp.l0]
      rw [ihot_eq, H, decide_eq_true (by omega)]
      simp
theorem iwarm_eq {t l h e c o : Int} (H : fok t l h e c o = true) : Ev (fun k => impl_WarmUp.f k t l h e c o) (warm l e 400 t : Int) := by
  have h0 := fok_true H
  unfold impl_WarmUp.f
  refine Ev.bind (a := true) (Loops.Ev.const (by rw [ifok_eq, H])) ?_
  simp only [if_true]
  exact Loops.Ev.eq (iwarm_loop 400 t 0 H (by omega) (by omega) (by omega)) (by omega)
/-- What a fuser's row of sheets does: the heat, and how many pass. -/
def runf (l h e c o : Int) : List Bool → Int → Int → Int × Int
  | [], t, n => (t, n)
  | s :: ss, t, n => runf l h e c o ss (stp t h e c o (s && decide (l ≤ t))) (n + if (s && decide (l ≤ t)) = true then 1 else 0)
theorem drop_cons_of {l : List Bool} {i : Nat} (h : i < l.length) : l.drop i = l.getD i false :: l.drop (i + 1) := by
  rw [List.drop_eq_getElem_cons h]
  simp [List.getD, List.getElem?_eq_getElem h]
theorem irun_loop {l h e c o : Int} (L : List Bool) (hL : L.length ≤ 1048576) : ∀ (d i : Nat) (t n : Int), i + d = L.length → fok t l h e c o = true → 0 ≤ n → n ≤ i →
    Ev (fun k => impl_RunFuser.l0 k n L (L.length : Int) (i : Int) t l h e c o) ((runf l h e c o (L.drop i) t n).1, l, h, e, c, o, (runf l h e c o (L.drop i) t n).2) := by
  intro d
  induction d with
  | zero =>
    intro i t n hi H hn hni
    refine Loops.Ev.one (fun k => ?_)
    simp only [impl_RunFuser.l0]
    rw [if_neg (by omega), List.drop_of_length_le (by omega)]
    rfl
  | succ d ih =>
    intro i t n hi H hn hni
    have hlt : i < L.length := by omega
    rw [drop_cons_of hlt]
    unfold runf
    have hs := stp_ok (L.getD i false && decide (l ≤ t)) H
    refine Ev.step (f := fun k => impl_RunFuser.l0 k (n + if (L.getD i false && decide (l ≤ t)) = true then 1 else 0) L (L.length : Int) ((i + 1 : Nat) : Int) (stp t h e c o (L.getD i false && decide (l ≤ t))) l h e c o) (fun k => ?_) (ih (i + 1) _ _ (by omega) hs (by split <;> omega) (by split <;> omega))
    simp only [impl_RunFuser.l0]
    rw [if_pos (by omega), if_pos (by omega), if_pos (by omega), Loops.wrap_succ hlt (by omega), show wrap64 (n + 1) = n + 1 from Loops.wrap_in (by omega) (by omega), Loops.rdOf_nat]
    cases L.getD i false with
    | false => simp [istep_ok _ H]
    | true =>
      by_cases hl : l ≤ t
      · simp [ihot_eq, H, hl, istep_ok _ H]
      · simp [ihot_eq, H, hl, istep_ok _ H]
theorem irun_eq {t l h e c o : Int} (L : List Bool) (hL : L.length ≤ 1048576) (H : fok t l h e c o = true) :
    Ev (fun k => impl_RunFuser.f k t l h e c o L) ((runf l h e c o L t 0).1, l, h, e, c, o, (runf l h e c o L t 0).2) := by
  unfold impl_RunFuser.f
  refine Ev.bind (a := true) (Loops.Ev.const (by rw [ifok_eq, H])) ?_
  simp only [if_true]
  exact irun_loop L hL L.length 0 t 0 (by omega) H (by omega) (by omega)
theorem once_some (b : List Int) (hb : b.length ≤ 1048576) (i h n : Int) (hi : 0 ≤ i) (hn : 0 < n) : ∃ x i2 h2, spec_l01Once.f b i h n = some (x, i2, h2) ∧ 0 ≤ i2 := by
  unfold spec_l01Once.f
  obtain ⟨x, i2, h2, e, _, _, hi2⟩ := below_some b hb i h n hi hn
  rw [e]
  exact ⟨_, _, _, rfl, hi2⟩
theorem fuser_some (b : List Int) (hb : b.length ≤ 1048576) (i h : Int) (hi : 0 ≤ i) : ∃ t l g e c o i2 h2, spec_l34Fuser.f b i h = some (t, l, g, e, c, o, i2, h2) ∧ fok t l g e c o = true ∧ 0 ≤ i2 := by
  unfold spec_l34Fuser.f
  obtain ⟨x1, i1, h1, e1, a1, b1, hi1⟩ := below_some b hb i h 200 hi (by omega)
  rw [e1]; simp only [Option.bind_some]
  obtain ⟨x2, i2, h2, e2, a2, b2, hi2⟩ := below_some b hb i1 h1 12 hi1 (by omega)
  rw [e2]; simp only [Option.bind_some]
  obtain ⟨x3, i3, h3, e3, a3, b3, hi3⟩ := below_some b hb i2 h2 9 hi2 (by omega)
  rw [e3]; simp only [Option.bind_some]
  rw [show wrap64 (2 + x2) = 2 + x2 from Loops.wrap_in (by omega) (by omega)]
  obtain ⟨x4, i4, h4, e4, a4, b4, hi4⟩ := below_some b hb i3 h3 (2 + x2) hi3 (by omega)
  rw [e4]; simp only [Option.bind_some]
  obtain ⟨x5, i5, h5, e5, a5, b5, hi5⟩ := below_some b hb i4 h4 20 hi4 (by omega)
  rw [e5]; simp only [Option.bind_some]
  rw [show wrap64 (x1 + (2 + x2)) = x1 + (2 + x2) from Loops.wrap_in (by omega) (by omega), show wrap64 (1 + x3) = 1 + x3 from Loops.wrap_in (by omega) (by omega),
    show wrap64 (x1 + (2 + x2) + (1 + x3)) = x1 + (2 + x2) + (1 + x3) from Loops.wrap_in (by omega) (by omega), show wrap64 (x1 + (2 + x2) + (1 + x3) + x4) = x1 + (2 + x2) + (1 + x3) + x4 from Loops.wrap_in (by omega) (by omega),
    show wrap64 (x1 + (2 + x2) + (1 + x3) + x4 + x5) = x1 + (2 + x2) + (1 + x3) + x4 + x5 from Loops.wrap_in (by omega) (by omega), show wrap64 (x1 + (2 + x2) + (1 + x3) + x4 + x5 + 1) = x1 + (2 + x2) + (1 + x3) + x4 + x5 + 1 from Loops.wrap_in (by omega) (by omega)]
  obtain ⟨x6, i6, h6, e6, a6, b6, hi6⟩ := below_some b hb i5 h5 (x1 + (2 + x2) + (1 + x3) + x4 + x5 + 1) hi5 (by omega)
  rw [e6]; simp only [Option.bind_some]
  exact ⟨_, _, _, _, _, _, _, _, rfl, fok_mk (by omega), hi6⟩
theorem sheets_loop (b : List Int) (hb : b.length ≤ 1048576) (n : Int) (hn : n ≤ 20) : ∀ (d : Nat) (L : List Bool) (i h : Int), 0 ≤ i → (L.length : Int) + d = n → ∃ M i2 h2, Ev (fun k => spec_l34Sheets.l0 k L n (L.length : Int) b i h) (M, i2, h2) ∧ M.length ≤ 20 := by
  intro d
  induction d with
  | zero =>
    intro L i h hi hd
    refine ⟨L, i, h, Loops.Ev.one (fun k => ?_), by omega⟩
    simp only [spec_l34Sheets.l0]
    rw [if_neg (by omega)]
  | succ d ih =>
    intro L i h hi hd
    obtain ⟨x, i2, h2, e, hi2⟩ := once_some b hb i h 3 hi (by omega)
    obtain ⟨M, i3, h3, ev, hM⟩ := ih (L ++ [!x]) i2 h2 hi2 (by simp; omega)
    refine ⟨M, i3, h3, Ev.step (fun k => ?_) ev, hM⟩
    simp only [spec_l34Sheets.l0]
    rw [if_pos (by omega), e]
    simp only [Option.bind_some]
    rw [if_pos (by omega), show wrap64 ((L.length : Int) + 1) = ((L ++ [!x]).length : Int) by simp; exact Loops.wrap_in (by omega) (by omega)]
theorem sheets_some (b : List Int) (hb : b.length ≤ 1048576) (i h : Int) (hi : 0 ≤ i) : ∃ M i2 h2, Ev (fun k => spec_l34Sheets.f k b i h) (M, i2, h2) ∧ M.length ≤ 20 := by
  unfold spec_l34Sheets.f
  obtain ⟨n, i1, h1, e1, a1, b1, hi1⟩ := below_some b hb i h 20 hi (by omega)
  obtain ⟨M, i2, h2, ev, hM⟩ := sheets_loop b hb n (by omega) n.toNat [] i1 h1 hi1 (by simp; omega)
  exact ⟨M, i2, h2, Ev.bind (a := (n, i1, h1)) (Loops.Ev.const e1) ev, hM⟩
theorem draw_some (b : List Int) (hb : b.length ≤ 1048576) : ∃ t l g e c o L, Ev (fun k => spec_DrawFuser.f k b) (t, l, g, e, c, o, L) ∧ fok t l g e c o = true ∧ L.length ≤ 20 := by
  unfold spec_DrawFuser.f
  obtain ⟨h0, e0⟩ := new_some b hb
  obtain ⟨t, l, g, e, c, o, i1, h1, e1, hf, hi1⟩ := fuser_some b hb 0 h0 (by omega)
  obtain ⟨L, i2, h2, ev, hL⟩ := sheets_some b hb i1 h1 hi1
  exact ⟨t, l, g, e, c, o, L, Ev.bind e0 (Ev.bind (a := (t, l, g, e, c, o, i1, h1)) (Loops.Ev.const e1) (Ev.bind ev (Ev.now _))), hf, hL⟩
def heat (h e c o : Int) : Nat → Int → Int
  | 0, t => t
  | n + 1, t => heat h e c o n (stp t h e c o false)
/-- Heated as often as it takes: hot at the end, and not before. -/
theorem warm_heat {l h e c o : Int} : ∀ (d : Nat) (t : Int), fok t l h e c o = true → (l - t).toNat < d → l ≤ heat h e c o (warm l e d t) t ∧ fok (heat h e c o (warm l e d t) t) l h e c o = true ∧ ∀ j, j < warm l e d t → heat h e c o j t < l ∧ fok (heat h e c o j t) l h e c o = true := by
  intro d
  induction d with
  | zero => intro t _ h1; omega
  | succ d ih =>
    intro t H hd
    have h0 := fok_true H
    unfold warm
    by_cases hl : t < l
    · rw [if_pos hl]
      have hs := stp_ok false H
      have hu := stp_up H hl
      rw [hu] at hs
      obtain ⟨g1, g2, g3⟩ := ih (t + e) hs (by omega)
      refine ⟨by show l ≤ heat h e c o (warm l e d (t + e)) (stp t h e c o false); rw [hu]; exact g1, by show fok (heat h e c o (warm l e d (t + e)) (stp t h e c o false)) l h e c o = true; rw [hu]; exact g2, ?_⟩
      intro j hj
      cases j with
      | zero => exact ⟨hl, H⟩
      | succ j =>
        have := g3 j (by omega)
        show heat h e c o j (stp t h e c o false) < l ∧ fok (heat h e c o j (stp t h e c o false)) l h e c o = true
        rw [hu]
        exact this
    · rw [if_neg hl]
      exact ⟨by show l ≤ t; omega, H, fun j hj => by omega⟩
theorem heat_succ (h e c o : Int) : ∀ (j : Nat) (t : Int), heat h e c o (j + 1) t = stp (heat h e c o j t) h e c o false := by
  intro j
  induction j with
  | zero => intro t; rfl
  | succ j ih => intro t; exact ih _
/-- A hot fuser stays hot, and every sheet passes. -/
def ones : List Bool → Int
  | [] => 0
  | s :: ss => (if s = true then 1 else 0) + ones ss
theorem ones_le : ∀ L : List Bool, 0 ≤ ones L ∧ ones L ≤ L.length
  | [] => by simp [ones]
  | s :: ss => by have := ones_le ss; simp only [ones, List.length_cons]; split <;> omega
theorem run_hot {l h e c o : Int} : ∀ (L : List Bool) (t n : Int), fok t l h e c o = true → l ≤ t → l ≤ (runf l h e c o L t n).1 ∧ fok (runf l h e c o L t n).1 l h e c o = true ∧ (runf l h e c o L t n).2 = n + ones L := by
  intro L
  induction L with
  | nil => intro t n H hl; exact ⟨hl, H, by simp [runf, ones]⟩
  | cons s ss ih =>
    intro t n H hl
    have h0 := fok_true H
    have hd : decide (l ≤ t) = true := decide_eq_true hl
    unfold runf ones
    rw [hd, Bool.and_true]
    have hh : l ≤ stp t h e c o s := by
      unfold stp mx
      split <;> split <;> split <;> omega
    obtain ⟨g1, g2, g3⟩ := ih _ (n + if s = true then 1 else 0) (stp_ok s H) hh
    exact ⟨g1, g2, by rw [g3]; omega⟩
theorem run_ok {l h e c o : Int} : ∀ (L : List Bool) (t n : Int), fok t l h e c o = true → fok (runf l h e c o L t n).1 l h e c o = true ∧ n ≤ (runf l h e c o L t n).2 ∧ (runf l h e c o L t n).2 ≤ n + L.length := by
  intro L
  induction L with
  | nil => intro t n H; exact ⟨H, by simp [runf], by simp [runf]⟩
  | cons s ss ih =>
    intro t n H
    unfold runf
    obtain ⟨g1, g2, g3⟩ := ih _ (n + if (s && decide (l ≤ t)) = true then 1 else 0) (stp_ok (s && decide (l ≤ t)) H)
    have q0 : (0 : Int) ≤ if (s && decide (l ≤ t)) = true then 1 else 0 := by split <;> omega
    have q1 : (if (s && decide (l ≤ t)) = true then (1 : Int) else 0) ≤ 1 := by split <;> omega
    exact ⟨g1, by omega, by simp only [List.length_cons]; omega⟩
theorem tail_l1 {t l h e c o g x w : Int} (L : List Bool) (hL : L.length ≤ 20) (hw : 0 ≤ w) (Hx : fok x l h e c o = true) (hx : l ≤ x) (hg : g ≤ h) : ∀ (d i : Nat) (n : Int), i + d = L.length → 0 ≤ n → n ≤ i → n + ones (L.drop i) = ones L →
    Ev (fun k => laws_FnFusers.l1 k L w n (i : Int) t l h e c o g l h e c o x l h e c o) true := by
  intro d
  induction d with
  | zero =>
    intro i n hi hn hni hs
    rw [List.drop_of_length_le (by omega)] at hs
    simp only [ones] at hs
    obtain ⟨g1, g2, g3⟩ := run_hot L x 0 Hx hx
    refine Ev.step (f := fun k => (impl_RunFuser.f k x l h e c o L).bind fun bt248 => (if w ≥ 0 then ((impl_IsHot.f x l h e c o).bind fun t256 => (if t256 = true then (if bt248.2.2.2.2.2.2 = n then ((impl_IsHot.f bt248.1 bt248.2.1 bt248.2.2.1 bt248.2.2.2.1 bt248.2.2.2.2.1 bt248.2.2.2.2.2.1).bind fun t257 => (if t257 = true then (some (decide (g ≤ h))) else (some false))) else (some false)) else (some false))) else (some false))) (fun k => ?_) (Ev.bind (irun_eq L (by omega) Hx) (Loops.Ev.const ?_))
    · simp only [laws_FnFusers.l1]
      rw [if_neg (by omega)]
    · simp only [ihot_eq, Hx, g2, Option.bind_some, decide_eq_true hx, decide_eq_true g1, Bool.and_true, if_true]
      rw [if_pos hw, if_pos (by omega), decide_eq_true hg]
  | succ d ih =>
    intro i n hi hn hni hs
    have hlt : i < L.length := by omega
    rw [drop_cons_of hlt] at hs
    simp only [ones] at hs
    refine Ev.step (fun k => ?_) (ih (i + 1) (n + if L.getD i false = true then 1 else 0) (by omega) (by split <;> omega) (by split <;> omega) (by omega))
    simp only [laws_FnFusers.l1]
    rw [if_pos (by omega), if_pos (by omega), Loops.wrap_succ hlt (by omega), Loops.rdOf_nat]
    unfold laws_btoi.f
    cases L.getD i false with
    | false => simp only [Bool.false_eq_true, if_false, Option.bind_some]; rw [show wrap64 (n + 0) = n + 0 from Loops.wrap_in (by omega) (by omega)]
    | true => simp only [if_true, Option.bind_some]; rw [show wrap64 (n + 1) = n + 1 from Loops.wrap_in (by omega) (by omega)]
theorem tail_l0 {t l h e c o g : Int} (L : List Bool) (hL : L.length ≤ 20) (H : fok t l h e c o = true) (hg : g ≤ h) (w : Nat) (hwe : w = warm l e 400 t) (hw : w ≤ 400) : ∀ (d i : Nat), i + d = w →
    Ev (fun k => laws_FnFusers.l0 k L (w : Int) (i : Int) t l h e c o g l h e c o (heat h e c o i t) l h e c o) true := by
  have h0 := fok_true H
  obtain ⟨g1, g2, g3⟩ := warm_heat 400 t H (by omega)
  rw [← hwe] at g1 g2 g3
  intro d
  induction d with
  | zero =>
    intro i hi
    obtain rfl : i = w := by omega
    refine Ev.step (f := fun k => laws_FnFusers.l1 k L (i : Int) 0 0 t l h e c o g l h e c o (heat h e c o i t) l h e c o) (fun k => ?_) (tail_l1 L hL (by omega) g2 g1 hg L.length 0 0 (by omega) (by omega) (by omega) (by simp))
    simp only [laws_FnFusers.l0]
    rw [if_neg (by omega)]
  | succ d ih =>
    intro i hi
    obtain ⟨q1, q2⟩ := g3 i (by omega)
    refine Ev.step (fun k => ?_) (ih (i + 1) (by omega))
    simp only [laws_FnFusers.l0]
    rw [if_pos (by omega), ihot_eq, q2, decide_eq_false (by omega), istep_ok false q2, Loops.wrap_succ (n := w) (by omega) (by omega), heat_succ]
    simp
theorem FnFusers : ∀ (l0 : List Int), (l0.length ≤ maxLen ∧ ∀ x ∈ l0, (Lit.int .u8 x).wf = true) → ∃ k, laws_FnFusers.f k l0 = some true := by
  intro b _
  refine Ev.rounds ?_
  unfold laws_FnFusers.f laws_big.f
  simp only [Option.bind_some]
  by_cases hb : (b.length : Int) > 1048576
  · simp only [decide_eq_true hb, if_true]
    exact Ev.now _
  simp only [decide_eq_false hb, Bool.false_eq_true, if_false]
  obtain ⟨t, l, h, e, c, o, L, ev, H, hL⟩ := draw_some b (by omega)
  have h0 := fok_true H
  obtain ⟨r1, r2, r3⟩ := run_ok L t 0 H
  have hr := fok_true r1
  refine Ev.bind ev (Ev.bind (irun_eq L (by omega) H) ?_)
  simp only [ifok_eq, r1, Option.bind_some, if_true]
  rw [decide_eq_false (show ¬ (runf l h e c o L t 0).2 > (L.length : Int) by omega)]
  have hw := warm_le l e (by omega) 400 t (by omega)
  refine Ev.step (f := fun k => (impl_WarmUp.f k t l h e c o).bind fun t237 => (if t237 < 0 then (laws_FnFusers.j1 k L t237 true t l h e c o (runf l h e c o L t 0).1 l h e c o t l h e c o) else (laws_FnFusers.j1 k L t237 (decide (t237 > 400)) t l h e c o (runf l h e c o L t 0).1 l h e c o t l h e c o))) (fun k => ?_) (Ev.bind (iwarm_eq H) ?_)
  · simp [laws_FnFusers.j0]
  simp only [if_neg (show ¬ ((warm l e 400 t : Nat) : Int) < 0 by omega)]
  rw [decide_eq_false (show ¬ ((warm l e 400 t : Nat) : Int) > 400 by omega)]
  refine Ev.step (f := fun k => laws_FnFusers.l0 k L ((warm l e 400 t : Nat) : Int) ((0 : Nat) : Int) t l h e c o (runf l h e c o L t 0).1 l h e c o (heat h e c o 0 t) l h e c o) (fun k => ?_) (tail_l0 L hL H (by omega) _ rfl (by omega) (warm l e 400 t) 0 (by omega))
  simp [laws_FnFusers.j1, heat]

end Go.Proofs.Ytmhpdcfpfiindaa.Pure
