/- The pure part of FnExactRunFuser: over numbers and lists alone. No condition beyond the numbers' own kinds. -/
import Derived.Test.YtmhpdcfpfiindaaQFnExactRunFuser5
import Derived.Test.YtmhpdcfpfiindaaLoops
namespace Go.Proofs.Ytmhpdcfpfiindaa.Pure
open Go.RowKit Go.Proofs.Ytmhpdcfpfiindaa.PFnExactRunFuser Go.Proofs.YtmhpdcfpfiindaaW.PrintWords Go.Proofs.YtmhpdcfpfiindaaW.PrintLast Go.Proofs.YtmhpdcfpfiindaaW.PrintMore
set_option linter.unusedVariables false
set_option linter.unusedSimpArgs false

theorem within_eq (a b c : Int) : impl_within.f a b c = some (decide (b ≤ a ∧ a ≤ c)) := by
  unfold impl_within.f
  by_cases h : a ≥ b
  · rw [if_pos h]; congr 1; simp; omega
  · rw [if_neg h]; congr 1; simp; omega
theorem in_eq (a b c : Int) : spec_l01In.f a b c = some (decide (b ≤ a ∧ a ≤ c)) := by
  unfold spec_l01In.f
  by_cases h : a ≥ b
  · rw [if_pos h]; congr 1; simp; omega
  · rw [if_neg h]; congr 1; simp; omega
def fok (t l h e c o : Int) : Bool := decide (0 ≤ l ∧ l ≤ 300) && (decide (0 ≤ h ∧ h ≤ 300) && (decide (2 ≤ e ∧ e ≤ 20) && (decide (1 ≤ c ∧ c ≤ 20) && (decide (0 ≤ o ∧ o ≤ wrap64 (e - 1)) && (decide (h ≥ wrap64 (wrap64 (wrap64 (l + e) + c) + o)) && decide (0 ≤ t ∧ t ≤ h))))))
theorem fok_true {t l h e c o : Int} (H : fok t l h e c o = true) : (0 ≤ l ∧ l ≤ 300) ∧ (0 ≤ h ∧ h ≤ 300) ∧ (2 ≤ e ∧ e ≤ 20) ∧ (1 ≤ c ∧ c ≤ 20) ∧ (0 ≤ o ∧ o ≤ e - 1) ∧ l + e + c + o ≤ h ∧ 0 ≤ t ∧ t ≤ h := by
  simp only [fok, Bool.and_eq_true, decide_eq_true_eq, wrap64] at H; omega
theorem fok_mk {t l h e c o : Int} (H : (0 ≤ l ∧ l ≤ 300) ∧ (0 ≤ h ∧ h ≤ 300) ∧ (2 ≤ e ∧ e ≤ 20) ∧ (1 ≤ c ∧ c ≤ 20) ∧ (0 ≤ o ∧ o ≤ e - 1) ∧ l + e + c + o ≤ h ∧ 0 ≤ t ∧ t ≤ h) : fok t l h e c o = true := by
  simp only [fok, Bool.and_eq_true, decide_eq_true_eq, wrap64]; omega
theorem ifok_eq (t l h e c o : Int) : impl_FuserOk.f t l h e c o = some (fok t l h e c o) := by
  unfold impl_FuserOk.f fok
  simp only [within_eq, Option.bind_some]
  cases decide (0 ≤ l ∧ l ≤ 300)
  · rfl
  cases decide (0 ≤ h ∧ h ≤ 300)
  · rfl
  cases decide (2 ≤ e ∧ e ≤ 20)
  · rfl
  cases decide (1 ≤ c ∧ c ≤ 20)
  · rfl
  cases decide (0 ≤ o ∧ o ≤ wrap64 (e - 1))
  · rfl
  by_cases hh : h ≥ wrap64 (wrap64 (wrap64 (l + e) + c) + o)
  · simp [hh]
  · simp [hh]
theorem sfok_eq (t l h e c o : Int) : spec_FuserOk.f t l h e c o = some (fok t l h e c o) := by
  unfold spec_FuserOk.f fok
  simp only [in_eq, Option.bind_some]
  cases decide (0 ≤ l ∧ l ≤ 300)
  · rfl
  cases decide (0 ≤ h ∧ h ≤ 300)
  · rfl
  cases decide (2 ≤ e ∧ e ≤ 20)
  · rfl
  cases decide (1 ≤ c ∧ c ≤ 20)
  · rfl
  cases decide (0 ≤ o ∧ o ≤ wrap64 (e - 1))
  · rfl
  by_cases hh : h ≥ wrap64 (wrap64 (wrap64 (l + e) + c) + o)
  · simp [hh]
  · simp [hh]
theorem ihot_eq (t l h e c o : Int) : impl_IsHot.f t l h e c o = some (fok t l h e c o && decide (l ≤ t)) := by
  unfold impl_IsHot.f
  rw [ifok_eq, Option.bind_some]
  cases fok t l h e c o <;> simp
theorem shot_eq (t l h e c o : Int) : spec_IsHot.f t l h e c o = some (fok t l h e c o && decide (l ≤ t)) := by
  unfold spec_IsHot.f
  rw [sfok_eq, Option.bind_some]
  cases fok t l h e c o <;> simp
def stp (t h e c o : Int) (s : Bool) : Int := mx 0 ((if t + e ≤ h then t + e else t - c) - (if s = true then o else 0))
theorem istep_bad {t l h e c o : Int} (s : Bool) (H : fok t l h e c o = false) : impl_StepFuser.f t l h e c o s = some (t, l, h, e, c, o) := by
  unfold impl_StepFuser.f
  simp [ifok_eq, H]
theorem istep_ok {t l h e c o : Int} (s : Bool) (H : fok t l h e c o = true) : impl_StepFuser.f t l h e c o s = some (stp t h e c o s, l, h, e, c, o) := by
  unfold impl_StepFuser.f stp
  have h0 := fok_true H
  have e1 : wrap64 (t + e) = t + e := by unfold wrap64; omega
  have e2 : wrap64 (t - c) = t - c := by unfold wrap64; omega
  have e3 : wrap64 (t + e - o) = t + e - o := by unfold wrap64; omega
  have e4 : wrap64 (t - c - o) = t - c - o := by unfold wrap64; omega
  simp only [ifok_eq, H, Option.bind_some, if_true, e1, e2, e3, e4]
  by_cases hh : t + e ≤ h <;> cases s <;> simp [hh]
theorem stp_ok {t l h e c o : Int} (s : Bool) (H : fok t l h e c o = true) : fok (stp t h e c o s) l h e c o = true := by
  have h0 := fok_true H
  refine fok_mk ?_
  unfold stp mx
  refine ⟨h0.1, h0.2.1, h0.2.2.1, h0.2.2.2.1, h0.2.2.2.2.1, h0.2.2.2.2.2.1, ?_⟩
  split <;> split <;> split at * <;> omega
theorem sstep_bad {t l h e c o : Int} (s : Bool) (H : fok t l h e c o = false) : spec_StepFuser.f t l h e c o s = some (t, l, h, e, c, o) := by
  unfold spec_StepFuser.f
  simp [sfok_eq, H]
theorem sstep_ok {t l h e c o : Int} (s : Bool) (H : fok t l h e c o = true) : spec_StepFuser.f t l h e c o s = some (stp t h e c o s, l, h, e, c, o) := by
  unfold spec_StepFuser.f stp
  have h0 := fok_true H
  have e1 : wrap64 (t + e) = t + e := by unfold wrap64; omega
  have e2 : wrap64 (t - c) = t - c := by unfold wrap64; omega
  have e3 : wrap64 (t + e - o) = t + e - o := by unfold wrap64; omega
  have e4 : wrap64 (t - c - o) = t - c - o := by unfold wrap64; omega
  simp only [sfok_eq, H, Option.bind_some, if_true, e1, e2, e3, e4]
  by_cases hh : t + e ≤ h <;> cases s <;> simp [hh]
theorem toBoolS_eq (l : List Bool) (hl : l.length ≤ 1048576) : Ev (fun k => laws_toBoolS.f k l) l := by
  unfold laws_toBoolS.f
  simp only [if_pos (show (0 : Int) ≤ (l.length : Int) by omega), Int.toNat_natCast, if_pos (show l.length ≤ 281474976710656 by omega)]
  exact Loops.copy_loop (G := fun k i o => laws_toBoolS.l0 k l o i) l false (by omega) (fun k i o => by simp only [laws_toBoolS.l0, rdOf])
theorem eqBoolS_eq (l : List Bool) (hl : l.length ≤ 1048576) : Ev (fun k => laws_eqBoolS.f k l l) true := by
  unfold laws_eqBoolS.f
  simp only [if_true]
  exact Loops.plain_loop (G := fun k i => laws_eqBoolS.l0 k l l i) l.length (by omega) (fun k i hi => by
    simp only [laws_eqBoolS.l0]
    rw [if_pos (by omega), if_pos (by omega), if_pos (by omega), if_neg (by simp)]) (fun k => by
    simp only [laws_eqBoolS.l0]
    rw [if_neg (by omega)])
/-- What a fuser's row of sheets does: the heat, and how many pass. -/
def runf (l h e c o : Int) : List Bool → Int → Int → Int × Int
  | [], t, n => (t, n)
  | s :: ss, t, n => runf l h e c o ss (stp t h e c o (s && decide (l ≤ t))) (n + if (s && decide (l ≤ t)) = true then 1 else 0)
theorem drop_cons_of {l : List Bool} {i : Nat} (h : i < l.length) : l.drop i = l.getD i false :: l.drop (i + 1) := by
  rw [List.drop_eq_getElem_cons h]
  simp [List.getD, List.getElem?_eq_getElem h]
theorem irun_loop {l h e c o : Int} (L : List Bool) (hL : L.length ≤ 1048576) : ∀ (d i : Nat) (t n : Int), i + d = L.length → fok t l h e c o = true → 0 ≤ n → n ≤ i →
    Ev (fun k => impl_RunFuser.l0 k n L (L.length : Int) (i : Int) t l h e c o) ((runf l h e c o (L.drop i) t n).1, l, h, e, c, o, (runf l h e c o (L.drop i) t n).2) := by
  intro d
  induction d with
  | zero =>
    intro i t n hi H hn hni
    refine Loops.Ev.one (fun k => ?_)
    simp only [impl_RunFuser.l0]
    rw [if_neg (by omega), List.drop_of_length_le (by omega)]
    rfl
  | succ d ih =>
    intro i t n hi H hn hni
    have hlt : i < L.length := by omega
    rw [drop_cons_of hlt]
    unfold runf
    have hs := stp_ok (L.getD i false && decide (l ≤ t)) H
    refine Ev.step (f := fun k => impl_RunFuser.l0 k (n + if (L.getD i false && decide (l ≤ t)) = true then 1 else 0) L (L.length : Int) ((i + 1 : Nat) : Int) (stp t h e c o (L.getD i false && decide (l ≤ t))) l h e c o) (fun k => ?_) (ih (i + 1) _ _ (by omega) hs (by split <;> omega) (by split <;> omega))
    simp only [impl_RunFuser.l0]
    rw [if_pos (by omega), if_pos (by omega), if_pos (by omega), Loops.wrap_succ hlt (by omega), show wrap64 (n + 1) = n + 1 from Loops.wrap_in (by omega) (by omega), Loops.rdOf_nat]
    cases L.getD i false with
    | false => simp [istep_ok _ H]
    | true =>
      by_cases hl : l ≤ t
      · simp [ihot_eq, H, hl, istep_ok _ H]
      · simp [ihot_eq, H, hl, istep_ok _ H]
theorem irun_eq {t l h e c o : Int} (L : List Bool) (hL : L.length ≤ 1048576) (H : fok t l h e c o = true) :
    Ev (fun k => impl_RunFuser.f k t l h e c o L) ((runf l h e c o L t 0).1, l, h, e, c, o, (runf l h e c o L t 0).2) := by
  unfold impl_RunFuser.f
  refine Ev.bind (a := true) (Loops.Ev.const (by rw [ifok_eq, H])) ?_
  simp only [if_true]
  exact irun_loop L hL L.length 0 t 0 (by omega) H (by omega) (by omega)
theorem srun_loop {l h e c o : Int} (L : List Bool) (hL : L.length ≤ 1048576) : ∀ (d i : Nat) (t n : Int), i + d = L.length → fok t l h e c o = true → 0 ≤ n → n ≤ i →
    Ev (fun k => spec_RunFuser.l0 k L n (i : Int) t l h e c o) ((runf l h e c o (L.drop i) t n).1, l, h, e, c, o, (runf l h e c o (L.drop i) t n).2) := by
  intro d
  induction d with
  | zero =>
    intro i t n hi H hn hni
    refine Ev.step (f := fun k => spec_RunFuser.j1 k L n (i : Int) false t l h e c o) (fun k => ?_) (Loops.Ev.one (fun k => ?_))
    · simp only [spec_RunFuser.l0]
      rw [if_neg (by omega)]
    · simp only [spec_RunFuser.j1]
      rw [if_neg (by simp), List.drop_of_length_le (by omega)]
      rfl
  | succ d ih =>
    intro i t n hi H hn hni
    have hlt : i < L.length := by omega
    rw [drop_cons_of hlt]
    unfold runf
    have hs := stp_ok (L.getD i false && decide (l ≤ t)) H
    refine Ev.step (f := fun k => spec_RunFuser.j1 k L n (i : Int) true t l h e c o) (fun k => ?_) (Ev.step (f := fun k => spec_RunFuser.l0 k L (n + if (L.getD i false && decide (l ≤ t)) = true then 1 else 0) ((i + 1 : Nat) : Int) (stp t h e c o (L.getD i false && decide (l ≤ t))) l h e c o) (fun k => ?_) (ih (i + 1) _ _ (by omega) hs (by split <;> omega) (by split <;> omega)))
    · simp only [spec_RunFuser.l0]
      rw [if_pos (by omega), sfok_eq, H]
      simp
    simp only [spec_RunFuser.j1, if_true]
    rw [if_pos (by omega), if_pos (by omega), Loops.wrap_succ hlt (by omega), show wrap64 (n + 1) = n + 1 from Loops.wrap_in (by omega) (by omega), Loops.rdOf_nat]
    cases L.getD i false with
    | false => simp [sstep_ok _ H]
    | true =>
      by_cases hl : l ≤ t
      · simp [shot_eq, H, hl, sstep_ok _ H]
      · simp [shot_eq, H, hl, sstep_ok _ H]
theorem srun_eq {t l h e c o : Int} (L : List Bool) (hL : L.length ≤ 1048576) (H : fok t l h e c o = true) :
    Ev (fun k => spec_RunFuser.f k t l h e c o L) ((runf l h e c o L t 0).1, l, h, e, c, o, (runf l h e c o L t 0).2) := by
  unfold spec_RunFuser.f
  exact srun_loop L hL L.length 0 t 0 (by omega) H (by omega) (by omega)
theorem srun_bad {t l h e c o : Int} (L : List Bool) (H : fok t l h e c o = false) :
    Ev (fun k => spec_RunFuser.f k t l h e c o L) (t, l, h, e, c, o, 0) := by
  unfold spec_RunFuser.f
  refine Ev.step (f := fun k => spec_RunFuser.j1 k L 0 0 false t l h e c o) (fun k => ?_) (Loops.Ev.one (fun k => ?_))
  · simp only [spec_RunFuser.l0]
    rw [sfok_eq, H]
    split <;> simp
  · simp [spec_RunFuser.j1]
theorem eqF_refl (t l h e c o : Int) : laws_eqFuser.f t l h e c o t l h e c o = some true := by simp [laws_eqFuser.f]
theorem FnExactRunFuser : ∀ (a0_0 : Int) (a0_1 : Int) (a0_2 : Int) (a0_3 : Int) (a0_4 : Int) (a0_5 : Int) (l1 : List Bool), ((Lit.int .i64 a0_0).wf = true) → ((Lit.int .i64 a0_1).wf = true) → ((Lit.int .i64 a0_2).wf = true) → ((Lit.int .i64 a0_3).wf = true) → ((Lit.int .i64 a0_4).wf = true) → ((Lit.int .i64 a0_5).wf = true) → (l1.length ≤ maxLen ∧ ∀ x ∈ l1, True) → ∃ k, laws_FnExactRunFuser.f k a0_0 a0_1 a0_2 a0_3 a0_4 a0_5 l1 = some true := by
  intro t l h e c o L _ _ _ _ _ _ _
  refine Ev.rounds ?_
  unfold laws_FnExactRunFuser.f laws_toFuser.f
  simp only [Option.bind_some]
  by_cases hb : (L.length : Int) > 1048576
  · simp only [if_pos hb]
    exact Ev.now _
  simp only [if_neg hb]
  have hL : L.length ≤ 1048576 := by omega
  have tail : Ev (fun k => laws_FnExactRunFuser.j0 k L L false) true := by
    refine Ev.step (f := fun k => (laws_toBoolS.f k L).bind fun t213 => ((laws_eqBoolS.f k L t213).bind fun t216 => (if t216 = true then (some true) else (some false)))) (fun k => by simp [laws_FnExactRunFuser.j0]) ?_
    refine Ev.bind (toBoolS_eq L hL) (Ev.bind (eqBoolS_eq L hL) ?_)
    exact Ev.now _
  refine Ev.bind (toBoolS_eq L hL) ?_
  cases hf : fok t l h e c o with
  | false =>
    refine Ev.bind (srun_bad L hf) (Ev.bind (toBoolS_eq L hL) (Ev.bind (a := (t, l, h, e, c, o, 0)) ?_ ?_))
    · unfold impl_RunFuser.f
      exact Loops.Ev.const (x := some (t, l, h, e, c, o, 0)) rfl |> Ev.congr (fun k => by simp [ifok_eq, hf])
    · simp only [eqF_refl, Option.bind_some, if_true]
      simpa using tail
  | true =>
    refine Ev.bind (srun_eq L hL hf) (Ev.bind (toBoolS_eq L hL) (Ev.bind (irun_eq L hL hf) ?_))
    simp only [eqF_refl, Option.bind_some, if_true]
    simpa using tail

end Go.Proofs.Ytmhpdcfpfiindaa.Pure
