/- The pure part of FnExactPlanArrivals: over numbers and lists alone. No condition beyond the numbers' own kinds. -/
import Derived.Test.YtjkhjfladhppkaaPFnExactPlanArrivalsx6
import Derived.Test.YtjkhjfladhppkaaLoops
import Derived.Test.YtjkhjfladhppkaaMarks
namespace Go.Proofs.Ytjkhjfladhppkaa.Pure
open Go.RowKit Go.Proofs.Ytjkhjfladhppkaa.PFnExactPlanArrivals Go.Proofs.YtjkhjfladhppkaaW.PrintWords Go.Proofs.YtjkhjfladhppkaaW.PrintLast Go.Proofs.YtjkhjfladhppkaaW.PrintMore
set_option linter.unusedVariables false
set_option linter.unusedSimpArgs false

theorem within_eq (a b c : Int) : impl_within.f a b c = some (decide (b ≤ a ∧ a ≤ c)) := by
  unfold impl_within.f
  by_cases h : a ≥ b
  · rw [if_pos h]; congr 1; simp; omega
  · rw [if_neg h]; congr 1; simp; omega
theorem in_eq (a b c : Int) : spec_l01In.f a b c = some (decide (b ≤ a ∧ a ≤ c)) := by
  unfold spec_l01In.f
  by_cases h : a ≥ b
  · rw [if_pos h]; congr 1; simp; omega
  · rw [if_neg h]; congr 1; simp; omega
theorem toIntS_eq (l : List Int) (hl : l.length ≤ 4194304) : Ev (fun k => laws_toIntS.f k l) l := by
  unfold laws_toIntS.f
  simp only [if_pos (show (0 : Int) ≤ (l.length : Int) by omega), Int.toNat_natCast, if_pos (show l.length ≤ 35184372088832 by omega)]
  exact Loops.copy_loop (G := fun k i o => laws_toIntS.l0 k l o i) l 0 (by omega) (fun k i o => by simp only [laws_toIntS.l0, rd])
theorem eqIntS_eq (l : List Int) (hl : l.length ≤ 4194304) : Ev (fun k => laws_eqIntS.f k l l) true := by
  unfold laws_eqIntS.f
  simp only [if_true]
  exact Loops.plain_loop (G := fun k i => laws_eqIntS.l0 k l l i) l.length (by omega) (fun k i hi => by
    simp only [laws_eqIntS.l0]
    rw [if_pos (by omega), if_pos (by omega), if_pos (by omega), if_pos trivial]) (fun k => by
    simp only [laws_eqIntS.l0]
    rw [if_neg (by omega)])
theorem markIntS_eq (l : List Int) (a : Int) (hl : l.length ≤ 4194304) (h0 : 0 ≤ a) (h1 : a ≤ 1125899906842624) : Ev (fun k => laws_markIntS.f k l a) (a + l.length, Loops.iota a l.length) := by
  unfold laws_markIntS.f
  exact Loops.mark_loop (G := laws_markIntS.l0) l a (by omega) h0 (by omega) (fun k x m i => by simp only [laws_markIntS.l0])
abbrev Seg := S78
def sok (x : Seg) : Bool := decide (1 ≤ x.f0 ∧ x.f0 ≤ 100) && decide (1 ≤ x.f1 ∧ x.f1 ≤ 20)
theorem sok_true {x : Seg} (h : sok x = true) : 1 ≤ x.f0 ∧ x.f0 ≤ 100 ∧ 1 ≤ x.f1 ∧ x.f1 ≤ 20 := by
  simp only [sok, Bool.and_eq_true, decide_eq_true_eq] at h; omega
def tok (T : List Seg) : Bool := decide (1 ≤ T.length ∧ T.length ≤ 6) && T.all sok
def tlen : List Seg → Int
  | [] => 0
  | x :: xs => x.f0 + tlen xs
theorem tlen_bd : ∀ T : List Seg, T.all sok = true → 0 ≤ tlen T ∧ tlen T ≤ 100 * (T.length : Int) := by
  intro T
  induction T with
  | nil => intro _; simp [tlen]
  | cons x xs ih =>
    intro h
    simp only [List.all_cons, Bool.and_eq_true] at h
    have := sok_true h.1
    have := ih h.2
    simp only [tlen, List.length_cons]
    omega
theorem all_drop {T : List Seg} (h : T.all sok = true) (i : Nat) : (T.drop i).all sok = true := by
  rw [List.all_eq_true] at h ⊢
  exact fun x hx => h x (List.mem_of_mem_drop hx)
theorem all_at {T : List Seg} (h : T.all sok = true) (i : Nat) (hi : i < T.length) : sok (T.getD i z78) = true := by
  rw [List.all_eq_true] at h
  have : T.getD i z78 = T[i] := by simp [List.getD, List.getElem?_eq_getElem hi]
  rw [this]
  exact h _ (List.getElem_mem hi)
/-- Where a sheet at a is a step later; e: how long the track is up to here. -/
def stepIn (n a : Int) : List Seg → Int → Int
  | [], _ => a
  | x :: xs, e => if a < e + x.f0 then mn n (a + x.f1) else stepIn n a xs (e + x.f0)
theorem mn_comm (a b : Int) : mn a b = mn b a := by unfold mn; split <;> split <;> omega
theorem stepIn_up (n a : Int) (hn : a < n) : ∀ (T : List Seg) (e : Int), T.all sok = true → e ≤ a → a < e + tlen T → a < stepIn n a T e ∧ stepIn n a T e ≤ n := by
  intro T
  induction T with
  | nil =>
    intro e _ he h
    simp only [tlen] at h
    omega
  | cons x xs ih =>
    intro e hall he h
    simp only [List.all_cons, Bool.and_eq_true] at hall
    have := sok_true hall.1
    simp only [tlen] at h
    unfold stepIn
    by_cases hx : a < e + x.f0
    · rw [if_pos hx]; unfold mn; split <;> omega
    · rw [if_neg hx]; exact ih _ hall.2 (by omega) (by omega)
/-- How many steps it takes from a to p. -/
def stN (T : List Seg) (p : Int) : Nat → Int → Int
  | 0, _ => 0
  | d + 1, a => if a < p then stN T p d (stepIn (tlen T) a T 0) + 1 else 0
theorem stN_bd (T : List Seg) (p : Int) : ∀ (d : Nat) (a : Int), 0 ≤ stN T p d a ∧ stN T p d a ≤ d := by
  intro d
  induction d with
  | zero => intro a; simp [stN]
  | succ d ih =>
    intro a
    unfold stN
    have := ih (stepIn (tlen T) a T 0)
    split <;> omega
def stTo (T : List Seg) (p : Int) : Int := if tok T = true ∧ 0 ≤ p ∧ p ≤ tlen T then stN T p 700 0 else -1
theorem stTo_bd (T : List Seg) (p : Int) : -1 ≤ stTo T p ∧ stTo T p ≤ 700 := by
  unfold stTo
  have := stN_bd T p 700 0
  split <;> omega
theorem tok_parts {T : List Seg} (h : tok T = true) : 1 ≤ T.length ∧ T.length ≤ 6 ∧ T.all sok = true := by
  simp only [tok, Bool.and_eq_true, decide_eq_true_eq] at h
  exact ⟨h.1.1, h.1.2, h.2⟩
theorem itok_eq (T : List Seg) (hb : T.length ≤ 4194304) : Ev (fun k => impl_TrackOk.f k T) (tok T) := by
  unfold impl_TrackOk.f tok
  refine Ev.bind (Loops.Ev.const (within_eq (T.length : Int) 1 6)) ?_
  have e : decide ((1 : Int) ≤ (T.length : Int) ∧ (T.length : Int) ≤ 6) = decide (1 ≤ T.length ∧ T.length ≤ 6) := by congr 1; simp only [eq_iff_iff]; omega
  rw [e]
  cases hd : decide (1 ≤ T.length ∧ T.length ≤ 6) with
  | false => simp only [Bool.false_eq_true, if_false, Bool.false_and]; exact Ev.now _
  | true =>
    simp only [if_true, Bool.true_and]
    have key : ∀ (d i : Nat), i + d = T.length → Ev (fun k => impl_TrackOk.l0 k T (T.length : Int) (i : Int)) ((T.drop i).all sok) := by
      intro d
      induction d with
      | zero =>
        intro i hi
        rw [List.drop_of_length_le (by omega)]
        refine Loops.Ev.one (fun k => ?_)
        simp only [impl_TrackOk.l0]
        rw [if_neg (by omega)]
        rfl
      | succ d ih =>
        intro i hi
        have hlt : i < T.length := by omega
        rw [Loops.drop_cons_getD T z78 i hlt, List.all_cons]
        cases hs : sok (T.getD i z78) with
        | false =>
          refine Loops.Ev.one (fun k => ?_)
          simp only [impl_TrackOk.l0, rd_T78, Int.toNat_natCast, within_eq, Option.bind_some]
          rw [if_pos (by omega), if_pos (by omega), if_pos (by omega)]
          unfold sok at hs
          rcases Bool.and_eq_false_iff.1 hs with h | h
          · rw [h]; simp
          · rw [h]; simp
        | true =>
          have hx := sok_true hs
          refine Ev.step (fun k => ?_) (ih (i + 1) (by omega))
          simp only [impl_TrackOk.l0, rd_T78, Int.toNat_natCast, within_eq, Option.bind_some]
          rw [if_pos (by omega), if_pos (by omega), if_pos (by omega), decide_eq_true (show _ ∧ _ from ⟨hx.1, hx.2.1⟩), decide_eq_true (show _ ∧ _ from hx.2.2), if_pos rfl, if_pos rfl, Loops.wrap_succ hlt (by omega)]
    exact key T.length 0 (by omega)
theorem ilen_loop (T : List Seg) (hT : T.length ≤ 6) (hs : T.all sok = true) : ∀ (d i : Nat) (n : Int), i + d = T.length → 0 ≤ n → n ≤ 100 * (i : Int) → Ev (fun k => impl_TrackLength.l0 k n T (T.length : Int) (i : Int)) (n + tlen (T.drop i)) := by
  intro d
  induction d with
  | zero =>
    intro i n hi h0 h1
    rw [List.drop_of_length_le (by omega)]
    refine Loops.Ev.one (fun k => ?_)
    simp only [impl_TrackLength.l0]
    rw [if_neg (by omega)]
    simp [tlen]
  | succ d ih =>
    intro i n hi h0 h1
    have hlt : i < T.length := by omega
    have hx := sok_true (all_at hs i hlt)
    rw [Loops.drop_cons_getD T z78 i hlt]
    refine Ev.step (fun k => ?_) (Loops.Ev.eq (ih (i + 1) (n + (T.getD i z78).f0) (by omega) (by omega) (by omega)) (by simp only [tlen]; omega))
    simp only [impl_TrackLength.l0, rd_T78, Int.toNat_natCast]
    rw [if_pos (by omega), if_pos (by omega), if_pos (by omega), Loops.wrap_succ hlt (by omega), show wrap64 (n + (T.getD i z78).f0) = n + (T.getD i z78).f0 from Loops.wrap_in (by omega) (by omega)]
theorem ilength_eq (T : List Seg) (hb : T.length ≤ 4194304) : Ev (fun k => impl_TrackLength.f k T) (if tok T = true then tlen T else 0) := by
  unfold impl_TrackLength.f
  refine Ev.bind (itok_eq T hb) ?_
  cases ht : tok T with
  | false => simp only [Bool.false_eq_true, if_false]; exact Ev.now _
  | true =>
    simp only [if_true]
    obtain ⟨t1, t2, t3⟩ := tok_parts ht
    exact Loops.Ev.eq (ilen_loop T t2 t3 T.length 0 0 (by omega) (by omega) (by omega)) (by simp)
theorem istep_loop (T : List Seg) (hT : T.length ≤ 6) (hs : T.all sok = true) (n a : Int) (hn : 0 ≤ n ∧ n ≤ 600) (ha : 0 ≤ a ∧ a ≤ 600) : ∀ (d i : Nat) (e : Int), i + d = T.length → 0 ≤ e → e ≤ 100 * (i : Int) → Ev (fun k => impl_StepSheet.l0 k a n e T (T.length : Int) (i : Int)) (stepIn n a (T.drop i) e) := by
  intro d
  induction d with
  | zero =>
    intro i e hi h0 h1
    rw [List.drop_of_length_le (by omega)]
    refine Loops.Ev.one (fun k => ?_)
    simp only [impl_StepSheet.l0]
    rw [if_neg (by omega)]
    rfl
  | succ d ih =>
    intro i e hi h0 h1
    have hlt : i < T.length := by omega
    have hx := sok_true (all_at hs i hlt)
    rw [Loops.drop_cons_getD T z78 i hlt]
    have w1 : wrap64 (e + (T.getD i z78).f0) = e + (T.getD i z78).f0 := Loops.wrap_in (by omega) (by omega)
    have w2 : wrap64 (a + (T.getD i z78).f1) = a + (T.getD i z78).f1 := Loops.wrap_in (by omega) (by omega)
    unfold stepIn
    by_cases hc : a < e + (T.getD i z78).f0
    · rw [if_pos hc]
      refine Loops.Ev.one (fun k => ?_)
      simp only [impl_StepSheet.l0, rd_T78, Int.toNat_natCast, w1, w2]
      rw [if_pos (by omega), if_pos (by omega), if_pos (by omega), if_pos hc, mn_comm]
    · rw [if_neg hc]
      refine Ev.step (fun k => ?_) (ih (i + 1) (e + (T.getD i z78).f0) (by omega) (by omega) (by omega))
      simp only [impl_StepSheet.l0, rd_T78, Int.toNat_natCast, w1, w2]
      rw [if_pos (by omega), if_pos (by omega), if_pos (by omega), if_neg hc, Loops.wrap_succ hlt (by omega)]
theorem istep_eq (T : List Seg) (ht : tok T = true) (a : Int) (ha : 0 ≤ a ∧ a ≤ tlen T) : Ev (fun k => impl_StepSheet.f k T a) (stepIn (tlen T) a T 0) := by
  obtain ⟨t1, t2, t3⟩ := tok_parts ht
  have tb := tlen_bd T t3
  unfold impl_StepSheet.f
  refine Ev.bind (Loops.Ev.eq (ilength_eq T (by omega)) (by rw [if_pos ht])) (Ev.bind (Loops.Ev.eq (itok_eq T (by omega)) ht) ?_)
  simp only [if_true, within_eq, Option.bind_some, decide_eq_true ha]
  refine Ev.step (f := fun k => impl_StepSheet.l0 k a (tlen T) 0 T (T.length : Int) ((0 : Nat) : Int)) (fun k => by simp [impl_StepSheet.j0]) ?_
  exact istep_loop T t2 t3 (tlen T) a (by omega) (by omega) T.length 0 0 (by omega) (by omega) (by omega)
theorem ito_loop (T : List Seg) (ht : tok T = true) (p : Int) (hp : 0 ≤ p ∧ p ≤ tlen T) : ∀ (d : Nat) (a n : Int), 0 ≤ a → a ≤ tlen T → (p - a).toNat < d → 0 ≤ n → n + d ≤ 10000 → Ev (fun k => impl_StepsTo.l0 k T p n a) (n + stN T p d a) := by
  obtain ⟨t1, t2, t3⟩ := tok_parts ht
  have tb := tlen_bd T t3
  intro d
  induction d with
  | zero => intro a n h0 h1 h2; omega
  | succ d ih =>
    intro a n h0 h1 h2 h3 h4
    unfold stN
    by_cases hc : a < p
    · rw [if_pos hc]
      have hu := stepIn_up (tlen T) a (by omega) T 0 t3 (by omega) (by omega)
      refine Ev.step (f := fun k => (impl_StepSheet.f k T a).bind fun t => impl_StepsTo.l0 k T p (n + 1) t) (fun k => ?_) (Ev.bind (istep_eq T ht a (by omega)) (Loops.Ev.eq (ih (stepIn (tlen T) a T 0) (n + 1) (by omega) (by omega) (by omega) (by omega) (by omega)) (by omega)))
      simp only [impl_StepsTo.l0]
      rw [if_pos hc, show wrap64 (n + 1) = n + 1 from Loops.wrap_in (by omega) (by omega)]
    · rw [if_neg hc]
      refine Loops.Ev.one (fun k => ?_)
      simp only [impl_StepsTo.l0]
      rw [if_neg hc]
      simp
theorem ito_eq (T : List Seg) (hb : T.length ≤ 4194304) (p : Int) : Ev (fun k => impl_StepsTo.f k T p) (stTo T p) := by
  unfold impl_StepsTo.f stTo
  refine Ev.bind (itok_eq T hb) ?_
  cases ht : tok T with
  | false =>
    simp only [Bool.false_eq_true, if_false, false_and]
    exact Loops.Ev.one (fun k => by simp [impl_StepsTo.j0])
  | true =>
    simp only [if_true, true_and]
    obtain ⟨t1, t2, t3⟩ := tok_parts ht
    have tb := tlen_bd T t3
    refine Ev.bind (Loops.Ev.eq (ilength_eq T hb) (by rw [if_pos ht])) ?_
    by_cases hp : 0 ≤ p ∧ p ≤ tlen T
    · simp only [within_eq, Option.bind_some, decide_eq_true hp, if_pos hp]
      refine Ev.step (f := fun k => impl_StepsTo.l0 k T p 0 0) (fun k => by simp [impl_StepsTo.j0]) (Loops.Ev.eq (ito_loop T ht p hp 700 0 0 (by omega) (by omega) (by omega) (by omega) (by omega)) (by omega))
    · simp only [within_eq, Option.bind_some, decide_eq_false hp, if_neg hp]
      exact Loops.Ev.one (fun k => by simp [impl_StepsTo.j0])
theorem stok_eq (T : List Seg) (hb : T.length ≤ 4194304) : Ev (fun k => spec_TrackOk.f k T) (tok T) := by
  unfold spec_TrackOk.f tok
  have key : ∀ (d i : Nat), i + d = T.length → Ev (fun k => spec_TrackOk.l0 k T (i : Int)) (decide (1 ≤ T.length ∧ T.length ≤ 6) && (T.drop i).all sok) := by
    intro d
    induction d with
    | zero =>
      intro i hi
      rw [List.drop_of_length_le (by omega)]
      refine Loops.Ev.one (fun k => ?_)
      simp only [spec_TrackOk.l0]
      rw [if_neg (by omega), in_eq]
      have e : decide ((1 : Int) ≤ (T.length : Int) ∧ (T.length : Int) ≤ 6) = decide (1 ≤ T.length ∧ T.length ≤ 6) := by congr 1; simp only [eq_iff_iff]; omega
      rw [e]
      simp
    | succ d ih =>
      intro i hi
      have hlt : i < T.length := by omega
      rw [Loops.drop_cons_getD T z78 i hlt, List.all_cons]
      cases hs : sok (T.getD i z78) with
      | false =>
        refine Loops.Ev.one (fun k => ?_)
        simp only [spec_TrackOk.l0, rd_T78, Int.toNat_natCast, in_eq, Option.bind_some]
        rw [if_pos (by omega), if_pos (by omega)]
        unfold sok at hs
        rcases Bool.and_eq_false_iff.1 hs with h | h
        · rw [h]; simp
        · rw [h]; simp
      | true =>
        have hx := sok_true hs
        refine Ev.step (fun k => ?_) (ih (i + 1) (by omega))
        simp only [spec_TrackOk.l0, rd_T78, Int.toNat_natCast, in_eq, Option.bind_some]
        rw [if_pos (by omega), if_pos (by omega), decide_eq_true (show _ ∧ _ from ⟨hx.1, hx.2.1⟩), decide_eq_true (show _ ∧ _ from hx.2.2), if_pos rfl, if_pos rfl, Loops.wrap_succ hlt (by omega)]
  exact key T.length 0 (by omega)
theorem slen_loop (T : List Seg) (hT : T.length ≤ 6) (hs : T.all sok = true) : ∀ (d i : Nat) (n : Int), i + d = T.length → 0 ≤ n → n ≤ 100 * (i : Int) → Ev (fun k => spec_TrackLength.l0 k T n (i : Int)) (n + tlen (T.drop i)) := by
  intro d
  induction d with
  | zero =>
    intro i n hi h0 h1
    rw [List.drop_of_length_le (by omega)]
    refine Loops.Ev.one (fun k => ?_)
    simp only [spec_TrackLength.l0]
    rw [if_neg (by omega)]
    simp [tlen]
  | succ d ih =>
    intro i n hi h0 h1
    have hlt : i < T.length := by omega
    have hx := sok_true (all_at hs i hlt)
    rw [Loops.drop_cons_getD T z78 i hlt]
    refine Ev.step (f := fun k => (spec_TrackOk.f k T).bind fun t114 => (if t114 = true then (if 0 ≤ (i : Int) then (spec_TrackLength.l0 k T (wrap64 (n + ((rd_T78 T (i : Int)).f0))) (wrap64 ((i : Int) + 1))) else (none)) else (some n))) (fun k => ?_) (Ev.bind (Loops.Ev.eq (stok_eq T (by omega)) (show tok T = true from ?_)) ?_)
    · simp only [spec_TrackLength.l0]
      rw [if_pos (by omega)]
    · unfold tok; rw [hs, Bool.and_true]; exact decide_eq_true (by omega)
    · simp only [if_true, rd_T78, Int.toNat_natCast, if_pos (show (0 : Int) ≤ (i : Int) by omega)]
      rw [Loops.wrap_succ hlt (by omega), show wrap64 (n + (T.getD i z78).f0) = n + (T.getD i z78).f0 from Loops.wrap_in (by omega) (by omega)]
      exact Loops.Ev.eq (ih (i + 1) (n + (T.getD i z78).f0) (by omega) (by omega) (by omega)) (by simp only [tlen]; omega)
theorem slength_eq (T : List Seg) (hb : T.length ≤ 4194304) : Ev (fun k => spec_TrackLength.f k T) (if tok T = true then tlen T else 0) := by
  unfold spec_TrackLength.f
  cases ht : tok T with
  | false =>
    simp only [Bool.false_eq_true, if_false]
    by_cases h0 : T.length = 0
    · refine Loops.Ev.one (fun k => ?_)
      simp only [spec_TrackLength.l0]
      rw [if_neg (by omega)]
    · refine Ev.step (f := fun k => (spec_TrackOk.f k T).bind fun t114 => (if t114 = true then (if 0 ≤ (0 : Int) then (spec_TrackLength.l0 k T (wrap64 (0 + ((rd_T78 T 0).f0))) (wrap64 (0 + 1))) else (none)) else (some 0))) (fun k => ?_) (Ev.bind (Loops.Ev.eq (stok_eq T hb) ht) ?_)
      · simp only [spec_TrackLength.l0]
        rw [if_pos (by omega)]
      · simp only [Bool.false_eq_true, if_false]
        exact Ev.now _
  | true =>
    simp only [if_true]
    obtain ⟨t1, t2, t3⟩ := tok_parts ht
    exact Loops.Ev.eq (slen_loop T t2 t3 T.length 0 0 (by omega) (by omega) (by omega)) (by simp)
theorem sstep_loop (T : List Seg) (hT : T.length ≤ 6) (hs : T.all sok = true) (n a : Int) (hn : 0 ≤ n ∧ n ≤ 600) (ha : 0 ≤ a ∧ a ≤ 600) : ∀ (d i : Nat) (e : Int), i + d = T.length → 0 ≤ e → e ≤ 100 * (i : Int) → Ev (fun k => spec_StepSheet.l0 k T a n e (i : Int)) (stepIn n a (T.drop i) e) := by
  intro d
  induction d with
  | zero =>
    intro i e hi h0 h1
    rw [List.drop_of_length_le (by omega)]
    refine Loops.Ev.one (fun k => ?_)
    simp only [spec_StepSheet.l0]
    rw [if_neg (by omega)]
    rfl
  | succ d ih =>
    intro i e hi h0 h1
    have hlt : i < T.length := by omega
    have hx := sok_true (all_at hs i hlt)
    rw [Loops.drop_cons_getD T z78 i hlt]
    have w1 : wrap64 (e + (T.getD i z78).f0) = e + (T.getD i z78).f0 := Loops.wrap_in (by omega) (by omega)
    have w2 : wrap64 (a + (T.getD i z78).f1) = a + (T.getD i z78).f1 := Loops.wrap_in (by omega) (by omega)
    unfold stepIn
    by_cases hc : a < e + (T.getD i z78).f0
    · rw [if_pos hc]
      refine Loops.Ev.one (fun k => ?_)
      simp only [spec_StepSheet.l0, rd_T78, Int.toNat_natCast, w1, w2]
      rw [if_pos (by omega), if_pos (by omega), if_pos hc]
    · rw [if_neg hc]
      refine Ev.step (fun k => ?_) (ih (i + 1) (e + (T.getD i z78).f0) (by omega) (by omega) (by omega))
      simp only [spec_StepSheet.l0, rd_T78, Int.toNat_natCast, w1, w2]
      rw [if_pos (by omega), if_pos (by omega), if_neg hc, Loops.wrap_succ hlt (by omega)]
theorem sstep_eq (T : List Seg) (ht : tok T = true) (a : Int) (ha : 0 ≤ a ∧ a ≤ tlen T) : Ev (fun k => spec_StepSheet.f k T a) (stepIn (tlen T) a T 0) := by
  obtain ⟨t1, t2, t3⟩ := tok_parts ht
  have tb := tlen_bd T t3
  unfold spec_StepSheet.f
  refine Ev.bind (Loops.Ev.eq (slength_eq T (by omega)) (by rw [if_pos ht])) (Ev.bind (Loops.Ev.eq (stok_eq T (by omega)) ht) ?_)
  simp only [if_true, in_eq, Option.bind_some, decide_eq_true ha]
  refine Ev.step (f := fun k => spec_StepSheet.l0 k T a (tlen T) 0 ((0 : Nat) : Int)) (fun k => by simp [spec_StepSheet.j0]) ?_
  exact sstep_loop T t2 t3 (tlen T) a (by omega) (by omega) T.length 0 0 (by omega) (by omega) (by omega)
theorem sto_loop (T : List Seg) (ht : tok T = true) (p : Int) (hp : 0 ≤ p ∧ p ≤ tlen T) : ∀ (d : Nat) (a n : Int), 0 ≤ a → a ≤ tlen T → (p - a).toNat < d → 0 ≤ n → n + d ≤ 10000 → Ev (fun k => spec_StepsTo.l0 k T p a n) (n + stN T p d a) := by
  obtain ⟨t1, t2, t3⟩ := tok_parts ht
  have tb := tlen_bd T t3
  intro d
  induction d with
  | zero => intro a n h0 h1 h2; omega
  | succ d ih =>
    intro a n h0 h1 h2 h3 h4
    unfold stN
    by_cases hc : a < p
    · rw [if_pos hc]
      have hu := stepIn_up (tlen T) a (by omega) T 0 t3 (by omega) (by omega)
      refine Ev.step (f := fun k => (spec_StepSheet.f k T a).bind fun t => spec_StepsTo.l0 k T p t (n + 1)) (fun k => ?_) (Ev.bind (sstep_eq T ht a (by omega)) (Loops.Ev.eq (ih (stepIn (tlen T) a T 0) (n + 1) (by omega) (by omega) (by omega) (by omega) (by omega)) (by omega)))
      simp only [spec_StepsTo.l0]
      rw [if_pos hc, show wrap64 (n + 1) = n + 1 from Loops.wrap_in (by omega) (by omega)]
    · rw [if_neg hc]
      refine Loops.Ev.one (fun k => ?_)
      simp only [spec_StepsTo.l0]
      rw [if_neg hc]
      simp
theorem sto_eq (T : List Seg) (hb : T.length ≤ 4194304) (p : Int) : Ev (fun k => spec_StepsTo.f k T p) (stTo T p) := by
  unfold spec_StepsTo.f stTo
  refine Ev.bind (stok_eq T hb) ?_
  cases ht : tok T with
  | false =>
    simp only [Bool.false_eq_true, if_false, false_and]
    exact Loops.Ev.one (fun k => by simp [spec_StepsTo.j0])
  | true =>
    simp only [if_true, true_and]
    obtain ⟨t1, t2, t3⟩ := tok_parts ht
    have tb := tlen_bd T t3
    refine Ev.bind (Loops.Ev.eq (slength_eq T hb) (by rw [if_pos ht])) ?_
    by_cases hp : 0 ≤ p ∧ p ≤ tlen T
    · simp only [in_eq, Option.bind_some, decide_eq_true hp, if_pos hp]
      refine Ev.step (f := fun k => spec_StepsTo.l0 k T p 0 0) (fun k => by simp [spec_StepsTo.j0]) (Loops.Ev.eq (sto_loop T ht p hp 700 0 0 (by omega) (by omega) (by omega) (by omega) (by omega)) (by omega))
    · simp only [in_eq, Option.bind_some, decide_eq_false hp, if_neg hp]
      exact Loops.Ev.one (fun k => by simp [spec_StepsTo.j0])
abbrev Arr := S75
def arok (e s v : Int) : Bool := decide (0 ≤ e ∧ e ≤ 10000) && (decide (0 ≤ s ∧ s ≤ 100) && decide (-1 ≤ v ∧ v ≤ 20000))
theorem iarok_eq (e s v : Int) : impl_ArrivalOk.f e s v = some (arok e s v) := by
  unfold impl_ArrivalOk.f arok
  simp only [within_eq, Option.bind_some]
  cases decide (0 ≤ e ∧ e ≤ 10000) <;> cases decide (0 ≤ s ∧ s ≤ 100) <;> simp
theorem sarok_eq (e s v : Int) : spec_ArrivalOk.f e s v = some (arok e s v) := by
  unfold spec_ArrivalOk.f arok
  simp only [in_eq, Option.bind_some]
  cases decide (0 ≤ e ∧ e ≤ 10000) <;> cases decide (0 ≤ s ∧ s ≤ 100) <;> simp
/-- The arrivals at places: where one is none, there is no plan. -/
def plan (T : List Seg) (s q : Int) : List Int → List Arr → List Arr × Bool
  | [], acc => (acc, true)
  | p :: ps, acc => if stTo T p < 0 ∨ ¬ (0 ≤ s ∧ s ≤ 10000) then ([], false) else if arok (s + stTo T p) q (-1) = true then plan T s q ps (acc ++ [⟨s + stTo T p, q, -1⟩]) else ([], false)
theorem plan_len (T : List Seg) (s q : Int) : ∀ (ps : List Int) (acc : List Arr), (plan T s q ps acc).1.length ≤ acc.length + ps.length := by
  intro ps
  induction ps with
  | nil => intro acc; simp [plan]
  | cons p ps ih =>
    intro acc
    unfold plan
    split
    · simp
    · split
      · have := ih (acc ++ [⟨s + stTo T p, q, -1⟩])
        simp only [List.length_append, List.length_cons, List.length_nil] at this ⊢
        omega
      · simp
theorem plan_cons (T : List Seg) (s q p : Int) (ps : List Int) (acc : List Arr) : plan T s q (p :: ps) acc = if stTo T p < 0 ∨ ¬ (0 ≤ s ∧ s ≤ 10000) then ([], false) else if arok (s + stTo T p) q (-1) = true then plan T s q ps (acc ++ [⟨s + stTo T p, q, -1⟩]) else ([], false) := rfl
theorem iplan_loop (T : List Seg) (hT : T.length ≤ 4194304) (L : List Int) (hL : L.length ≤ 4194304) (s q : Int) : ∀ (d i : Nat) (acc : List Arr), i + d = L.length → acc.length ≤ i → Ev (fun k => impl_PlanArrivals.l0 k T s q acc L (L.length : Int) (i : Int)) (plan T s q (L.drop i) acc) := by
  intro d
  induction d with
  | zero =>
    intro i acc hi ha
    rw [List.drop_of_length_le (by omega)]
    refine Loops.Ev.one (fun k => ?_)
    simp only [impl_PlanArrivals.l0]
    rw [if_neg (by omega)]
    rfl
  | succ d ih =>
    intro i acc hi ha
    have hlt : i < L.length := by omega
    rw [Loops.drop_cons_getD L 0 i hlt, plan_cons]
    obtain ⟨p, hp⟩ : ∃ p, p = L.getD i 0 := ⟨_, rfl⟩
    rw [← hp]
    have hb := stTo_bd T p
    refine Ev.step (f := fun k => (impl_StepsTo.f k T p).bind fun t178 => ((impl_within.f s 0 10000).bind fun t179 => (if t179 = true then (impl_PlanArrivals.j1 k T s q acc t178 L (L.length : Int) (i : Int) (decide (t178 < 0))) else (impl_PlanArrivals.j1 k T s q acc t178 L (L.length : Int) (i : Int) true)))) (fun k => ?_) (Ev.bind (ito_eq T hT p) ?_)
    · simp only [impl_PlanArrivals.l0]
      rw [if_pos (by omega), if_pos (by omega), if_pos (by omega), Loops.rd_nat, ← hp]
    · simp only [within_eq, Option.bind_some]
      have bad : Ev (fun k => impl_PlanArrivals.j1 k T s q acc (stTo T p) L (L.length : Int) (i : Int) true) ([], false) := Loops.Ev.one (fun k => by simp [impl_PlanArrivals.j1])
      by_cases hs : 0 ≤ s ∧ s ≤ 10000
      · simp only [decide_eq_true hs, if_true]
        by_cases hn : stTo T p < 0
        · rw [if_pos (.inl hn), decide_eq_true hn]
          exact bad
        · rw [if_neg (by omega), decide_eq_false hn]
          have w : wrap64 (s + stTo T p) = s + stTo T p := Loops.wrap_in (by omega) (by omega)
          cases hr : arok (s + stTo T p) q (-1) with
          | false =>
            simp only [Bool.false_eq_true, if_false]
            exact Loops.Ev.one (fun k => by simp [impl_PlanArrivals.j1, w, iarok_eq, hr])
          | true =>
            simp only [if_true]
            refine Ev.step (fun k => ?_) (ih (i + 1) (acc ++ [⟨s + stTo T p, q, -1⟩]) (by omega) (by simp; omega))
            simp only [impl_PlanArrivals.j1, w, iarok_eq, hr, Option.bind_some, Bool.false_eq_true, if_false, if_true]
            rw [if_pos (by omega), Loops.wrap_succ hlt (by omega)]
      · simp only [decide_eq_false hs, Bool.false_eq_true, if_false]
        rw [if_pos (.inr hs)]
        exact bad
theorem splan_loop (T : List Seg) (hT : T.length ≤ 4194304) (L : List Int) (hL : L.length ≤ 4194304) (s q : Int) (hs : 0 ≤ s ∧ s ≤ 10000) : ∀ (d i : Nat) (acc : List Arr), i + d = L.length → acc.length ≤ i → Ev (fun k => spec_PlanArrivals.l0 k T L s q acc (i : Int)) (plan T s q (L.drop i) acc) := by
  intro d
  induction d with
  | zero =>
    intro i acc hi ha
    rw [List.drop_of_length_le (by omega)]
    refine Loops.Ev.one (fun k => ?_)
    simp only [spec_PlanArrivals.l0]
    rw [if_neg (by omega)]
    rfl
  | succ d ih =>
    intro i acc hi ha
    have hlt : i < L.length := by omega
    rw [Loops.drop_cons_getD L 0 i hlt, plan_cons]
    obtain ⟨p, hp⟩ : ∃ p, p = L.getD i 0 := ⟨_, rfl⟩
    rw [← hp]
    have hb := stTo_bd T p
    refine Ev.step (f := fun k => (spec_StepsTo.f k T p).bind fun t134 => (if t134 < 0 then (some ((([] : List Arr)), false)) else ((spec_ArrivalOk.f (wrap64 (s + t134)) q (-1)).bind fun t139 => (if t139 = true then (if acc.length < 5864062014805 then (spec_PlanArrivals.l0 k T L s q (acc ++ [(⟨wrap64 (s + t134), q, (-1)⟩ : Arr)]) (wrap64 ((i : Int) + 1))) else (none)) else (some ((([] : List Arr)), false)))))) (fun k => ?_) (Ev.bind (sto_eq T hT p) ?_)
    · simp only [spec_PlanArrivals.l0]
      rw [if_pos (by omega), if_pos (by omega), Loops.rd_nat, ← hp]
    · by_cases hn : stTo T p < 0
      · simp only [if_pos hn]
        rw [if_pos (.inl hn)]
        exact Ev.now _
      · simp only [if_neg hn]
        rw [if_neg (by omega)]
        have w : wrap64 (s + stTo T p) = s + stTo T p := Loops.wrap_in (by omega) (by omega)
        simp only [w, sarok_eq, Option.bind_some]
        cases hr : arok (s + stTo T p) q (-1) with
        | false =>
          simp only [Bool.false_eq_true, if_false]
          exact Ev.now _
        | true =>
          simp only [if_true, if_pos (show acc.length < 5864062014805 by omega)]
          rw [Loops.wrap_succ hlt (by omega)]
          exact ih (i + 1) (acc ++ [⟨s + stTo T p, q, -1⟩]) (by omega) (by simp; omega)
theorem iplan_eq (T : List Seg) (hT : T.length ≤ 4194304) (L : List Int) (hL : L.length ≤ 4194304) (s q : Int) : Ev (fun k => impl_PlanArrivals.f k T L s q) ((plan T s q L []).1, (plan T s q L []).2) := by
  unfold impl_PlanArrivals.f
  exact iplan_loop T hT L hL s q L.length 0 [] (by omega) (by simp)
theorem splan_eq (T : List Seg) (hT : T.length ≤ 4194304) (L : List Int) (hL : L.length ≤ 4194304) (s q : Int) : Ev (fun k => spec_PlanArrivals.f k T L s q) ((plan T s q L []).1, (plan T s q L []).2) := by
  unfold spec_PlanArrivals.f
  simp only [Option.bind_some, in_eq]
  by_cases hs : 0 ≤ s ∧ s ≤ 10000
  · simp only [decide_eq_true hs, if_true]
    exact splan_loop T hT L hL s q hs L.length 0 [] (by omega) (by simp)
  · simp only [decide_eq_false hs, Bool.false_eq_true, if_false]
    refine Loops.Ev.const ?_
    cases L with
    | nil => simp [plan]
    | cons p ps => rw [plan_cons, if_pos (.inr hs)]; simp; omega
def toSg (x : S80) : Seg := ⟨x.f0, x.f1⟩
theorem toSegS_eq (l : List S80) (hl : l.length ≤ 4194304) : Ev (fun k => laws_toSegmentS.f k l) (l.map toSg) := by
  unfold laws_toSegmentS.f
  simp only [if_pos (show (0 : Int) ≤ (l.length : Int) by omega), Int.toNat_natCast, if_pos (show l.length ≤ 17592186044416 by omega)]
  exact Loops.map_loop (G := fun k i o => laws_toSegmentS.l0 k l o i) l z80 z78 toSg (fun k i o hi ho => by
    simp only [laws_toSegmentS.l0]
    rw [if_pos (by omega), if_pos (by omega)]
    simp only [laws_toSegment.f, Option.bind_some]
    rw [if_pos (by omega), Loops.wrap_succ hi (by omega), Int.toNat_natCast]
    simp [rd_T80, toSg]) (fun k o => by
    simp only [laws_toSegmentS.l0]
    rw [if_neg (by omega)])
theorem szSegS_eq (l : List S80) (hl : l.length ≤ 9223372036854775807) : laws_szSegmentS.f l 1048576 = some (if l.length ≤ 1048576 then 1048576 - (l.length : Int) else -1) := by
  unfold laws_szSegmentS.f
  rw [show wrap64 (1048576 - (l.length : Int)) = 1048576 - (l.length : Int) from Loops.wrap_in (by omega) (by omega)]
  by_cases h : l.length ≤ 1048576
  · rw [if_neg (by omega), if_pos h]
  · rw [if_pos (by omega), if_neg h]
theorem eqSegS_eq (l : List Seg) (hl : l.length ≤ 4194304) : Ev (fun k => laws_eqSegmentS.f k l l) true := by
  unfold laws_eqSegmentS.f
  simp only [if_true]
  exact Loops.plain_loop (G := fun k i => laws_eqSegmentS.l0 k l l i) l.length (by omega) (fun k i hi => by
    simp only [laws_eqSegmentS.l0]
    rw [if_pos (by omega), if_pos (by omega), if_pos (by omega)]
    simp [laws_eqSegment.f]) (fun k => by
    simp only [laws_eqSegmentS.l0]
    rw [if_neg (by omega)])
theorem eqArrS_eq (l : List Arr) (hl : l.length ≤ 4194304) : Ev (fun k => laws_eqArrivalS.f k l l) true := by
  unfold laws_eqArrivalS.f
  simp only [if_true]
  exact Loops.plain_loop (G := fun k i => laws_eqArrivalS.l0 k l l i) l.length (by omega) (fun k i hi => by
    simp only [laws_eqArrivalS.l0]
    rw [if_pos (by omega), if_pos (by omega), if_pos (by omega)]
    simp [laws_eqArrival.f]) (fun k => by
    simp only [laws_eqArrivalS.l0]
    rw [if_neg (by omega)])
def mkSeg (m : Int) : Seg := ⟨m, m + 1⟩
theorem markSegS_eq (l : List Seg) (hl : l.length ≤ 4194304) : Ev (fun k => laws_markSegmentS.f k l 1) (1 + 2 * (l.length : Int), Loops.marks mkSeg 2 1 l.length) := by
  unfold laws_markSegmentS.f
  exact Loops.mark_gen (G := laws_markSegmentS.l0) mkSeg z78 2 (by omega) l 1 (by omega) (by omega) (fun k x m i hi hx hm0 hm => by
    simp only [laws_markSegmentS.l0]
    rw [if_pos (by omega), if_pos (by omega), show wrap64 (m + 1) = m + 1 from Loops.wrap_in (by omega) (by omega), show wrap64 (m + 1 + 1) = m + 2 by unfold wrap64; omega, Loops.wrap_succ hi (by omega)]
    simp only [Option.bind_some, Int.toNat_natCast, rd_T78, List.set_set, mkSeg]
    congr 2
    simp [List.getD, hi]) (fun k x m hx => by
    simp only [laws_markSegmentS.l0]
    rw [if_neg (by omega)])
def mkArr (m : Int) : Arr := ⟨m, m + 1, m + 2⟩
theorem markArrS_eq (l : List Arr) (hl : l.length ≤ 4194304) : Ev (fun k => laws_markArrivalS.f k l 1) (1 + 3 * (l.length : Int), Loops.marks mkArr 3 1 l.length) := by
  unfold laws_markArrivalS.f
  exact Loops.mark_gen (G := laws_markArrivalS.l0) mkArr z75 3 (by omega) l 1 (by omega) (by omega) (fun k x m i hi hx hm0 hm => by
    simp only [laws_markArrivalS.l0]
    rw [if_pos (by omega), if_pos (by omega), show wrap64 (m + 1) = m + 1 from Loops.wrap_in (by omega) (by omega), show wrap64 (m + 1 + 1) = m + 2 by unfold wrap64; omega, show wrap64 (m + 2 + 1) = m + 3 by unfold wrap64; omega, Loops.wrap_succ hi (by omega)]
    simp only [Option.bind_some, Int.toNat_natCast, rd_T75, List.set_set, mkArr]
    congr 2
    simp [List.getD, hi]) (fun k x m hx => by
    simp only [laws_markArrivalS.l0]
    rw [if_neg (by omega)])
theorem heldArrS_eq (n : Nat) (hn : n ≤ 4194304) : Ev (fun k => laws_heldArrivalS.f k (Loops.marks mkArr 3 1 n) 1) (1 + 3 * (n : Int)) := by
  unfold laws_heldArrivalS.f
  exact Loops.held_gen (G := laws_heldArrivalS.l0) mkArr z75 3 (by omega) n 1 (by omega) (by omega) (fun k x m i hi hx he hm0 hm => by
    simp only [laws_heldArrivalS.l0, rd_T75, Int.toNat_natCast, he, mkArr]
    rw [if_pos (by omega), if_pos (by omega), if_pos trivial, show wrap64 (m + 1) = m + 1 from Loops.wrap_in (by omega) (by omega), if_pos rfl, show wrap64 (m + 1 + 1) = m + 2 by unfold wrap64; omega, if_pos rfl, show wrap64 (m + 2 + 1) = m + 3 by unfold wrap64; omega, Loops.wrap_succ hi (by omega)]) (fun k x m hx => by
    simp only [laws_heldArrivalS.l0]
    rw [if_neg (by omega)])
theorem FnExactPlanArrivals : ∀ (l0 : List (S80)) (l1 : List Int) (a2 : Int) (a3 : Int), (l0.length ≤ maxLen ∧ ∀ x ∈ l0, (Lit.int .i64 x.f0).wf = true ∧ (Lit.int .i64 x.f1).wf = true) → (l1.length ≤ maxLen ∧ ∀ x ∈ l1, (Lit.int .i64 x).wf = true) → ((Lit.int .i64 a2).wf = true) → ((Lit.int .i64 a3).wf = true) → ∃ k, laws_FnExactPlanArrivals.f k l0 l1 a2 a3 = some true := by
  intro T0 L s q hm _ _ _
  have hm1 := hm.1
  unfold maxLen at hm1
  refine Ev.rounds ?_
  unfold laws_FnExactPlanArrivals.f
  by_cases hb : (L.length : Int) > 1048576
  · simp only [if_pos hb]
    exact Ev.now _
  simp only [if_neg hb, szSegS_eq T0 hm1, Option.bind_some]
  by_cases hb2 : T0.length ≤ 1048576
  · simp only [if_pos hb2, if_neg (show ¬ (1048576 - (T0.length : Int)) < 0 by omega)]
    obtain ⟨T, hT⟩ : ∃ T, T = T0.map toSg := ⟨_, rfl⟩
    have hTl : T.length ≤ 4194304 := by rw [hT, List.length_map]; omega
    have eT := toSegS_eq T0 (by omega)
    rw [← hT] at eT
    have eL := toIntS_eq L (by omega)
    obtain ⟨R, hR⟩ : ∃ R, R = plan T s q L [] := ⟨_, rfl⟩
    have hRl : R.1.length ≤ 4194304 := by
      have := plan_len T s q L []
      rw [← hR] at this
      simp only [List.length_nil] at this
      omega
    have es := splan_eq T hTl L (by omega) s q
    have ei := iplan_eq T hTl L (by omega) s q
    rw [← hR] at es ei
    have last : Ev (fun k => laws_FnExactPlanArrivals.j2 k (Loops.marks mkArr 3 1 R.1.length) (1 + 3 * (R.1.length : Int)) false) true := by
      refine Ev.step (f := fun k => (laws_heldArrivalS.f k (Loops.marks mkArr 3 1 R.1.length) 1).bind fun t252 => (if t252 < 0 then (some false) else (if t252 = (1 + 3 * (R.1.length : Int)) then (some true) else (some false)))) (fun k => by simp [laws_FnExactPlanArrivals.j2]) (Ev.bind (heldArrS_eq R.1.length hRl) ?_)
      simp only [if_neg (show ¬ (1 + 3 * (R.1.length : Int)) < 0 by omega), if_true]
      exact Ev.now _
    have mid : Ev (fun k => laws_FnExactPlanArrivals.j1 k T0 L s q R.1 R.2 R.1 false) true := by
      refine Ev.step (f := fun k => (laws_markArrivalS.f k R.1 1).bind fun bt238 => ((laws_heldArrivalS.f k bt238.2 1).bind fun t240 => (if t240 < 0 then (some false) else (if t240 = bt238.1 then ((laws_toSegmentS.f k T0).bind fun t241 => ((laws_toIntS.f k L).bind fun t244 => ((impl_PlanArrivals.f k t241 t244 s q).bind fun bt247 => ((laws_eqArrivalS.f k bt247.1 R.1).bind fun t251 => (if t251 = true then (laws_FnExactPlanArrivals.j2 k bt238.2 bt238.1 (bt247.2 != R.2)) else (laws_FnExactPlanArrivals.j2 k bt238.2 bt238.1 true)))))) else (some false))))) (fun k => by simp [laws_FnExactPlanArrivals.j1]) ?_
      refine Ev.bind (markArrS_eq R.1 hRl) (Ev.bind (heldArrS_eq R.1.length hRl) ?_)
      simp only [if_neg (show ¬ (1 + 3 * (R.1.length : Int)) < 0 by omega), if_true]
      refine Ev.bind eT (Ev.bind eL (Ev.bind ei (Ev.bind (eqArrS_eq R.1 hRl) ?_)))
      simp only [if_true, bne_self_eq_false]
      exact last
    refine Ev.bind eT (Ev.bind eL (Ev.bind es (Ev.bind eT (Ev.bind eL (Ev.bind ei (Ev.bind (eqArrS_eq R.1 hRl) ?_))))))
    simp only [if_true, bne_self_eq_false]
    refine Ev.step (f := fun k => (laws_toSegmentS.f k T0).bind fun t225 => ((laws_eqSegmentS.f k T t225).bind fun t228 => (if t228 = true then ((laws_toIntS.f k L).bind fun t229 => ((laws_eqIntS.f k L t229).bind fun t232 => (if t232 = true then ((laws_markSegmentS.f k T 1).bind fun bt233 => ((laws_markIntS.f k L bt233.1).bind fun bt235 => (if bt235.1 < 0 then (laws_FnExactPlanArrivals.j1 k T0 L s q R.1 R.2 R.1 true) else ((laws_eqArrivalS.f k R.1 R.1).bind fun t237 => (if t237 = true then (laws_FnExactPlanArrivals.j1 k T0 L s q R.1 R.2 R.1 (R.2 != R.2)) else (laws_FnExactPlanArrivals.j1 k T0 L s q R.1 R.2 R.1 true)))))) else (some false)))) else (some false)))) (fun k => by simp [laws_FnExactPlanArrivals.j0]) ?_
    refine Ev.bind eT (Ev.bind (eqSegS_eq T hTl) ?_)
    simp only [if_true]
    refine Ev.bind eL (Ev.bind (eqIntS_eq L (by omega)) ?_)
    simp only [if_true]
    refine Ev.bind (markSegS_eq T hTl) (Ev.bind (markIntS_eq L (1 + 2 * (T.length : Int)) (by omega) (by omega) (by omega)) ?_)
    simp only [if_neg (show ¬ (1 + 2 * (T.length : Int) + (L.length : Int)) < 0 by omega)]
    refine Ev.bind (eqArrS_eq R.1 hRl) ?_
    simp only [if_true, bne_self_eq_false]
    exact mid
  · simp only [if_neg hb2]
    exact Ev.now _

end Go.Proofs.Ytjkhjfladhppkaa.Pure
