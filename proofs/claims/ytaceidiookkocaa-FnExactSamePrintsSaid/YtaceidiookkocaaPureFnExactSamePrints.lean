/- The pure part of FnExactSamePrints: over numbers and lists alone. No condition beyond the numbers' own kinds. -/
import Derived.Test.YtaceidiookkocaaQFnExactSamePrints3
import Derived.Test.YtaceidiookkocaaLot
namespace Go.Proofs.Ytaceidiookkocaa.Pure
open Go.RowKit Go.Proofs.Ytaceidiookkocaa.PFnExactSamePrints Go.Proofs.YtaceidiookkocaaW.PrintWords Go.Proofs.YtaceidiookkocaaW.PrintLast Go.Proofs.YtaceidiookkocaaW.PrintMore
set_option linter.unusedVariables false
set_option linter.unusedSimpArgs false

theorem toIntS_eq (l : List Int) (hl : l.length ≤ 4194304) : Ev (fun k => laws_toIntS.f k l) l := by
  unfold laws_toIntS.f
  simp only [if_pos (show (0 : Int) ≤ (l.length : Int) by omega), Int.toNat_natCast, if_pos (show l.length ≤ 35184372088832 by omega)]
  exact Loops.copy_loop (G := fun k i o => laws_toIntS.l0 k l o i) l 0 (by omega) (fun k i o => by simp only [laws_toIntS.l0, rd])
theorem eqIntS_eq (l : List Int) (hl : l.length ≤ 4194304) : Ev (fun k => laws_eqIntS.f k l l) true := by
  unfold laws_eqIntS.f
  simp only [if_true]
  exact Loops.plain_loop (G := fun k i => laws_eqIntS.l0 k l l i) l.length (by omega) (fun k i hi => by
    simp only [laws_eqIntS.l0]
    rw [if_pos (by omega), if_pos (by omega), if_pos (by omega), if_pos trivial]) (fun k => by
    simp only [laws_eqIntS.l0]
    rw [if_neg (by omega)])
theorem szIntS_eq (l : List Int) (a : Int) (hl : l.length ≤ 9223372036854775807) (h0 : 0 ≤ a) (h1 : a ≤ 1048576) : ∃ t, laws_szIntS.f l a = some t ∧ (0 ≤ t → t ≤ a ∧ l.length ≤ 1048576) := by
  unfold laws_szIntS.f
  rw [Loops.wrap_in (show -9223372036854775808 ≤ a - (l.length : Int) by omega) (by omega)]
  by_cases h : a - (l.length : Int) < 0
  · rw [if_pos h]; exact ⟨-1, rfl, fun h => absurd h (by omega)⟩
  · rw [if_neg h]; exact ⟨_, rfl, fun h => by omega⟩
theorem rdL1 (l : List (List Int)) (i : Nat) : rd_L1 l (i : Int) = l.getD i [] := by simp [rd_L1]
theorem szIntSS_eq (l : List (List Int)) (a : Int) (hl : l.length ≤ 9223372036854775807) (hr : ∀ x ∈ l, x.length ≤ 9223372036854775807) (h0 : 0 ≤ a) (h1 : a ≤ 1048576) : ∃ t, Ev (fun k => laws_szIntSS.f k l a) t ∧ (0 ≤ t → t ≤ a ∧ l.length ≤ 1048576 ∧ ∀ x ∈ l, x.length ≤ 1048576) := by
  unfold laws_szIntSS.f
  rw [Loops.wrap_in (show -9223372036854775808 ≤ a - (l.length : Int) by omega) (by omega)]
  by_cases h : a - (l.length : Int) < 0
  · simp only [if_pos h]; exact ⟨-1, Ev.now _, fun h => absurd h (by omega)⟩
  · simp only [if_neg h]
    obtain ⟨t, ev, ht⟩ := Loops.sz_loop (G := fun k i a => laws_szIntSS.l0 k l a i) l [] 1048576 (fun x a _ => laws_szIntS.f x a) (fun x => x.length ≤ 1048576) hl (fun x hx a h0 h1 => by
      obtain ⟨t, e, ht⟩ := szIntS_eq x a (hr x hx) h0 h1
      exact ⟨t, Loops.Ev.const e, ht⟩) (fun k i a hi => by
      simp only [laws_szIntSS.l0]
      rw [if_pos (by omega), if_pos (by omega), rdL1]) (fun k a => by
      simp only [laws_szIntSS.l0]
      rw [if_neg (by omega)]) (a - (l.length : Int)) (by omega) (by omega)
    exact ⟨t, ev, fun h => ⟨by have := (ht h).1; omega, by omega, (ht h).2⟩⟩
theorem toIntSS_eq (l : List (List Int)) (hl : l.length ≤ 1048576) (hr : ∀ x ∈ l, x.length ≤ 1048576) : Ev (fun k => laws_toIntSS.f k l) l := by
  unfold laws_toIntSS.f
  simp only [if_pos (show (0 : Int) ≤ (l.length : Int) by omega), Int.toNat_natCast, if_pos (show l.length ≤ 11728124029610 by omega)]
  have key := Loops.map_ev (G := fun k i o => laws_toIntSS.l0 k l o i) l [] [] (fun x => x) (fun x k => laws_toIntS.f k x) (by omega) (fun x hx => toIntS_eq x (by have := hr x hx; omega)) (fun k i o hi ho => by
    simp only [laws_toIntSS.l0]
    rw [if_pos (by omega), if_pos (by omega), rdL1]
    congr 1; funext t
    rw [if_pos (by omega), Int.toNat_natCast]) (fun k o => by
    simp only [laws_toIntSS.l0]
    rw [if_neg (by omega)])
  simpa using key
theorem eqIntSS_eq (l : List (List Int)) (hl : l.length ≤ 1048576) (hr : ∀ x ∈ l, x.length ≤ 1048576) : Ev (fun k => laws_eqIntSS.f k l l) true := by
  unfold laws_eqIntSS.f
  simp only [if_true]
  have key := Loops.all_loop (G := fun k i => laws_eqIntSS.l0 k l l i) (r := true) l [] (fun _ => true) (fun x k => laws_eqIntS.f k x x) (by omega) (fun x hx => eqIntS_eq x (by have := hr x hx; omega)) (fun k i hi => by
    simp only [laws_eqIntSS.l0]
    rw [if_pos (by omega), if_pos (by omega), if_pos (by omega), rdL1]) (Loops.Ev.one (fun k => by
    simp only [laws_eqIntSS.l0]
    rw [if_neg (by omega)]))
  rw [show (l.all fun _ => true) = true by rw [List.all_eq_true]; intros; rfl, Bool.true_and] at key
  exact key
def sameRow (a b : List Int) : Bool := decide ((a.length : Int) = b.length) && (a.zip b).all fun q => decide (q.1 = q.2)
def sameRows (a b : List (List Int)) : Bool := decide ((a.length : Int) = b.length) && (a.zip b).all fun q => sameRow q.1 q.2
theorem equal_eq (a b : List Int) (ha : a.length ≤ 1048576) : Ev (fun k => slices_Equal_int_int.f k a b) (sameRow a b) := by
  unfold slices_Equal_int_int.f sameRow
  by_cases h : (a.length : Int) = b.length
  · simp only [if_pos h, decide_eq_true h, Bool.true_and]
    have key := Loops.pairs_loop (G := fun k i => slices_Equal_int_int.l0 k a b (a.length : Int) i) (r := true) a b 0 0 (fun x y => decide (x = y)) (fun x y _ => some (decide (x = y))) (by omega) (by omega) (fun _ _ _ _ => Ev.now _) (fun k i hi => by
      simp only [slices_Equal_int_int.l0]
      rw [if_pos (by omega), if_pos (by omega), if_pos (by omega), if_pos (by omega), Loops.rd_nat, Loops.rd_nat]
      simp only [Option.bind_some, decide_eq_true_eq]) (Loops.Ev.one (fun k => by
      simp only [slices_Equal_int_int.l0]
      rw [if_neg (by omega)]))
    rw [Bool.and_true] at key
    exact key
  · simp only [if_neg h, decide_eq_false h, Bool.false_and]
    exact Ev.now _
theorem isame_eq (a b : List (List Int)) (ha : a.length ≤ 1048576) (hr : ∀ x ∈ a, x.length ≤ 1048576) : Ev (fun k => impl_SameRows.f k a b) (sameRows a b) := by
  have key : Ev (fun k => slices_EqualFunc_int_int_int_int.f k a b) (sameRows a b) := by
    unfold slices_EqualFunc_int_int_int_int.f sameRows
    by_cases h : (a.length : Int) = b.length
    · simp only [if_pos h, decide_eq_true h, Bool.true_and]
      have key := Loops.pairs_loop (G := fun k i => slices_EqualFunc_int_int_int_int.l0 k b a (a.length : Int) i) (r := true) a b [] [] sameRow (fun x y k => impl_SameRows_1.f k x y) (by omega) (by omega) (fun x hx y _ => by
        unfold impl_SameRows_1.f
        exact Ev.bind (equal_eq x y (hr x hx)) (Ev.now _)) (fun k i hi => by
        simp only [slices_EqualFunc_int_int_int_int.l0]
        rw [if_pos (by omega), if_pos (by omega), if_pos (by omega), if_pos (by omega), rdL1, rdL1]) (Loops.Ev.one (fun k => by
        simp only [slices_EqualFunc_int_int_int_int.l0]
        rw [if_neg (by omega)]))
      rw [Bool.and_true] at key
      exact key
    · simp only [if_neg h, decide_eq_false h, Bool.false_and]
      exact Ev.now _
  unfold impl_SameRows.f
  exact Ev.bind key (Ev.now _)
theorem ssame_eq (a b : List (List Int)) (ha : a.length ≤ 1048576) (hr : ∀ x ∈ a, x.length ≤ 1048576) : Ev (fun k => spec_SameRows.f k a b) (sameRows a b) := by
  unfold spec_SameRows.f sameRows
  by_cases h : (a.length : Int) = b.length
  · simp only [if_pos h, decide_eq_true h, Bool.true_and]
    have key := Loops.back_loop (G := fun k i (_ : Unit) => spec_SameRows.l0 k a b i) (fun i _ => ((a.drop i).zip (b.drop i)).all fun q => sameRow q.1 q.2) a.length (fun i _ hi ih => by
      rw [Loops.drop_cons_getD a [] i hi, Loops.drop_cons_getD b [] i (by omega), List.zip_cons_cons, List.all_cons]
      have hx := hr _ (Loops.getD_mem a [] i hi)
      by_cases hq : ((a.getD i []).length : Int) = ((b.getD i []).length : Int)
      · refine Ev.step (f := fun k => spec_SameRows.l1 k a b (i : Int) 0) (fun k => by simp only [spec_SameRows.l0]; rw [if_pos (by omega), if_pos (by omega), if_pos (by omega), rdL1, rdL1, if_pos hq]) ?_
        simp only [sameRow, decide_eq_true hq, Bool.true_and]
        exact Loops.pairs_loop (G := fun k j => spec_SameRows.l1 k a b (i : Int) j) (a.getD i []) (b.getD i []) 0 0 (fun x y => decide (x = y)) (fun x y _ => some (decide (x = y))) (by omega) (by omega) (fun _ _ _ _ => Ev.now _) (fun k j hj => by
          simp only [spec_SameRows.l1, rdL1]
          rw [if_pos (by omega), if_pos (by omega), if_pos (by omega), if_pos (by omega), if_pos (by omega), if_pos (by omega), Loops.rd_nat, Loops.rd_nat]
          simp only [Option.bind_some, decide_eq_true_eq]) (Ev.step (f := fun k => spec_SameRows.l0 k a b ((i + 1 : Nat) : Int)) (fun k => by
          simp only [spec_SameRows.l1, rdL1]
          rw [if_pos (by omega), if_pos (by omega), if_neg (by omega), Loops.wrap_succ hi (by omega)]) (ih ()))
      · refine Loops.Ev.one (fun k => ?_)
        simp only [spec_SameRows.l0, sameRow]
        rw [if_pos (by omega), if_pos (by omega), if_pos (by omega), rdL1, rdL1, if_neg hq, decide_eq_false hq, Bool.false_and, Bool.false_and]) (fun _ => by
      refine Loops.Ev.one (fun k => ?_)
      simp only [spec_SameRows.l0, List.drop_length, List.zip_nil_left, List.all_nil]
      rw [if_neg (by omega)]) ()
    simpa using key
  · simp only [if_neg h, decide_eq_false h, Bool.false_and]
    exact Ev.now _
theorem rdT52 (l : List S52) (i : Nat) : rd_T52 l (i : Int) = l.getD i z52 := by simp [rd_T52]
theorem rdT53 (l : List S53) (i : Nat) : rd_T53 l (i : Int) = l.getD i z53 := by simp [rd_T53]
def Fine (x : S52) : Prop := x.f1.length ≤ 1048576 ∧ ∀ y ∈ x.f1, y.length ≤ 1048576
def Fine3 (x : S53) : Prop := x.f1.length ≤ 1048576 ∧ ∀ y ∈ x.f1, y.length ≤ 1048576
theorem szPrintS_eq (l : List S52) (a : Int) (hl : l.length ≤ 9223372036854775807) (hr : ∀ x ∈ l, x.f1.length ≤ 9223372036854775807 ∧ ∀ y ∈ x.f1, y.length ≤ 9223372036854775807) (h0 : 0 ≤ a) (h1 : a ≤ 1048576) : ∃ t, Ev (fun k => laws_szPrintS.f k l a) t ∧ (0 ≤ t → t ≤ a ∧ l.length ≤ 1048576 ∧ ∀ x ∈ l, Fine x) := by
  unfold laws_szPrintS.f
  rw [Loops.wrap_in (show -9223372036854775808 ≤ a - (l.length : Int) by omega) (by omega)]
  by_cases h : a - (l.length : Int) < 0
  · simp only [if_pos h]; exact ⟨-1, Ev.now _, fun h => absurd h (by omega)⟩
  · simp only [if_neg h]
    obtain ⟨t, ev, ht⟩ := Loops.sz_loop (G := fun k i a => laws_szPrintS.l0 k l a i) l z52 1048576 (fun x a k => laws_szPrint.f k x.f0 x.f1 a) Fine hl (fun x hx a h0 h1 => by
      obtain ⟨t, e, ht⟩ := szIntSS_eq x.f1 a (hr x hx).1 (hr x hx).2 h0 h1
      unfold laws_szPrint.f
      by_cases hn : t < 0
      · exact ⟨-1, Ev.bind e (by simp only [if_pos hn]; exact Ev.now _), fun h => absurd h (by omega)⟩
      · exact ⟨t, Ev.bind e (by simp only [if_neg hn]; exact Ev.now _), fun h => ht h⟩) (fun k i a hi => by
      simp only [laws_szPrintS.l0]
      rw [if_pos (by omega), if_pos (by omega), rdT52]) (fun k a => by
      simp only [laws_szPrintS.l0]
      rw [if_neg (by omega)]) (a - (l.length : Int)) (by omega) (by omega)
    exact ⟨t, ev, fun h => ⟨by have := (ht h).1; omega, by omega, (ht h).2⟩⟩
def conv (x : S52) : S53 := ⟨x.f0, x.f1⟩
theorem toPrintS_eq (l : List S52) (hl : l.length ≤ 1048576) (hr : ∀ x ∈ l, Fine x) : Ev (fun k => laws_toPrintS.f k l) (l.map conv) := by
  unfold laws_toPrintS.f
  simp only [if_pos (show (0 : Int) ≤ (l.length : Int) by omega), Int.toNat_natCast, if_pos (show l.length ≤ 8796093022208 by omega)]
  exact Loops.map_ev (G := fun k i o => laws_toPrintS.l0 k l o i) l z52 z53 conv (fun x k => (laws_toPrint.f k x.f0 x.f1).bind fun b => some (⟨b.1, b.2⟩ : S53)) (by omega) (fun x hx => by
    refine Ev.bind (a := (x.f0, x.f1)) ?_ (Ev.now _)
    unfold laws_toPrint.f
    exact Ev.bind (toIntSS_eq x.f1 (hr x hx).1 (hr x hx).2) (Ev.now _)) (fun k i o hi ho => by
    simp only [laws_toPrintS.l0]
    rw [if_pos (by omega), if_pos (by omega), rdT52, Option.bind_assoc]
    congr 1; funext t
    rw [if_pos (by omega), Int.toNat_natCast, Option.bind_some]) (fun k o => by
    simp only [laws_toPrintS.l0]
    rw [if_neg (by omega)])
theorem eqPrintS_eq (l : List S53) (hl : l.length ≤ 1048576) (hr : ∀ x ∈ l, Fine3 x) : Ev (fun k => laws_eqPrintS.f k l l) true := by
  unfold laws_eqPrintS.f
  simp only [if_true]
  have key := Loops.all_loop (G := fun k i => laws_eqPrintS.l0 k l l i) (r := true) l z53 (fun _ => true) (fun x k => laws_eqPrint.f k x.f0 x.f1 x.f0 x.f1) (by omega) (fun x hx => by
    unfold laws_eqPrint.f
    simp only [if_true]
    refine Ev.bind (eqIntSS_eq x.f1 (hr x hx).1 (hr x hx).2) ?_
    simp only [if_true]
    exact Ev.now _) (fun k i hi => by
    simp only [laws_eqPrintS.l0]
    rw [if_pos (by omega), if_pos (by omega), if_pos (by omega), rdT53]) (Loops.Ev.one (fun k => by
    simp only [laws_eqPrintS.l0]
    rw [if_neg (by omega)]))
  rw [show (l.all fun _ => true) = true by rw [List.all_eq_true]; intros; rfl, Bool.true_and] at key
  exact key
def samePrint (a b : S53) : Bool := decide (a.f0 = b.f0) && sameRows a.f1 b.f1
def samePrints (a b : List S53) : Bool := decide ((a.length : Int) = b.length) && (a.zip b).all fun q => samePrint q.1 q.2
theorem sprints_eq (a b : List S53) (ha : a.length ≤ 1048576) (hr : ∀ x ∈ a, Fine3 x) : Ev (fun k => spec_SamePrints.f k a b) (samePrints a b) := by
  unfold spec_SamePrints.f samePrints
  by_cases h : (a.length : Int) = b.length
  · simp only [if_pos h, decide_eq_true h, Bool.true_and]
    have key := Loops.pairs_loop (G := fun k i => spec_SamePrints.l0 k a b i) (r := true) a b z53 z53 samePrint (fun x y k => if x.f0 = y.f0 then spec_SameRows.f k x.f1 y.f1 else some false) (by omega) (by omega) (fun x hx y _ => by
      unfold samePrint
      by_cases hq : x.f0 = y.f0
      · simp only [if_pos hq, decide_eq_true hq, Bool.true_and]
        exact ssame_eq x.f1 y.f1 (hr x hx).1 (hr x hx).2
      · simp only [if_neg hq, decide_eq_false hq, Bool.false_and]
        exact Ev.now _) (fun k i hi => by
      simp only [spec_SamePrints.l0]
      rw [if_pos (by omega), if_pos (by omega), if_pos (by omega), rdT53, rdT53]
      split
      · rfl
      · rfl) (Loops.Ev.one (fun k => by
      simp only [spec_SamePrints.l0]
      rw [if_neg (by omega)]))
    rw [Bool.and_true] at key
    exact key
  · simp only [if_neg h, decide_eq_false h, Bool.false_and]
    exact Ev.now _
theorem iprints_eq (a b : List S53) (ha : a.length ≤ 1048576) (hr : ∀ x ∈ a, Fine3 x) : Ev (fun k => impl_SamePrints.f k a b) (samePrints a b) := by
  unfold impl_SamePrints.f samePrints
  by_cases h : (a.length : Int) = b.length
  · simp only [if_pos h, decide_eq_true h, Bool.true_and]
    have key := Loops.pairs_loop (G := fun k i => impl_SamePrints.l0 k a b (a.length : Int) i) (r := true) a b z53 z53 samePrint (fun x y k => if x.f0 = y.f0 then impl_SameRows.f k x.f1 y.f1 else some false) (by omega) (by omega) (fun x hx y _ => by
      unfold samePrint
      by_cases hq : x.f0 = y.f0
      · simp only [if_pos hq, decide_eq_true hq, Bool.true_and]
        exact isame_eq x.f1 y.f1 (hr x hx).1 (hr x hx).2
      · simp only [if_neg hq, decide_eq_false hq, Bool.false_and]
        exact Ev.now _) (fun k i hi => by
      simp only [impl_SamePrints.l0]
      rw [if_pos (by omega), if_pos (by omega), if_pos (by omega), if_pos (by omega), rdT53, rdT53]
      split
      · rfl
      · rfl) (Loops.Ev.one (fun k => by
      simp only [impl_SamePrints.l0]
      rw [if_neg (by omega)]))
    rw [Bool.and_true] at key
    exact key
  · simp only [if_neg h, decide_eq_false h, Bool.false_and]
    exact Ev.now _
theorem fine_map (l : List S52) (h : ∀ x ∈ l, Fine x) : ∀ x ∈ l.map conv, Fine3 x := by
  intro x hx
  obtain ⟨y, hy, rfl⟩ := List.mem_map.mp hx
  exact h y hy
theorem FnExactSamePrints : ∀ (l0 : List (S52)) (l1 : List (S52)), (l0.length ≤ maxLen ∧ ∀ x ∈ l0, (Lit.int .i64 x.f0).wf = true ∧ (x.f1.length ≤ maxLen ∧ ∀ y ∈ x.f1, y.length ≤ maxLen ∧ ∀ z ∈ y, (Lit.int .i64 z).wf = true)) → (l1.length ≤ maxLen ∧ ∀ x ∈ l1, (Lit.int .i64 x.f0).wf = true ∧ (x.f1.length ≤ maxLen ∧ ∀ y ∈ x.f1, y.length ≤ maxLen ∧ ∀ z ∈ y, (Lit.int .i64 z).wf = true)) → ∃ k, laws_FnExactSamePrints.f k l0 l1 = some true := by
  intro l m ⟨hl0, hl1⟩ ⟨hm0, hm1⟩
  have e : maxLen = 9223372036854775807 := by decide
  rw [e] at hl0 hm0
  refine Ev.rounds ?_
  unfold laws_FnExactSamePrints.f
  obtain ⟨t, ev, ht⟩ := szPrintS_eq l 1048576 hl0 (fun x hx => ⟨by have := (hl1 x hx).2.1; omega, fun y hy => by have := ((hl1 x hx).2.2 y hy).1; omega⟩) (by omega) (by omega)
  refine Ev.bind ev ?_
  by_cases hn : t < 0
  · simp only [if_pos hn]; exact Ev.now _
  simp only [if_neg hn]
  obtain ⟨ht1, hl, hlr⟩ := ht (by omega)
  obtain ⟨u, eu, hu⟩ := szPrintS_eq m t hm0 (fun x hx => ⟨by have := (hm1 x hx).2.1; omega, fun y hy => by have := ((hm1 x hx).2.2 y hy).1; omega⟩) (by omega) (by omega)
  refine Ev.bind eu ?_
  by_cases hn2 : u < 0
  · simp only [if_pos hn2]; exact Ev.now _
  simp only [if_neg hn2]
  obtain ⟨_, hm, hmr⟩ := hu (by omega)
  have tl := toPrintS_eq l hl hlr
  have tm := toPrintS_eq m hm hmr
  have fl := fine_map l hlr
  have fm := fine_map m hmr
  have ll : (l.map conv).length ≤ 1048576 := by simpa using hl
  have lm : (m.map conv).length ≤ 1048576 := by simpa using hm
  refine Ev.bind tl (Ev.bind tm (Ev.bind (sprints_eq _ _ ll fl) (Ev.bind tl (Ev.bind tm (Ev.bind (iprints_eq _ _ ll fl) ?_)))))
  simp only [bne_self_eq_false, Bool.false_eq_true, if_false]
  refine Ev.bind tl (Ev.bind (eqPrintS_eq _ ll fl) ?_)
  simp only [if_true]
  refine Ev.bind tm (Ev.bind (eqPrintS_eq _ lm fm) ?_)
  simp only [if_true]
  exact Ev.now _

end Go.Proofs.Ytaceidiookkocaa.Pure
