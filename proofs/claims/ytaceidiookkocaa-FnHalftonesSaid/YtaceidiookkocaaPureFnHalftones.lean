/- The pure part of FnHalftones: over numbers and lists alone. No condition beyond the numbers' own kinds. -/
import Derived.Test.YtaceidiookkocaaQFnHalftones5
import Derived.Test.YtaceidiookkocaaLot
import Derived.Test.YtaceidiookkocaaDraw
namespace Go.Proofs.Ytaceidiookkocaa.Pure
open Go.RowKit Go.Proofs.Ytaceidiookkocaa.PFnHalftones Go.Proofs.YtaceidiookkocaaW.PrintWords Go.Proofs.YtaceidiookkocaaW.PrintLast Go.Proofs.YtaceidiookkocaaW.PrintMore
set_option linter.unusedVariables false
set_option linter.unusedSimpArgs false

def bump (l : List Int) (j : Nat) (a : Int) : List Int := l.set j (l.getD j 0 + a)
theorem bump_len (l : List Int) (j : Nat) (a : Int) : (bump l j a).length = l.length := by simp [bump]
theorem bump_get (l : List Int) (j : Nat) (a : Int) (i : Nat) (h : j < l.length) : (bump l j a).getD i 0 = l.getD i 0 + if i = j then a else 0 := by
  unfold bump
  simp only [List.getD, List.getElem?_set]
  by_cases e : j = i
  · subst e
    simp [h]
  · rw [if_neg e, if_neg (fun h => e h.symm)]
    omega
theorem sum_set (l : List Int) : ∀ (j : Nat) (x : Int), j < l.length → (l.set j x).sum = l.sum - l.getD j 0 + x := by
  induction l with
  | nil => intro j x h; exact absurd h (by simp)
  | cons y ys ih =>
    intro j x h
    cases j with
    | zero => simp; omega
    | succ j =>
      have := ih j x (by simpa using h)
      simp only [List.set_cons_succ, List.sum_cons, List.getD_cons_succ] at this ⊢
      omega
theorem bump_sum (l : List Int) (j : Nat) (a : Int) (h : j < l.length) : (bump l j a).sum = l.sum + a := by
  unfold bump
  rw [sum_set l j _ h]
  omega
theorem sum_le (l : List Int) : ∀ (m : List Int), l.length = m.length → (∀ i, i < l.length → l.getD i 0 ≤ m.getD i 0) → l.sum ≤ m.sum := by
  induction l with
  | nil => intro m h _; cases m with
    | nil => simp
    | cons => simp at h
  | cons y ys ih =>
    intro m h hp
    cases m with
    | nil => simp at h
    | cons z zs =>
      have h0 := hp 0 (by simp)
      have := ih zs (by simpa using h) (fun i hi => by have := hp (i + 1) (by simpa using hi); simpa using this)
      simp only [List.sum_cons]
      simp at h0
      omega
theorem sum_nonneg (l : List Int) (h : ∀ i, i < l.length → 0 ≤ l.getD i 0) : 0 ≤ l.sum := by
  have := sum_le (List.replicate l.length 0) l (by simp) (fun i hi => by
    simp only [List.length_replicate] at hi
    have := h i hi
    simp only [List.getD, List.getElem?_replicate, if_pos hi]
    exact this)
  have e : (List.replicate l.length (0 : Int)).sum = 0 := by
    generalize l.length = n
    induction n with
    | zero => rfl
    | succ n ih => rw [List.replicate_succ, List.sum_cons, ih]; rfl
  omega
theorem get_le_sum (l : List Int) (h : ∀ i, i < l.length → 0 ≤ l.getD i 0) (j : Nat) (hj : j < l.length) : l.getD j 0 ≤ l.sum := by
  have h1 := sum_set l j 0 hj
  have h2 := sum_nonneg (l.set j 0) (fun i hi => by
    simp only [List.length_set] at hi
    simp only [List.getD, List.getElem?_set]
    by_cases e : j = i
    · subst e; simp [hj]
    · rw [if_neg e]
      exact h i hi)
  omega
def up (x : Int) (b : Int) : Int := max (x - b) 0
/-- One dot: what is left goes on to the right, and down to three. -/
def dpix (i : Nat) (v c p : Int) (b D : List Int) : Int × List Int × List Int :=
  if v + c + p ≥ 128 then ((v + c + p - 255) - 3 * (v + c + p - 255) / 16 - 5 * (v + c + p - 255) / 16 - (v + c + p - 255) / 16, b.set i 1, bump (bump (bump D (i - 1) (3 * (v + c + p - 255) / 16)) i (5 * (v + c + p - 255) / 16)) (min 31 (i + 1)) ((v + c + p - 255) / 16))
  else ((v + c + p) - 3 * (v + c + p) / 16 - 5 * (v + c + p) / 16 - (v + c + p) / 16, b, bump (bump (bump D (i - 1) (3 * (v + c + p) / 16)) i (5 * (v + c + p) / 16)) (min 31 (i + 1)) ((v + c + p) / 16))
def drow (v c : List Int) : Nat → Int × List Int × List Int
  | 0 => (0, List.replicate 32 0, List.replicate 32 0)
  | i + 1 => dpix i (v.getD i 0) (c.getD i 0) (drow v c i).1 (drow v c i).2.1 (drow v c i).2.2
def dbits (v c : List Int) : List Int := (drow v c 32).2.1
def dcarry (v c : List Int) : List Int := bump (drow v c 32).2.2 31 (drow v c 32).1
/-- What the i dots so far have laid upon x, where each lays the same. -/
def Bs (α β γ : Int) : Nat → Nat → Int
  | 0, _ => 0
  | i + 1, x => Bs α β γ i x + (if x = i - 1 then α else 0) + (if x = i then β else 0) + (if x = min 31 (i + 1) then γ else 0)
theorem pix_up {v c p r : Int} (hv : v ≤ 255) (hr : r = v + c + p ∧ r ≤ 127 ∨ r = v + c + p - 255) :
    up (3 * r / 16) 23 + up (5 * r / 16) 39 + up (r / 16) 7 + up (r - 3 * r / 16 - 5 * r / 16 - r / 16) 58 ≤ up c 69 + up p 58 + 3 := by
  unfold up
  omega
theorem pix_down {v c p r : Int} (hv : 0 ≤ v) (hr : r = v + c + p ∨ r = v + c + p - 255 ∧ -127 ≤ r) :
    up (-(3 * r / 16)) 24 + up (-(5 * r / 16)) 40 + up (-(r / 16)) 8 + up (-(r - 3 * r / 16 - 5 * r / 16 - r / 16)) 55 ≤ up (-c) 72 + up (-p) 55 + 3 := by
  unfold up
  omega
theorem take_sum_succ (l : List Int) (i : Nat) (h : i < l.length) : (l.take (i + 1)).sum = (l.take i).sum + l.getD i 0 := by
  rw [Loops.take_one_more l 0 i h, List.sum_append]
  simp
theorem drow_plain (v c : List Int) (hv : v.length = 32) (hc : c.length = 32) : ∀ i, i ≤ 32 → (drow v c i).2.1.length = 32 ∧ (drow v c i).2.2.length = 32 ∧ (∀ j, i ≤ j → (drow v c i).2.1.getD j 0 = 0) ∧ (∀ j, 0 ≤ (drow v c i).2.1.getD j 0 ∧ (drow v c i).2.1.getD j 0 ≤ 1) ∧ (drow v c i).2.2.sum + (drow v c i).1 + 255 * (drow v c i).2.1.sum = (v.take i).sum + (c.take i).sum := by
  intro i
  induction i with
  | zero =>
    intro _
    have e : ∀ j, (List.replicate 32 (0 : Int)).getD j 0 = 0 := by
      intro j
      simp only [List.getD, List.getElem?_replicate]
      split <;> rfl
    refine ⟨rfl, rfl, fun j _ => e j, fun j => ?_, rfl⟩
    show 0 ≤ (List.replicate 32 (0 : Int)).getD j 0 ∧ (List.replicate 32 (0 : Int)).getD j 0 ≤ 1
    rw [e j]
    omega
  | succ i ih =>
    intro hi
    obtain ⟨h1, h2, h3, h4, h5⟩ := ih (by omega)
    have tv := take_sum_succ v i (by omega)
    have tc := take_sum_succ c i (by omega)
    simp only [drow]
    generalize (drow v c i).1 = p at *
    generalize (drow v c i).2.1 = b at *
    generalize (drow v c i).2.2 = D at *
    have hs : ∀ x y z : Int, (bump (bump (bump D (i - 1) x) i y) (min 31 (i + 1)) z).sum = D.sum + x + y + z ∧ (bump (bump (bump D (i - 1) x) i y) (min 31 (i + 1)) z).length = 32 := by
      intro x y z
      rw [bump_sum _ _ _ (by rw [bump_len, bump_len]; omega), bump_sum _ _ _ (by rw [bump_len]; omega), bump_sum _ _ _ (by omega), bump_len, bump_len, bump_len]
      exact ⟨rfl, h2⟩
    unfold dpix
    by_cases ht : v.getD i 0 + c.getD i 0 + p ≥ 128
    · rw [if_pos ht]
      dsimp only
      refine ⟨by simpa using h1, (hs _ _ _).2, fun j hj => ?_, fun j => ?_, ?_⟩
      · simp only [List.getD, List.getElem?_set]
        rw [if_neg (by omega)]
        exact h3 j (by omega)
      · simp only [List.getD, List.getElem?_set]
        by_cases e : i = j
        · subst e
          simp only [if_true]
          split <;> simp
        · rw [if_neg e]
          exact h4 j
      · rw [(hs _ _ _).1, sum_set b i 1 (by omega), h3 i (Nat.le_refl _), tv, tc]
        omega
    · rw [if_neg ht]
      dsimp only
      refine ⟨h1, (hs _ _ _).2, fun j hj => h3 j (by omega), h4, ?_⟩
      rw [(hs _ _ _).1, tv, tc]
      omega
theorem drop_map_succ (c : List Int) (f : Int → Int) (i : Nat) (h : i < c.length) : ((c.drop i).map f).sum = f (c.getD i 0) + ((c.drop (i + 1)).map f).sum := by
  rw [Loops.drop_cons_getD c 0 i h, List.map_cons, List.sum_cons]
theorem bump3_get (D : List Int) (hD : D.length = 32) (i : Nat) (hi : i < 32) (a b q : Int) (x : Nat) : (bump (bump (bump D (i - 1) a) i b) (min 31 (i + 1)) q).getD x 0 = D.getD x 0 + (if x = i - 1 then a else 0) + (if x = i then b else 0) + (if x = min 31 (i + 1) then q else 0) := by
  rw [bump_get _ _ _ _ (by rw [bump_len, bump_len]; omega), bump_get _ _ _ _ (by rw [bump_len]; omega), bump_get _ _ _ _ (by omega)]
theorem bump3_sum (D : List Int) (hD : D.length = 32) (i : Nat) (hi : i < 32) (x y z : Int) : (bump (bump (bump D (i - 1) x) i y) (min 31 (i + 1)) z).sum = D.sum + x + y + z ∧ (bump (bump (bump D (i - 1) x) i y) (min 31 (i + 1)) z).length = 32 := by
  rw [bump_sum _ _ _ (by rw [bump_len, bump_len]; omega), bump_sum _ _ _ (by rw [bump_len]; omega), bump_sum _ _ _ (by omega), bump_len, bump_len, bump_len]
  exact ⟨rfl, hD⟩
theorem up_nonneg (x b : Int) : 0 ≤ up x b := by unfold up; omega
theorem up_le (x b : Int) : x ≤ b + up x b := by unfold up; omega
/-- How far what is laid exceeds what even dots lay: above. -/
theorem drow_up (v c : List Int) (hv : v.length = 32) (hc : c.length = 32) (hb : ∀ j, v.getD j 0 ≤ 255) : ∀ i, i ≤ 32 → ∃ X : List Int, X.length = 32 ∧ (∀ x, 0 ≤ X.getD x 0) ∧ (∀ x, x < 32 → (drow v c i).2.2.getD x 0 ≤ Bs 23 39 7 i x + X.getD x 0) ∧
    X.sum + up (drow v c i).1 58 + ((c.drop i).map (fun z => up z 69)).sum ≤ (c.map (fun z => up z 69)).sum + 3 * (i : Int) := by
  intro i
  induction i with
  | zero =>
    intro _
    have e : ∀ j, (List.replicate 32 (0 : Int)).getD j 0 = 0 := by
      intro j
      simp only [List.getD, List.getElem?_replicate]
      split <;> rfl
    refine ⟨List.replicate 32 0, rfl, fun x => by rw [e]; omega, fun x _ => ?_, ?_⟩
    · show (List.replicate 32 (0 : Int)).getD x 0 ≤ Bs 23 39 7 0 x + (List.replicate 32 (0 : Int)).getD x 0
      rw [e]
      simp [Bs]
    · have e1 : (List.replicate 32 (0 : Int)).sum = 0 := rfl
      have e2 : up (drow v c 0).1 58 = 0 := rfl
      rw [e1, e2, List.drop_zero]
      omega
  | succ i ih =>
    intro hi
    obtain ⟨X, x1, x2, x3, x4⟩ := ih (by omega)
    obtain ⟨h1, h2, _⟩ := drow_plain v c hv hc i (by omega)
    have dm := drop_map_succ c (fun z => up z 69) i (by omega)
    have key : ∀ r : Int, (r = v.getD i 0 + c.getD i 0 + (drow v c i).1 ∧ r ≤ 127 ∨ r = v.getD i 0 + c.getD i 0 + (drow v c i).1 - 255) → ∃ X : List Int, X.length = 32 ∧ (∀ x, 0 ≤ X.getD x 0) ∧ (∀ x, x < 32 → (bump (bump (bump (drow v c i).2.2 (i - 1) (3 * r / 16)) i (5 * r / 16)) (min 31 (i + 1)) (r / 16)).getD x 0 ≤ Bs 23 39 7 (i + 1) x + X.getD x 0) ∧
        X.sum + up (r - 3 * r / 16 - 5 * r / 16 - r / 16) 58 + ((c.drop (i + 1)).map (fun z => up z 69)).sum ≤ (c.map (fun z => up z 69)).sum + 3 * ((i + 1 : Nat) : Int) := by
      intro r hr
      have hp := pix_up (hb i) hr
      refine ⟨bump (bump (bump X (i - 1) (up (3 * r / 16) 23)) i (up (5 * r / 16) 39)) (min 31 (i + 1)) (up (r / 16) 7), (bump3_sum X x1 i (by omega) _ _ _).2, fun x => ?_, fun x hx => ?_, ?_⟩
      · rw [bump3_get X x1 i (by omega)]
        have := x2 x
        have a1 := up_nonneg (3 * r / 16) 23
        have a2 := up_nonneg (5 * r / 16) 39
        have a3 := up_nonneg (r / 16) 7
        split <;> split <;> split <;> omega
      · rw [bump3_get X x1 i (by omega), bump3_get _ h2 i (by omega)]
        have := x3 x hx
        have a1 := up_le (3 * r / 16) 23
        have a2 := up_le (5 * r / 16) 39
        have a3 := up_le (r / 16) 7
        simp only [Bs]
        split <;> split <;> split <;> omega
      · rw [(bump3_sum X x1 i (by omega) _ _ _).1]
        omega
    simp only [drow]
    unfold dpix
    by_cases ht : v.getD i 0 + c.getD i 0 + (drow v c i).1 ≥ 128
    · rw [if_pos ht]
      exact key _ (.inr rfl)
    · rw [if_neg ht]
      exact key _ (.inl ⟨rfl, by omega⟩)
/-- .. and below. -/
theorem drow_down (v c : List Int) (hv : v.length = 32) (hc : c.length = 32) (hb : ∀ j, 0 ≤ v.getD j 0) : ∀ i, i ≤ 32 → ∃ X : List Int, X.length = 32 ∧ (∀ x, 0 ≤ X.getD x 0) ∧ (∀ x, x < 32 → -((drow v c i).2.2.getD x 0) ≤ Bs 24 40 8 i x + X.getD x 0) ∧
    X.sum + up (-(drow v c i).1) 55 + ((c.drop i).map (fun z => up (-z) 72)).sum ≤ (c.map (fun z => up (-z) 72)).sum + 3 * (i : Int) := by
  intro i
  induction i with
  | zero =>
    intro _
    have e : ∀ j, (List.replicate 32 (0 : Int)).getD j 0 = 0 := by
      intro j
      simp only [List.getD, List.getElem?_replicate]
      split <;> rfl
    refine ⟨List.replicate 32 0, rfl, fun x => by rw [e]; omega, fun x _ => ?_, ?_⟩
    · show -((List.replicate 32 (0 : Int)).getD x 0) ≤ Bs 24 40 8 0 x + (List.replicate 32 (0 : Int)).getD x 0
      rw [e]
      simp [Bs]
    · have e1 : (List.replicate 32 (0 : Int)).sum = 0 := rfl
      have e2 : up (-(drow v c 0).1) 55 = 0 := rfl
      rw [e1, e2, List.drop_zero]
      omega
  | succ i ih =>
    intro hi
    obtain ⟨X, x1, x2, x3, x4⟩ := ih (by omega)
    obtain ⟨h1, h2, _⟩ := drow_plain v c hv hc i (by omega)
    have dm := drop_map_succ c (fun z => up (-z) 72) i (by omega)
    have key : ∀ r : Int, (r = v.getD i 0 + c.getD i 0 + (drow v c i).1 ∨ r = v.getD i 0 + c.getD i 0 + (drow v c i).1 - 255 ∧ -127 ≤ r) → ∃ X : List Int, X.length = 32 ∧ (∀ x, 0 ≤ X.getD x 0) ∧ (∀ x, x < 32 → -((bump (bump (bump (drow v c i).2.2 (i - 1) (3 * r / 16)) i (5 * r / 16)) (min 31 (i + 1)) (r / 16)).getD x 0) ≤ Bs 24 40 8 (i + 1) x + X.getD x 0) ∧
        X.sum + up (-(r - 3 * r / 16 - 5 * r / 16 - r / 16)) 55 + ((c.drop (i + 1)).map (fun z => up (-z) 72)).sum ≤ (c.map (fun z => up (-z) 72)).sum + 3 * ((i + 1 : Nat) : Int) := by
      intro r hr
      have hp := pix_down (hb i) hr
      refine ⟨bump (bump (bump X (i - 1) (up (-(3 * r / 16)) 24)) i (up (-(5 * r / 16)) 40)) (min 31 (i + 1)) (up (-(r / 16)) 8), (bump3_sum X x1 i (by omega) _ _ _).2, fun x => ?_, fun x hx => ?_, ?_⟩
      · rw [bump3_get X x1 i (by omega)]
        have := x2 x
        have a1 := up_nonneg (-(3 * r / 16)) 24
        have a2 := up_nonneg (-(5 * r / 16)) 40
        have a3 := up_nonneg (-(r / 16)) 8
        split <;> split <;> split <;> omega
      · rw [bump3_get X x1 i (by omega), bump3_get _ h2 i (by omega)]
        have := x3 x hx
        have a1 := up_le (-(3 * r / 16)) 24
        have a2 := up_le (-(5 * r / 16)) 40
        have a3 := up_le (-(r / 16)) 8
        simp only [Bs]
        split <;> split <;> split <;> omega
      · rw [(bump3_sum X x1 i (by omega) _ _ _).1]
        omega
    simp only [drow]
    unfold dpix
    by_cases ht : v.getD i 0 + c.getD i 0 + (drow v c i).1 ≥ 128
    · rw [if_pos ht]
      exact key _ (.inr ⟨rfl, by omega⟩)
    · rw [if_neg ht]
      exact key _ (.inl rfl)
theorem bs_up : ∀ x, x < 32 → Bs 23 39 7 32 x ≤ 69 + (if x = 0 then 16 else 0) - (if x = 31 then 16 else 0) := by decide +kernel
theorem bs_down : ∀ x, x < 32 → Bs 24 40 8 32 x ≤ 72 + (if x = 0 then 16 else 0) - (if x = 31 then 16 else 0) := by decide +kernel
theorem bs_le (α β γ : Int) (ha : 0 ≤ α) (hb : 0 ≤ β) (hg : 0 ≤ γ) : ∀ i x, 0 ≤ Bs α β γ i x ∧ Bs α β γ i x ≤ (α + β + γ) * (i : Int) := by
  intro i
  induction i with
  | zero => intro x; simp [Bs]
  | succ i ih =>
    intro x
    have := ih x
    have e : (α + β + γ) * ((i + 1 : Nat) : Int) = (α + β + γ) * (i : Int) + (α + β + γ) := by
      rw [show ((i + 1 : Nat) : Int) = (i : Int) + 1 by omega, Int.mul_add, Int.mul_one]
    rw [e]
    simp only [Bs]
    split <;> split <;> split <;> omega
theorem map_sum_nonneg (l : List Int) (f : Int → Int) (h : ∀ x, 0 ≤ f x) : 0 ≤ (l.map f).sum := by
  induction l with
  | nil => simp
  | cons y ys ih => rw [List.map_cons, List.sum_cons]; have := h y; omega
theorem map_get_le (l : List Int) (f : Int → Int) (h : ∀ x, 0 ≤ f x) (i : Nat) (hi : i < l.length) : f (l.getD i 0) ≤ (l.map f).sum := by
  induction l generalizing i with
  | nil => exact absurd hi (by simp)
  | cons y ys ih =>
    rw [List.map_cons, List.sum_cons]
    cases i with
    | zero => have := map_sum_nonneg ys f h; simp; omega
    | succ i => have := ih i (by simpa using hi); have := h y; simp at *; omega
/-- What a row hands on: even, but for so much. -/
def even (c : List Int) (T : Int) : Prop := c.length = 32 ∧ (c.map (fun z => up z 69)).sum ≤ T ∧ (c.map (fun z => up (-z) 72)).sum ≤ T
theorem even_get {c : List Int} {T : Int} (h : even c T) (i : Nat) (hi : i < 32) : c.getD i 0 ≤ 69 + T ∧ -(c.getD i 0) ≤ 72 + T := by
  have h1 := map_get_le c (fun z => up z 69) (fun x => up_nonneg x 69) i (by have := h.1; omega)
  have h2 := map_get_le c (fun z => up (-z) 72) (fun x => up_nonneg (-x) 72) i (by have := h.1; omega)
  have h3 := up_le (c.getD i 0) 69
  have h4 := up_le (-(c.getD i 0)) 72
  have := h.2.1
  have := h.2.2
  omega
theorem drow_small {v c : List Int} {T : Int} (hv : v.length = 32) (hb : ∀ j, 0 ≤ v.getD j 0 ∧ v.getD j 0 ≤ 255) (hT : T ≤ 10000) (h : even c T) (i : Nat) (hi : i ≤ 32) :
    -20000 ≤ (drow v c i).1 ∧ (drow v c i).1 ≤ 20000 ∧ ∀ x, x < 32 → -20000 ≤ (drow v c i).2.2.getD x 0 ∧ (drow v c i).2.2.getD x 0 ≤ 20000 := by
  obtain ⟨X, x1, x2, x3, x4⟩ := drow_up v c hv h.1 (fun j => (hb j).2) i hi
  obtain ⟨Y, y1, y2, y3, y4⟩ := drow_down v c hv h.1 (fun j => (hb j).1) i hi
  have xs := sum_nonneg X (fun i _ => x2 i)
  have ys := sum_nonneg Y (fun i _ => y2 i)
  have m1 := map_sum_nonneg (c.drop i) (fun z => up z 69) (fun x => up_nonneg x 69)
  have m2 := map_sum_nonneg (c.drop i) (fun z => up (-z) 72) (fun x => up_nonneg (-x) 72)
  have p1 := up_le (drow v c i).1 58
  have p2 := up_le (-(drow v c i).1) 55
  have p3 := up_nonneg (drow v c i).1 58
  have p4 := up_nonneg (-(drow v c i).1) 55
  have := h.2.1
  have := h.2.2
  refine ⟨by omega, by omega, fun x hx => ?_⟩
  have b1 := (bs_le 23 39 7 (by omega) (by omega) (by omega) i x).2
  have b2 := (bs_le 24 40 8 (by omega) (by omega) (by omega) i x).2
  have := x3 x hx
  have := y3 x hx
  have := get_le_sum X (fun i _ => x2 i) x (by omega)
  have := get_le_sum Y (fun i _ => y2 i) x (by omega)
  omega
theorem dcarry_even {v c : List Int} {T : Int} (hv : v.length = 32) (hb : ∀ j, 0 ≤ v.getD j 0 ∧ v.getD j 0 ≤ 255) (h : even c T) : even (dcarry v c) (T + 154) ∧ (dcarry v c).sum = v.sum + c.sum - 255 * (dbits v c).sum := by
  obtain ⟨h1, h2, h3, h4, h5⟩ := drow_plain v c hv h.1 32 (Nat.le_refl _)
  obtain ⟨X, x1, x2, x3, x4⟩ := drow_up v c hv h.1 (fun j => (hb j).2) 32 (Nat.le_refl _)
  obtain ⟨Y, y1, y2, y3, y4⟩ := drow_down v c hv h.1 (fun j => (hb j).1) 32 (Nat.le_refl _)
  have hc := h.1
  rw [List.drop_of_length_le (by omega), List.map_nil] at x4 y4
  have e0 : ([] : List Int).sum = 0 := rfl
  rw [e0] at x4 y4
  have hl : (dcarry v c).length = 32 := by unfold dcarry; rw [bump_len]; exact h2
  have hg : ∀ x, (dcarry v c).getD x 0 = (drow v c 32).2.2.getD x 0 + if x = 31 then (drow v c 32).1 else 0 := fun x => bump_get _ 31 _ x (by omega)
  have p1 := up_le (drow v c 32).1 58
  have p2 := up_le (-(drow v c 32).1) 55
  have p3 := up_nonneg (drow v c 32).1 58
  have p4 := up_nonneg (-(drow v c 32).1) 55
  have mg : ∀ (f : Int → Int) (x : Nat), x < 32 → ((dcarry v c).map f).getD x 0 = f ((dcarry v c).getD x 0) := by
    intro f x hx
    simp [List.getD, List.getElem?_map, List.getElem?_eq_getElem (show x < (dcarry v c).length by omega)]
  refine ⟨⟨hl, ?_, ?_⟩, ?_⟩
  · have s := sum_le ((dcarry v c).map (fun z => up z 69)) (bump (bump X 0 16) 31 (42 + up (drow v c 32).1 58)) (by rw [List.length_map, bump_len, bump_len]; omega) (fun x hx => by
      rw [List.length_map] at hx
      rw [mg _ x (by omega), hg, bump_get _ _ _ _ (by rw [bump_len]; omega), bump_get _ _ _ _ (by omega)]
      have a1 := x3 x (by omega)
      have a2 := bs_up x (by omega)
      have a3 := x2 x
      show up ((drow v c 32).2.2.getD x 0 + if x = 31 then (drow v c 32).1 else 0) 69 ≤ _
      unfold up at *
      by_cases e : x = 0
      · subst e
        simp only [if_true] at a2 ⊢
        rw [if_neg (by omega)] at a2 ⊢
        rw [if_neg (by omega)]
        omega
      · rw [if_neg e] at a2 ⊢
        by_cases e2 : x = 31
        · simp only [if_pos e2] at a2 ⊢
          omega
        · simp only [if_neg e2] at a2 ⊢
          omega)
    rw [bump_sum _ _ _ (by rw [bump_len]; omega), bump_sum _ _ _ (by omega)] at s
    have := h.2.1
    omega
  · have s := sum_le ((dcarry v c).map (fun z => up (-z) 72)) (bump (bump Y 0 16) 31 (39 + up (-(drow v c 32).1) 55)) (by rw [List.length_map, bump_len, bump_len]; omega) (fun x hx => by
      rw [List.length_map] at hx
      rw [mg _ x (by omega), hg, bump_get _ _ _ _ (by rw [bump_len]; omega), bump_get _ _ _ _ (by omega)]
      have a1 := y3 x (by omega)
      have a2 := bs_down x (by omega)
      have a3 := y2 x
      show up (-((drow v c 32).2.2.getD x 0 + if x = 31 then (drow v c 32).1 else 0)) 72 ≤ _
      unfold up at *
      by_cases e : x = 0
      · subst e
        simp only [if_true] at a2 ⊢
        rw [if_neg (by omega)] at a2 ⊢
        rw [if_neg (by omega)]
        omega
      · rw [if_neg e] at a2 ⊢
        by_cases e2 : x = 31
        · simp only [if_pos e2] at a2 ⊢
          omega
        · simp only [if_neg e2] at a2 ⊢
          omega)
    rw [bump_sum _ _ _ (by rw [bump_len]; omega), bump_sum _ _ _ (by omega)] at s
    have := h.2.2
    omega
  · unfold dcarry dbits
    rw [bump_sum _ _ _ (by omega)]
    rw [List.take_of_length_le (by omega), List.take_of_length_le (by omega)] at h5
    omega
theorem down16 (x : Int) (h0 : -1000000000 ≤ x) (h1 : x ≤ 1000000000) : impl_down.f x 16 = some (x / 16) := by
  unfold impl_down.f
  have hm := Int.tmod_def x 16
  have hd : (0 ≤ x ∧ Int.tdiv x 16 = x / 16) ∨ (x < 0 ∧ Int.tdiv x 16 = -((-x) / 16)) := by
    by_cases h : 0 ≤ x
    · exact .inl ⟨h, Int.tdiv_eq_ediv_of_nonneg h⟩
    · refine .inr ⟨by omega, ?_⟩
      have e := Int.neg_tdiv (a := -x) (b := 16)
      have e2 : (-x).tdiv 16 = (-x) / 16 := Int.tdiv_eq_ediv_of_nonneg (by omega)
      rw [Int.neg_neg, e2] at e
      exact e
  rw [if_neg (by omega), hm]
  generalize Int.tdiv x 16 = d at *
  rw [Loops.wrap_in (x := d) (by omega) (by omega), Loops.wrap_in (x := d - 1) (by omega) (by omega)]
  have e16 : decide ((16 : Int) < 0) = false := by decide
  rw [e16]
  rcases hd with ⟨h, e⟩ | ⟨h, e⟩
  · rw [decide_eq_false (show ¬ x < 0 by omega)]
    split
    · congr 1
    · simp
      exact e
  · rw [decide_eq_true h]
    split
    · congr 1; omega
    · simp
      omega
theorem rd_get (l : List Int) (i : Nat) : rd l (i : Int) = l.getD i 0 := Loops.rd_nat l i
theorem mx_prev (i : Nat) (h : i < 32) : mx 0 (wrap64 ((i : Int) - 1)) = ((i - 1 : Nat) : Int) := by
  rw [Loops.wrap_in (x := (i : Int) - 1) (by omega) (by omega)]
  unfold mx
  split <;> omega
theorem mn_next (i : Nat) (h : i < 32) : mn 31 (wrap64 ((i : Int) + 1)) = ((min 31 (i + 1) : Nat) : Int) := by
  rw [Loops.wrap_in (x := (i : Int) + 1) (by omega) (by omega)]
  unfold mn
  split <;> omega
theorem bump_wrap (D : List Int) (j : Nat) (a : Int) (h0 : -1000000 ≤ D.getD j 0) (h1 : D.getD j 0 ≤ 1000000) (h2 : -1000000 ≤ a) (h3 : a ≤ 1000000) : D.set ((j : Nat) : Int).toNat (wrap64 (rd D ((j : Nat) : Int) + a)) = bump D j a := by
  rw [rd_get, Loops.wrap_in (by omega) (by omega), Int.toNat_natCast]
  rfl
theorem drow_loop {v c : List Int} {T : Int} (hv : v.length = 32) (hb : ∀ j, 0 ≤ v.getD j 0 ∧ v.getD j 0 ≤ 255) (hT0 : 0 ≤ T) (hT : T ≤ 10000) (h : even c T) (k : Nat) (i : Nat) (hi : i < 32) :
    impl_DiffuseRow.l0 (k + 1) c (drow v c i).1 v 32 (i : Int) (drow v c i).2.1 (drow v c i).2.2 = impl_DiffuseRow.l0 k c (drow v c (i + 1)).1 v 32 ((i + 1 : Nat) : Int) (drow v c (i + 1)).2.1 (drow v c (i + 1)).2.2 := by
  obtain ⟨h1, h2, h3, h4, h5⟩ := drow_plain v c hv h.1 i (by omega)
  obtain ⟨s1, s2, s3⟩ := drow_small hv hb hT h i (by omega)
  have hc := even_get h i hi
  have hcl := h.1
  simp only [drow]
  generalize (drow v c i).1 = p at *
  generalize (drow v c i).2.1 = b at *
  generalize (drow v c i).2.2 = D at *
  have hvi := hb i
  have key : ∀ (r : Int) (b' : List Int), -100000 ≤ r → r ≤ 100000 →
      (impl_down.f (wrap64 (3 * r)) 16).bind (fun t212 => (impl_down.f (wrap64 (5 * r)) 16).bind fun t213 => (impl_down.f r 16).bind fun t214 => (if 0 ≤ (mx 0 (wrap64 ((i : Int) - 1))) then (if (mx 0 (wrap64 ((i : Int) - 1))) < (D.length : Int) then ((some (D.set ((mx 0 (wrap64 ((i : Int) - 1))) : Int).toNat (wrap64 ((rd D (mx 0 (wrap64 ((i : Int) - 1)))) + t212)) : List Int)).bind fun y216 => (if (i : Int) < (D.length : Int) then ((some (y216.set ((i : Int) : Int).toNat (wrap64 ((rd y216 (i : Int)) + t213)) : List Int)).bind fun y218 => (if 0 ≤ (mn 31 (wrap64 ((i : Int) + 1))) then (if (mn 31 (wrap64 ((i : Int) + 1))) < (D.length : Int) then (impl_DiffuseRow.l0 k c (wrap64 ((wrap64 ((wrap64 (r - t212)) - t213)) - t214)) v 32 (wrap64 ((i : Int) + 1)) b' (y218.set ((mn 31 (wrap64 ((i : Int) + 1))) : Int).toNat (wrap64 ((rd y218 (mn 31 (wrap64 ((i : Int) + 1)))) + t214)))) else (none)) else (none))) else (none))) else (none)) else (none))) =
      impl_DiffuseRow.l0 k c (r - 3 * r / 16 - 5 * r / 16 - r / 16) v 32 ((i + 1 : Nat) : Int) b' (bump (bump (bump D (i - 1) (3 * r / 16)) i (5 * r / 16)) (min 31 (i + 1)) (r / 16)) := by
    intro r b' r0 r1
    rw [Loops.wrap_in (x := 3 * r) (by omega) (by omega), Loops.wrap_in (x := 5 * r) (by omega) (by omega), down16 (3 * r) (by omega) (by omega), down16 (5 * r) (by omega) (by omega), down16 r (by omega) (by omega)]
    simp only [Option.bind_some, mx_prev i hi, mn_next i hi]
    rw [if_pos (by omega), if_pos (by omega), if_pos (by omega), if_pos (by omega), if_pos (by omega)]
    have d1 := s3 (i - 1) (by omega)
    have e1 := bump_wrap D (i - 1) (3 * r / 16) (by omega) (by omega) (by omega) (by omega)
    have g1 := bump_get D (i - 1) (3 * r / 16) i (by omega)
    have d2 := s3 i hi
    have b1 : -100000 ≤ (bump D (i - 1) (3 * r / 16)).getD i 0 ∧ (bump D (i - 1) (3 * r / 16)).getD i 0 ≤ 100000 := by rw [g1]; split <;> omega
    have e2 := bump_wrap (bump D (i - 1) (3 * r / 16)) i (5 * r / 16) (by omega) (by omega) (by omega) (by omega)
    have g2 := bump_get (bump D (i - 1) (3 * r / 16)) i (5 * r / 16) (min 31 (i + 1)) (by rw [bump_len]; omega)
    have g3 := bump_get D (i - 1) (3 * r / 16) (min 31 (i + 1)) (by omega)
    have d3 := s3 (min 31 (i + 1)) (by omega)
    have b2 : -200000 ≤ (bump (bump D (i - 1) (3 * r / 16)) i (5 * r / 16)).getD (min 31 (i + 1)) 0 ∧ (bump (bump D (i - 1) (3 * r / 16)) i (5 * r / 16)).getD (min 31 (i + 1)) 0 ≤ 200000 := by
      rw [g2, g3]; split <;> split <;> omega
    have e3 := bump_wrap (bump (bump D (i - 1) (3 * r / 16)) i (5 * r / 16)) (min 31 (i + 1)) (r / 16) (by omega) (by omega) (by omega) (by omega)
    rw [e1, e2, e3, Loops.wrap_in (x := r - 3 * r / 16) (by omega) (by omega), Loops.wrap_in (x := r - 3 * r / 16 - 5 * r / 16) (by omega) (by omega), Loops.wrap_in (x := r - 3 * r / 16 - 5 * r / 16 - r / 16) (by omega) (by omega), Loops.wrap_succ hi (by omega)]
  rw [impl_DiffuseRow.l0]
  rw [if_pos (by omega), if_pos (by omega), if_pos (by omega), if_pos (by omega)]
  simp only [rd_get v i, rd_get c i, Loops.wrap_in (x := v.getD i 0 + c.getD i 0) (by omega) (by omega), Loops.wrap_in (x := v.getD i 0 + c.getD i 0 + p) (by omega) (by omega)]
  unfold dpix
  by_cases ht : v.getD i 0 + c.getD i 0 + p ≥ 128
  · rw [if_pos ht, if_pos ht, if_pos (by omega), Loops.wrap_in (x := v.getD i 0 + c.getD i 0 + p - 255) (by omega) (by omega), Int.toNat_natCast]
    exact key _ _ (by omega) (by omega)
  · rw [if_neg ht, if_neg ht]
    exact key _ _ (by omega) (by omega)
theorem within_eq (a b c : Int) : impl_within.f a b c = some (decide (b ≤ a ∧ a ≤ c)) := by
  unfold impl_within.f
  by_cases h : a ≥ b
  · rw [if_pos h]; congr 1; simp; omega
  · rw [if_neg h]; congr 1; simp; omega
theorem rdL1 (l : List (List Int)) (i : Nat) : rd_L1 l (i : Int) = l.getD i [] := by simp [rd_L1]
def bytes (r : List Int) : Bool := r.all fun v => decide (0 ≤ v ∧ v ≤ 255)
def rowOk (r : List Int) : Bool := bytes r && decide ((r.length : Int) = 32)
def rowsOk (l : List (List Int)) : Bool := l.all rowOk && decide ((l.length : Int) ≤ 32)
theorem irow_eq (r : List Int) (hr : r.length ≤ 1048576) : Ev (fun k => impl_rowOk.f k r) (rowOk r) := by
  unfold impl_rowOk.f rowOk
  by_cases h : (r.length : Int) = 32
  · simp only [if_pos h, decide_eq_true h]
    unfold bytes
    exact Loops.all_loop (G := fun k i => impl_rowOk.l0 k r (r.length : Int) i) r 0 _ (fun x k => impl_within.f x 0 255) (by omega) (fun x _ => Loops.Ev.const (within_eq x 0 255)) (fun k i hi => by
      simp only [impl_rowOk.l0]
      rw [if_pos (by omega), if_pos (by omega), if_pos (by omega), Loops.rd_nat]) (Loops.Ev.one (fun k => by
      simp only [impl_rowOk.l0]
      rw [if_neg (by omega)]))
  · simp only [if_neg h, decide_eq_false h, Bool.and_false]
    exact Ev.now _
theorem irows_eq (l : List (List Int)) (hl : l.length ≤ 1048576) (hr : ∀ x ∈ l, x.length ≤ 1048576) : Ev (fun k => impl_RowsOk.f k l) (rowsOk l) := by
  unfold impl_RowsOk.f rowsOk
  by_cases h : (l.length : Int) > 32
  · simp only [if_pos h, decide_eq_false (show ¬ (l.length : Int) ≤ 32 by omega), Bool.and_false]
    exact Ev.now _
  · simp only [if_neg h, decide_eq_true (show (l.length : Int) ≤ 32 by omega)]
    exact Loops.all_loop (G := fun k i => impl_RowsOk.l0 k l (l.length : Int) i) l [] rowOk (fun x k => impl_rowOk.f k x) (by omega) (fun x hx => irow_eq x (hr x hx)) (fun k i hi => by
      simp only [impl_RowsOk.l0]
      rw [if_pos (by omega), if_pos (by omega), if_pos (by omega), rdL1]) (Loops.Ev.one (fun k => by
      simp only [impl_RowsOk.l0]
      rw [if_neg (by omega)]))
theorem icarry_eq (c : List Int) (T : Int) (hT : T ≤ 10000) (h : even c T) : Ev (fun k => impl_CarryOk.f k c) true := by
  unfold impl_CarryOk.f
  have hl := h.1
  simp only [if_pos (show (c.length : Int) = 32 by omega)]
  have key := Loops.all_loop (G := fun k i => impl_CarryOk.l0 k c (c.length : Int) i) (r := true) c 0 (fun x => decide (-20000 ≤ x ∧ x ≤ 20000)) (fun x k => impl_within.f x (-20000) 20000) (by omega) (fun x _ => Loops.Ev.const (within_eq x (-20000) 20000)) (fun k i hi => by
    simp only [impl_CarryOk.l0]
    rw [if_pos (by omega), if_pos (by omega), if_pos (by omega), Loops.rd_nat]) (Loops.Ev.one (fun k => by
    simp only [impl_CarryOk.l0]
    rw [if_neg (by omega)]))
  refine Loops.Ev.eq key ?_
  rw [Bool.and_true, List.all_eq_true]
  intro x hx
  obtain ⟨i, hi, rfl⟩ := List.getElem_of_mem hx
  have := even_get h i (by omega)
  simp only [List.getD, List.getElem?_eq_getElem hi, Option.getD_some] at this
  exact decide_eq_true (by omega)
/-- A row of a page. -/
def pageRow (v : List Int) : Prop := v.length = 32 ∧ ∀ j, 0 ≤ v.getD j 0 ∧ v.getD j 0 ≤ 255
theorem pageRow_of {v : List Int} (h : v.length = 32) (hb : ∀ x ∈ v, 0 ≤ x ∧ x ≤ 255) : pageRow v := by
  refine ⟨h, fun j => ?_⟩
  by_cases hj : j < v.length
  · simp only [List.getD, List.getElem?_eq_getElem hj, Option.getD_some]
    exact hb _ (List.getElem_mem hj)
  · simp only [List.getD, List.getElem?_eq_none (show v.length ≤ j by omega), Option.getD_none]
    omega
theorem pageRow_mem {v : List Int} (h : pageRow v) : ∀ x ∈ v, 0 ≤ x ∧ x ≤ 255 := by
  intro x hx
  obtain ⟨i, hi, rfl⟩ := List.getElem_of_mem hx
  have := h.2 i
  simpa only [List.getD, List.getElem?_eq_getElem hi, Option.getD_some] using this
theorem pageRow_ok {v : List Int} (h : pageRow v) : rowOk v = true := by
  have := h.1
  simp only [rowOk, bytes, Bool.and_eq_true, List.all_eq_true, decide_eq_true_eq]
  exact ⟨fun x hx => pageRow_mem h x hx, by omega⟩
theorem irowd_eq (v c : List Int) (T : Int) (hT0 : 0 ≤ T) (hT : T ≤ 10000) (hv : pageRow v) (h : even c T) : Ev (fun k => impl_DiffuseRow.f k v c) (dbits v c, dcarry v c, true) := by
  unfold impl_DiffuseRow.f
  refine Ev.bind (icarry_eq c T hT h) ?_
  simp only [if_true]
  refine Ev.bind (irow_eq v (by have := hv.1; omega)) ?_
  rw [pageRow_ok hv]
  refine Loops.Ev.succ ?_
  simp only [impl_DiffuseRow.j0, Bool.not_true, Bool.false_eq_true, if_false]
  simp only [if_pos (show (32 : Nat) ≤ 35184372088832 by omega)]
  have hvl := hv.1
  have hl : (v.length : Int) = 32 := by omega
  rw [hl]
  have key := Loops.up_loop (G := fun k i (s : Int × List Int × List Int) => impl_DiffuseRow.l0 k c s.1 v 32 i s.2.1 s.2.2) (r := (dbits v c, dcarry v c, true)) (drow v c) 32 (fun k i hi => drow_loop hvl hv.2 hT0 hT h k i hi) (Loops.Ev.one (fun k => by
    obtain ⟨h1, h2, _⟩ := drow_plain v c hvl h.1 32 (Nat.le_refl _)
    obtain ⟨s1, s2, s3⟩ := drow_small hvl hv.2 hT h 32 (Nat.le_refl _)
    have d := s3 31 (by omega)
    simp only [impl_DiffuseRow.l0]
    rw [if_neg (by omega), if_pos (by omega)]
    unfold dbits dcarry
    have e := bump_wrap (drow v c 32).2.2 31 (drow v c 32).1 (by omega) (by omega) (by omega) (by omega)
    rw [← e]
    rfl))
  exact key
def drows : List (List Int) → List Int → List (List Int) × List Int
  | [], c => ([], c)
  | v :: vs, c => (dbits v c :: (drows vs (dcarry v c)).1, (drows vs (dcarry v c)).2)
theorem irowsd_all (rows : List (List Int)) (hr : ∀ v ∈ rows, pageRow v) (hl : rows.length ≤ 32) : ∀ (m i : Nat), i + m = rows.length → ∀ (c : List Int) (out : List (List Int)), even c (154 * (i : Int)) → out.length = i →
    Ev (fun k => impl_DiffuseRows.l0 k c out rows (rows.length : Int) (i : Int)) (out ++ (drows (rows.drop i) c).1, (drows (rows.drop i) c).2, true) := by
  intro m
  induction m with
  | zero =>
    intro i hi c out hc ho
    obtain rfl : i = rows.length := by omega
    rw [List.drop_length]
    refine Loops.Ev.one (fun k => ?_)
    simp only [impl_DiffuseRows.l0]
    rw [if_neg (by omega)]
    simp [drows]
  | succ m ih =>
    intro i hi c out hc ho
    have hm := hr _ (Loops.getD_mem rows [] i (by omega))
    rw [Loops.drop_cons_getD rows [] i (by omega)]
    refine Loops.Ev.succ ?_
    simp only [impl_DiffuseRows.l0, if_pos (show (i : Int) < (rows.length : Int) by omega), if_pos (show (0 : Int) ≤ (i : Int) by omega), rdL1]
    refine Ev.bind (irowd_eq _ c _ (by omega) (by omega) hm hc) ?_
    simp only [if_true, if_pos (show out.length < 5864062014805 by omega)]
    rw [Loops.wrap_succ (show i < rows.length by omega) (by omega)]
    have he := (dcarry_even hm.1 hm.2 hc).1
    have key := ih (i + 1) (by omega) (dcarry (rows.getD i []) c) (out ++ [dbits (rows.getD i []) c]) (by
      have e : 154 * ((i + 1 : Nat) : Int) = 154 * (i : Int) + 154 := by omega
      rw [e]
      exact he) (by simp; omega)
    simp only [drows]
    rw [List.append_assoc] at key
    exact key
theorem even_zero : even (List.replicate 32 0) 0 := by
  refine ⟨rfl, ?_, ?_⟩ <;> decide +kernel
theorem clone_eq (l : List Int) (hl : l.length ≤ 1048576) : slices_Clone_int_int.f l = some l := by
  unfold slices_Clone_int_int.f
  simp only [Option.bind_some, List.length_nil, List.nil_append]
  rw [if_pos (by omega)]
theorem irowsd_eq (rows : List (List Int)) (hr : ∀ v ∈ rows, pageRow v) (hl : rows.length ≤ 32) : Ev (fun k => impl_DiffuseRows.f k rows (List.replicate 32 0)) ((drows rows (List.replicate 32 0)).1, (drows rows (List.replicate 32 0)).2, true) := by
  unfold impl_DiffuseRows.f
  rw [clone_eq _ (by simp)]
  simp only [Option.bind_some]
  have key := irowsd_all rows hr hl rows.length 0 (by omega) (List.replicate 32 0) [] even_zero rfl
  rw [List.drop_zero, List.nil_append] at key
  exact key
def invRow (v : List Int) : List Int := v.map fun x => 255 - x
theorem inv_page {v : List Int} (h : pageRow v) : pageRow (invRow v) := by
  refine pageRow_of (by simp [invRow, h.1]) fun x hx => ?_
  obtain ⟨y, hy, rfl⟩ := List.mem_map.1 hx
  have := pageRow_mem h y hy
  omega
theorem mid_get {α : Type} (A B : List α) (x d : α) (i : Nat) (h : A.length = i) : (A ++ x :: B).getD i d = x := by
  subst h
  simp [List.getD]
theorem mid_set {α : Type} (A B : List α) (x y : α) (i : Nat) (h : A.length = i) : (A ++ x :: B).set i y = A ++ y :: B := by
  subst h
  simp
theorem inv_loop (scr : Bool) (A B : List (List Int)) (v : List Int) (i n : Nat) (hA : A.length = i) (hn : A.length + 1 + B.length = n) (hn2 : n ≤ 1048576) (hv : pageRow v) {r : List (List Int) × Bool}
    (next : Ev (fun k => impl_HalftonePage.l0 k scr (A ++ invRow v :: B) (n : Int) ((i + 1 : Nat) : Int)) r) : Ev (fun k => impl_HalftonePage.l1 k scr (A ++ v :: B) (i : Int) (n : Int) (i : Int) 32 0) r := by
  have hvl := hv.1
  have key := Loops.up_loop (G := fun k j (s : List Int) => impl_HalftonePage.l1 k scr (A ++ s :: B) (i : Int) (n : Int) (i : Int) 32 j) (r := r) (fun j => (v.take j).map (fun x => 255 - x) ++ v.drop j) 32 (fun k j hj => by
    have hlen : ((v.take j).map (fun x => 255 - x) ++ v.drop j).length = 32 := by simp; omega
    have hg : ((v.take j).map (fun x => 255 - x) ++ v.drop j).getD j 0 = v.getD j 0 := by
      rw [Loops.drop_cons_getD v 0 j (by omega)]
      exact mid_get _ _ _ _ _ (by simp; omega)
    have hb := hv.2 j
    rw [impl_HalftonePage.l1]
    have hr : rd_L1 (A ++ ((v.take j).map (fun x => 255 - x) ++ v.drop j) :: B) (i : Int) = (v.take j).map (fun x => 255 - x) ++ v.drop j := by
      rw [rdL1]; exact mid_get _ _ _ _ _ hA
    rw [hr, rd_get, hg, hlen, if_pos (by omega), if_pos (by omega), if_pos (by simp; omega), if_pos (by omega), if_pos (by omega), Loops.wrap_in (x := 255 - v.getD j 0) (by omega) (by omega), Loops.wrap_succ hj (by omega), Int.toNat_natCast, Int.toNat_natCast, mid_set _ _ _ _ _ hA]
    have e : ((v.take j).map (fun x => 255 - x) ++ v.drop j).set j (255 - v.getD j 0) = (v.take (j + 1)).map (fun x => 255 - x) ++ v.drop (j + 1) := by
      rw [Loops.drop_cons_getD v 0 j (by omega), mid_set _ _ _ _ _ (by simp; omega), Loops.take_one_more v 0 j (by omega), List.map_append, List.append_assoc]
      rfl
    rw [e]) (Loops.Ev.succ (by
    simp only [impl_HalftonePage.l1]
    simp only [if_neg (show ¬ (((32 : Nat) : Int)) < 32 by omega)]
    rw [Loops.wrap_in (x := (i : Int) + 1) (by omega) (by omega)]
    have e2 : (v.take 32).map (fun x => 255 - x) ++ v.drop 32 = invRow v := by
      rw [List.take_of_length_le (by omega), List.drop_of_length_le (by omega), List.append_nil]
      rfl
    rw [e2]
    exact next))
  simpa using key
theorem inv_all (scr : Bool) (rows : List (List Int)) (hr : ∀ v ∈ rows, pageRow v) (hl : rows.length ≤ 32) {r : List (List Int) × Bool} (fin : Ev (fun k => impl_HalftonePage.l0 k scr (rows.map invRow) (rows.length : Int) (rows.length : Int)) r) :
    ∀ (m i : Nat), i + m = rows.length → Ev (fun k => impl_HalftonePage.l0 k scr ((rows.take i).map invRow ++ rows.drop i) (rows.length : Int) (i : Int)) r := by
  intro m
  induction m with
  | zero =>
    intro i hi
    obtain rfl : i = rows.length := by omega
    rw [List.take_length, List.drop_length, List.append_nil]
    exact fin
  | succ m ih =>
    intro i hi
    have hm := hr _ (Loops.getD_mem rows [] i (by omega))
    rw [Loops.drop_cons_getD rows [] i (by omega)]
    refine Loops.Ev.succ ?_
    have hlen : ((rows.take i).map invRow).length = i := by simp; omega
    have hr2 : rd_L1 ((rows.take i).map invRow ++ rows.getD i [] :: rows.drop (i + 1)) (i : Int) = rows.getD i [] := by rw [rdL1]; exact mid_get _ _ _ _ _ hlen
    simp only [impl_HalftonePage.l0, if_pos (show (i : Int) < (rows.length : Int) by omega), if_pos (show (0 : Int) ≤ (i : Int) by omega), hr2]
    simp only [if_pos (show (i : Int) < (((rows.take i).map invRow ++ rows.getD i [] :: rows.drop (i + 1)).length : Int) by simp; omega)]
    have h32 : ((rows.getD i []).length : Int) = 32 := by have := hm.1; omega
    rw [h32]
    refine inv_loop scr _ _ _ i rows.length hlen (by simp; omega) (by omega) hm ?_
    have key := ih (i + 1) (by omega)
    rw [Loops.take_one_more rows [] i (by omega), List.map_append, List.append_assoc] at key
    exact key
theorem icopy_eq (rows : List (List Int)) (hr : ∀ v ∈ rows, pageRow v) (hl : rows.length ≤ 32) : Ev (fun k => impl_copyRows.f k rows) rows := by
  unfold impl_copyRows.f
  have key := Loops.up_loop (G := fun k i (s : List (List Int)) => impl_copyRows.l0 k s rows (rows.length : Int) i) (r := rows) (fun i => rows.take i) rows.length (fun k i hi => by
    have hm := hr _ (Loops.getD_mem rows [] i hi)
    rw [impl_copyRows.l0]
    rw [if_pos (by omega), if_pos (by omega), if_pos (by omega), rdL1, clone_eq _ (by have := hm.1; omega)]
    simp only [Option.bind_some]
    rw [if_pos (by simp; omega), Loops.wrap_succ hi (by omega), Loops.take_one_more rows [] i hi]) (Loops.Ev.one (fun k => by
    simp only [impl_copyRows.l0]
    rw [if_neg (by omega), List.take_length]))
  simpa using key
theorem rows_ok (rows : List (List Int)) (hr : ∀ v ∈ rows, pageRow v) (hl : rows.length ≤ 32) : rowsOk rows = true := by
  simp only [rowsOk, Bool.and_eq_true, List.all_eq_true, decide_eq_true_eq]
  exact ⟨fun v hv => pageRow_ok (hr v hv), by omega⟩
theorem ihalf_false (rows : List (List Int)) (hr : ∀ v ∈ rows, pageRow v) (hl : rows.length ≤ 32) : Ev (fun k => impl_HalftonePage.f k rows false) ((drows (rows.map invRow) (List.replicate 32 0)).1, true) := by
  unfold impl_HalftonePage.f
  refine Ev.bind (irows_eq rows (by omega) (fun v hv => by have := (hr v hv).1; omega)) ?_
  rw [rows_ok rows hr hl]
  simp only [if_true]
  refine Ev.bind (icopy_eq rows hr hl) ?_
  have key := inv_all false rows hr hl (r := ((drows (rows.map invRow) (List.replicate 32 0)).1, true)) (by
    refine Loops.Ev.succ ?_
    simp only [impl_HalftonePage.l0, if_neg (show ¬ (rows.length : Int) < (rows.length : Int) by omega), Bool.false_eq_true, if_false]
    have e : impl_NoCarry.f = some (List.replicate 32 0) := by unfold impl_NoCarry.f; rw [if_pos (by omega)]
    simp only [e, Option.bind_some]
    exact Ev.bind (irowsd_eq (rows.map invRow) (fun v hv => by
      obtain ⟨u, hu, rfl⟩ := List.mem_map.1 hv
      exact inv_page (hr u hu)) (by simpa using hl)) (Ev.now _)) rows.length 0 (by omega)
  simpa using key
def dotAt (v x y : Int) : Int := if v ≤ 16 * impl_ThresholdAt.tab.getD (Int.tmod y 4 * 4 + Int.tmod x 4).toNat 0 + 8 then 0 else 1
theorem idot_eq (v x y : Int) (hx : 0 ≤ x) (hy : 0 ≤ y) : impl_ScreenDot.f v x y = some (dotAt v x y) := by
  unfold impl_ScreenDot.f dotAt
  rw [if_neg (by omega), if_neg (by omega)]
  unfold impl_ThresholdAt.f
  rw [if_neg (by omega), if_neg (by omega)]
  simp only [Option.bind_some]
  split <;> rfl
def scrRow (v : List Int) (y : Nat) : List Int := (List.range v.length).map fun x => dotAt (v.getD x 0) (x : Int) (y : Int)
theorem iscr_eq (v : List Int) (y : Nat) (hv : v.length ≤ 1048576) : Ev (fun k => impl_ScreenRow.f k v (y : Int)) (scrRow v y) := by
  unfold impl_ScreenRow.f scrRow
  have key := Loops.up_loop (G := fun k i (s : List Int) => impl_ScreenRow.l0 k (y : Int) s v (v.length : Int) i) (r := (List.range v.length).map fun x => dotAt (v.getD x 0) (x : Int) (y : Int)) (fun i => (List.range i).map fun x => dotAt (v.getD x 0) (x : Int) (y : Int)) v.length (fun k i hi => by
    rw [impl_ScreenRow.l0]
    rw [if_pos (by omega), if_pos (by omega), if_pos (by omega), rd_get, idot_eq _ _ _ (by omega) (by omega)]
    simp only [Option.bind_some]
    rw [if_pos (by simp; omega), Loops.wrap_succ hi (by omega), List.range_succ, List.map_append]
    rfl) (Loops.Ev.one (fun k => by
    simp only [impl_ScreenRow.l0]
    rw [if_neg (by omega)]))
  simpa using key
def scrRows (rows : List (List Int)) : List (List Int) := (List.range rows.length).map fun y => scrRow (rows.getD y []) y
theorem ihalf_true (rows : List (List Int)) (hr : ∀ v ∈ rows, pageRow v) (hl : rows.length ≤ 32) : Ev (fun k => impl_HalftonePage.f k rows true) (scrRows (rows.map invRow), true) := by
  unfold impl_HalftonePage.f
  refine Ev.bind (irows_eq rows (by omega) (fun v hv => by have := (hr v hv).1; omega)) ?_
  rw [rows_ok rows hr hl]
  simp only [if_true]
  refine Ev.bind (icopy_eq rows hr hl) ?_
  have key := inv_all true rows hr hl (r := (scrRows (rows.map invRow), true)) (by
    refine Loops.Ev.succ ?_
    simp only [impl_HalftonePage.l0, if_neg (show ¬ (rows.length : Int) < (rows.length : Int) by omega), if_true]
    have hlen : (rows.map invRow).length = rows.length := by simp
    have hm : ∀ v ∈ rows.map invRow, pageRow v := fun v hv => by
      obtain ⟨u, hu, rfl⟩ := List.mem_map.1 hv
      exact inv_page (hr u hu)
    rw [← hlen] at hl
    generalize rows.map invRow = R at hm hl ⊢
    have key2 : ∀ (m i : Nat), i + m = R.length → Ev (fun k => impl_HalftonePage.l2 k ((List.range i).map fun y => scrRow (R.getD y []) y) R (R.length : Int) (i : Int)) (scrRows R, true) := by
      intro m
      induction m with
      | zero =>
        intro i hi
        obtain rfl : i = R.length := by omega
        refine Loops.Ev.one (fun k => ?_)
        simp only [impl_HalftonePage.l2]
        rw [if_neg (by omega)]
        rfl
      | succ m ih =>
        intro i hi
        have hp := hm _ (Loops.getD_mem R [] i (by omega))
        refine Loops.Ev.succ ?_
        simp only [impl_HalftonePage.l2, if_pos (show (i : Int) < (R.length : Int) by omega), if_pos (show (0 : Int) ≤ (i : Int) by omega), rdL1]
        refine Ev.bind (iscr_eq (R.getD i []) i (by have := hp.1; omega)) ?_
        simp only [if_pos (show ((List.range i).map fun y => scrRow (R.getD y []) y).length < 5864062014805 by simp; omega)]
        rw [Loops.wrap_succ (show i < R.length by omega) (by omega)]
        have k2 := ih (i + 1) (by omega)
        rw [List.range_succ, List.map_append] at k2
        exact k2
    exact key2 R.length 0 (by omega)) rows.length 0 (by omega)
  simpa using key
theorem byte_some (b : List Int) (hb : b.length ≤ 1048576) (i h : Int) (hi : 0 ≤ i) : ∃ x i2 h2, spec_l01Byte.f b i h = some (x, i2, h2) ∧ 0 ≤ x ∧ x ≤ 255 ∧ 0 ≤ i2 := by
  unfold spec_l01Byte.f
  by_cases hl : i < (b.length : Int)
  · rw [if_pos hl, if_pos hi, show wrap64 (i + 1) = i + 1 from Loops.wrap_in (by omega) (by omega)]
    exact ⟨_, _, _, rfl, (Draw.and255 _).1, (Draw.and255 _).2, by omega⟩
  · rw [if_neg hl]
    exact ⟨_, _, _, rfl, (Draw.and255 _).1, (Draw.and255 _).2, hi⟩
theorem below_some (b : List Int) (hb : b.length ≤ 1048576) (i h n : Int) (hi : 0 ≤ i) (hn : 0 < n) : ∃ x i2 h2, spec_l01Below.f b i h n = some (x, i2, h2) ∧ 0 ≤ x ∧ x < n ∧ 0 ≤ i2 := by
  unfold spec_l01Below.f
  rw [if_neg (by omega)]
  by_cases h8 : n ≤ 256
  · rw [if_pos h8]
    obtain ⟨x, i2, h2, e, hx0, hx1, hi2⟩ := byte_some b hb i h hi
    rw [e]
    simp only [Option.bind_some]
    rw [if_neg (by omega)]
    refine ⟨_, _, _, rfl, Int.tmod_nonneg _ hx0, Int.tmod_lt_of_pos _ hn, hi2⟩
  · rw [if_neg h8]
    obtain ⟨x, i2, h2, e, hx0, hx1, hi2⟩ := byte_some b hb i h hi
    rw [e]
    simp only [Option.bind_some]
    obtain ⟨y, i3, h3, e3, hy0, hy1, hi3⟩ := byte_some b hb i2 h2 hi2
    rw [e3]
    simp only [Option.bind_some]
    obtain ⟨z, i4, h4, e4, hz0, hz1, hi4⟩ := byte_some b hb i3 h3 hi3
    rw [e4]
    simp only [Option.bind_some]
    obtain ⟨w, i5, h5, e5, hw0, hw1, hi5⟩ := byte_some b hb i4 h4 hi4
    rw [e5]
    simp only [Option.bind_some]
    rw [if_neg (by omega)]
    refine ⟨_, _, _, rfl, Int.tmod_nonneg _ ?_, Int.tmod_lt_of_pos _ hn, hi5⟩
    unfold wrap64
    omega
theorem new_some (b : List Int) (hb : b.length ≤ 1048576) : ∃ h, Ev (fun k => spec_l01New.f k b) (b, 0, h) := by
  have key : ∀ (d : Nat) (i h : Int), 0 ≤ i → 4000 - i ≤ d → ∃ h2, Ev (fun k => spec_l01New.l0 k b h i) (b, 0, h2) := by
    intro d
    induction d with
    | zero =>
      intro i h h0 hd
      refine ⟨h, Loops.Ev.one (fun k => ?_)⟩
      simp only [spec_l01New.l0]
      by_cases hl : i < (b.length : Int)
      · rw [if_pos hl, if_neg (by omega)]
      · rw [if_neg hl]
    | succ d ih =>
      intro i h h0 hd
      by_cases hl : i < (b.length : Int) ∧ i < 4000
      · obtain ⟨h2, e⟩ := ih (i + 1) (Go.bits .and .i64 (wrap64 ((wrap64 ((wrap64 (h * 131)) + (wrap64 (rd b i)))) + 7)) 1073741823) (by omega) (by omega)
        refine ⟨h2, Ev.step (fun k => ?_) e⟩
        simp only [spec_l01New.l0]
        rw [if_pos hl.1, if_pos hl.2, if_pos h0, show wrap64 (i + 1) = i + 1 from Loops.wrap_in (by omega) (by omega)]
      · refine ⟨h, Loops.Ev.one (fun k => ?_)⟩
        simp only [spec_l01New.l0]
        by_cases hl1 : i < (b.length : Int)
        · rw [if_pos hl1, if_neg (by omega)]
        · rw [if_neg hl1]
  obtain ⟨h2, e⟩ := key 4000 0 (wrap64 (98729 + (b.length : Int))) (by omega) (by omega)
  exact ⟨h2, e⟩
theorem once_some (b : List Int) (hb : b.length ≤ 1048576) (i h n : Int) (hi : 0 ≤ i) (hn : 0 < n) : ∃ x i2 h2, spec_l01Once.f b i h n = some (x, i2, h2) ∧ 0 ≤ i2 := by
  unfold spec_l01Once.f
  obtain ⟨x, i2, h2, e, _, _, hi2⟩ := below_some b hb i h n hi hn
  rw [e]
  exact ⟨_, _, _, rfl, hi2⟩
theorem pick_some (b : List Int) (hb : b.length ≤ 1048576) (i h : Int) (L : List Int) (hi : 0 ≤ i) (hL : 0 < L.length) : ∃ x i2 h2, spec_l01PickInt.f b i h L = some (x, i2, h2) ∧ x ∈ L ∧ 0 ≤ i2 := by
  unfold spec_l01PickInt.f
  obtain ⟨x, i2, h2, e, h0, h1, hi2⟩ := below_some b hb i h (L.length : Int) hi (by omega)
  rw [e]
  simp only [Option.bind_some]
  rw [if_pos h0, if_pos h1]
  refine ⟨_, _, _, rfl, ?_, hi2⟩
  obtain ⟨n, rfl⟩ : ∃ n : Nat, x = (n : Int) := ⟨x.toNat, by omega⟩
  rw [Loops.rd_nat]
  exact Loops.getD_mem L 0 n (by omega)
theorem drawRow (b : List Int) (hb : b.length ≤ 1048576) (out : List (List Int)) (n i : Int) (hout : out.length < 5864062014805) {P : List (List Int) × Int × Int → Prop}
    (next : ∀ (v : List Int) (i2 h2 : Int), v.length = 32 → (∀ x ∈ v, 0 ≤ x ∧ x ≤ 255) → 0 ≤ i2 → ∃ r, Ev (fun k => spec_l11Rows.l0 k (out ++ [v]) n (wrap64 (i + 1)) b i2 h2) r ∧ P r) :
    ∀ (m : Nat) (v : List Int) (g i1 h1 : Int), v.length + m = 32 → (∀ x ∈ v, 0 ≤ x ∧ x ≤ 255) → 0 ≤ g → g ≤ 255 → 0 ≤ i1 → ∃ r, Ev (fun k => spec_l11Rows.l1 k out n i v g b i1 h1) r ∧ P r := by
  intro m
  induction m with
  | zero =>
    intro v g i1 h1 hv hx g0 g1 hi
    obtain ⟨r, er, pr⟩ := next v i1 h1 (by omega) hx hi
    refine ⟨r, Loops.Ev.succ ?_, pr⟩
    simp only [spec_l11Rows.l1, if_neg (show ¬ (v.length : Int) < 32 by omega), if_pos hout]
    exact er
  | succ m ih =>
    intro v g i1 h1 hv hx g0 g1 hi
    obtain ⟨o, i2, h2, e2, hi2⟩ := once_some b hb i1 h1 5 hi (by omega)
    have hx' : ∀ y : Int, 0 ≤ y → y ≤ 255 → ∀ x ∈ v ++ [y], 0 ≤ x ∧ x ≤ 255 := by
      intro y y0 y1 x hxx
      rcases List.mem_append.1 hxx with h | h
      · exact hx x h
      · rw [List.mem_singleton.1 h]; exact ⟨y0, y1⟩
    cases o with
    | true =>
      obtain ⟨z, i3, h3, e3, z0, z1, hi3⟩ := below_some b hb i2 h2 256 hi2 (by omega)
      obtain ⟨y, i4, h4, e4, hy, hi4⟩ := pick_some b hb i3 h3 [0, 255, 128, z] hi3 (by simp)
      have hyb : 0 ≤ y ∧ y ≤ 255 := by
        simp at hy
        omega
      obtain ⟨r, er, pr⟩ := ih (v ++ [y]) y i4 h4 (by simp; omega) (hx' y hyb.1 hyb.2) hyb.1 hyb.2 hi4
      refine ⟨r, Loops.Ev.succ ?_, pr⟩
      simp only [spec_l11Rows.l1, if_pos (show (v.length : Int) < 32 by omega), e2, e3, e4, Option.bind_some, if_true, if_pos (show v.length < 17592186044416 by omega)]
      exact er
    | false =>
      obtain ⟨r, er, pr⟩ := ih (v ++ [g]) g i2 h2 (by simp; omega) (hx' g g0 g1) g0 g1 hi2
      refine ⟨r, Loops.Ev.succ ?_, pr⟩
      simp only [spec_l11Rows.l1, if_pos (show (v.length : Int) < 32 by omega), e2, Option.bind_some, Bool.false_eq_true, if_false, if_pos (show v.length < 17592186044416 by omega)]
      exact er
theorem drawRows_all (b : List Int) (hb : b.length ≤ 1048576) (n : Int) (hn : n ≤ 100) : ∀ (m : Nat) (i : Nat) (out : List (List Int)) (i1 h1 : Int), n - i ≤ m → (i : Int) ≤ n → out.length = i → (∀ v ∈ out, v.length = 32 ∧ ∀ x ∈ v, 0 ≤ x ∧ x ≤ 255) → 0 ≤ i1 →
    ∃ r, Ev (fun k => spec_l11Rows.l0 k out n (i : Int) b i1 h1) r ∧ ((r.1.length : Int) = n ∧ (∀ v ∈ r.1, v.length = 32 ∧ ∀ x ∈ v, 0 ≤ x ∧ x ≤ 255) ∧ 0 ≤ r.2.1) := by
  intro m
  induction m with
  | zero =>
    intro i out i1 h1 h h2 ho hx hi
    refine ⟨(out, i1, h1), Loops.Ev.one (fun k => ?_), by simp only; omega, hx, hi⟩
    simp only [spec_l11Rows.l0]
    rw [if_neg (by omega)]
  | succ m ih =>
    intro i out i1 h1 h h2 ho hx hi
    by_cases hlt : (i : Int) < n
    · obtain ⟨g, i2, h3, e2, g0, g1, hi2⟩ := below_some b hb i1 h1 256 hi (by omega)
      obtain ⟨r, er, pr⟩ := drawRow b hb out n (i : Int) (by omega) (P := fun r => (r.1.length : Int) = n ∧ (∀ v ∈ r.1, v.length = 32 ∧ ∀ x ∈ v, 0 ≤ x ∧ x ≤ 255) ∧ 0 ≤ r.2.1) (fun v i3 h4 hv hvx hi3 => by
        rw [Loops.wrap_in (x := (i : Int) + 1) (by omega) (by omega)]
        exact ih (i + 1) (out ++ [v]) i3 h4 (by omega) (by omega) (by simp; omega) (fun u hu => by
          rcases List.mem_append.1 hu with h | h
          · exact hx u h
          · rw [List.mem_singleton.1 h]; exact ⟨hv, hvx⟩) hi3) 32 [] g i2 h3 (by simp) (by simp) g0 (by omega) hi2
      refine ⟨r, Loops.Ev.succ ?_, pr⟩
      simp only [spec_l11Rows.l0, if_pos hlt, e2, Option.bind_some]
      exact er
    · refine ⟨(out, i1, h1), Loops.Ev.one (fun k => ?_), by simp only; omega, hx, hi⟩
      simp only [spec_l11Rows.l0]
      rw [if_neg hlt]
theorem drawRows_some (b : List Int) (hb : b.length ≤ 1048576) : ∃ rows, Ev (fun k => spec_DrawRows.f k b) rows ∧ rows.length ≤ 6 ∧ ∀ v ∈ rows, pageRow v := by
  obtain ⟨h, e⟩ := new_some b hb
  have e7 : wrap64 (6 + 1) = 7 := Loops.wrap_in (by omega) (by omega)
  obtain ⟨n, i2, h2, e2, n0, n1, hi2⟩ := below_some b hb 0 h (wrap64 (6 + 1)) (by omega) (by rw [e7]; omega)
  rw [e7] at n1
  obtain ⟨r, er, h1, h3, _⟩ := drawRows_all b hb n (by omega) n.toNat 0 [] i2 h2 (by omega) (by omega) rfl (by simp) hi2
  refine ⟨r.1, ?_, by omega, fun v hv => pageRow_of (h3 v hv).1 (h3 v hv).2⟩
  unfold spec_DrawRows.f
  refine Ev.bind e ?_
  unfold spec_l11Rows.f
  simp only [e2, Option.bind_some]
  exact Ev.bind er (Ev.now _)
def bits01 (r : List Int) : Bool := r.all fun v => decide (0 ≤ v ∧ v ≤ 1)
def bitsOk (l : List (List Int)) : Bool := rowsOk l && l.all bits01
theorem ibits_eq (l : List (List Int)) (hl : l.length ≤ 1048576) (hr : ∀ x ∈ l, x.length ≤ 1048576) : Ev (fun k => impl_BitsOk.f k l) (bitsOk l) := by
  unfold impl_BitsOk.f bitsOk
  refine Ev.bind (irows_eq l hl hr) ?_
  by_cases hR : rowsOk l = true
  · simp only [hR, if_true, Bool.true_and]
    have hbyte : ∀ r ∈ l, ∀ v ∈ r, 0 ≤ v := by
      intro r hr v hv
      simp only [rowsOk, Bool.and_eq_true, List.all_eq_true] at hR
      have h1 := hR.1 r hr
      simp only [rowOk, bytes, Bool.and_eq_true, List.all_eq_true, decide_eq_true_eq] at h1
      exact (h1.1 v hv).1
    have key := Loops.back_loop (G := fun k i (_ : Unit) => impl_BitsOk.l0 k l (l.length : Int) i) (fun i _ => (l.drop i).all bits01) l.length (fun i _ hi ih => by
      refine Ev.step (f := fun k => impl_BitsOk.l1 k l (l.length : Int) (i : Int) (l.getD i []) ((l.getD i []).length : Int) 0) (fun k => by simp only [impl_BitsOk.l0]; rw [if_pos (by omega), if_pos (by omega), if_pos (by omega), rdL1]) ?_
      rw [Loops.drop_cons_getD l [] i hi, List.all_cons]
      have hm := Loops.getD_mem l [] i hi
      have hx := hr _ hm
      exact Loops.all_loop (G := fun k j => impl_BitsOk.l1 k l (l.length : Int) (i : Int) (l.getD i []) ((l.getD i []).length : Int) j) (l.getD i []) 0 _ (fun x k => some (decide (0 ≤ x ∧ x ≤ 1))) (by omega) (fun x _ => Ev.now _) (fun k j hj => by
        simp only [impl_BitsOk.l1]
        rw [if_pos (by omega), if_pos (by omega), if_pos (by omega), Loops.rd_nat]
        have h0 := hbyte _ hm _ (Loops.getD_mem _ 0 j hj)
        by_cases h : (l.getD i []).getD j 0 > 1
        · rw [if_pos h]
          simp only [decide_eq_false (show ¬ (0 ≤ (l.getD i []).getD j 0 ∧ (l.getD i []).getD j 0 ≤ 1) by omega), Option.bind_some, Bool.false_eq_true, if_false]
        · rw [if_neg h]
          simp only [decide_eq_true (show (0 ≤ (l.getD i []).getD j 0 ∧ (l.getD i []).getD j 0 ≤ 1) by omega), Option.bind_some, if_true]) (Ev.step (f := fun k => impl_BitsOk.l0 k l (l.length : Int) ((i + 1 : Nat) : Int)) (fun k => by
        simp only [impl_BitsOk.l1]
        rw [if_neg (by omega), Loops.wrap_succ hi (by omega)]) (ih ()))) (fun _ => by
      refine Loops.Ev.one (fun k => ?_)
      simp only [impl_BitsOk.l0, List.drop_length, List.all_nil]
      rw [if_neg (by omega)]) ()
    simpa using key
  · simp only [Bool.not_eq_true] at hR
    simp only [hR, Bool.false_eq_true, if_false, Bool.false_and]
    exact Ev.now _
def cntRow (a : Int) (s : Int) (r : List Int) : Int := r.foldl (fun s v => if v = a then wrap64 (s + 1) else s) s
def cntRows (a : Int) (l : List (List Int)) (s : Int) : Int := l.foldl (fun s r => cntRow a s r) s
theorem icount_eq (l : List (List Int)) (a : Int) (hl : l.length ≤ 1048576) (hr : ∀ x ∈ l, x.length ≤ 1048576) : Ev (fun k => impl_CountValue.f k l a) (cntRows a l 0) := by
  unfold impl_CountValue.f
  have key := Loops.back_loop (G := fun k i (s : Int) => impl_CountValue.l0 k a s l (l.length : Int) i) (fun i s => cntRows a (l.drop i) s) l.length (fun i s hi ih => by
    refine Ev.step (f := fun k => impl_CountValue.l1 k a s l (l.length : Int) (i : Int) (l.getD i []) ((l.getD i []).length : Int) 0) (fun k => by simp only [impl_CountValue.l0]; rw [if_pos (by omega), if_pos (by omega), if_pos (by omega), rdL1]) ?_
    rw [Loops.drop_cons_getD l [] i hi]
    have hx := hr _ (Loops.getD_mem l [] i hi)
    exact Loops.fold_loop (G := fun k j s => impl_CountValue.l1 k a s l (l.length : Int) (i : Int) (l.getD i []) ((l.getD i []).length : Int) j) (r := fun s => cntRows a (l.drop (i + 1)) s) (l.getD i []) 0 (fun s v => if v = a then wrap64 (s + 1) else s) (fun _ _ => True) (fun k j s hj _ => by
      simp only [impl_CountValue.l1]
      rw [if_pos (by omega), if_pos (by omega), if_pos (by omega), Loops.rd_nat, Loops.wrap_succ hj (by omega)]
      split <;> rfl) (fun _ _ _ _ => trivial) (fun s _ => Ev.step (f := fun k => impl_CountValue.l0 k a s l (l.length : Int) ((i + 1 : Nat) : Int)) (fun k => by
      simp only [impl_CountValue.l1]
      rw [if_neg (by omega), Loops.wrap_succ hi (by omega)]) (ih s)) s trivial) (fun s => by
    refine Loops.Ev.one (fun k => ?_)
    simp only [impl_CountValue.l0, List.drop_length]
    rw [if_neg (by omega)]
    rfl) 0
  simpa using key
def bitRow (v : List Int) : Prop := v.length = 32 ∧ ∀ j, 0 ≤ v.getD j 0 ∧ v.getD j 0 ≤ 1
theorem bit_page {v : List Int} (h : bitRow v) : pageRow v := ⟨h.1, fun j => by have := h.2 j; omega⟩
theorem bits_ok (l : List (List Int)) (h : ∀ v ∈ l, bitRow v) (hl : l.length ≤ 32) : bitsOk l = true := by
  simp only [bitsOk, Bool.and_eq_true, List.all_eq_true]
  refine ⟨rows_ok l (fun v hv => bit_page (h v hv)) hl, fun v hv => ?_⟩
  simp only [bits01, List.all_eq_true, decide_eq_true_eq]
  intro x hx
  obtain ⟨i, hi, rfl⟩ := List.getElem_of_mem hx
  have := (h v hv).2 i
  simpa only [List.getD, List.getElem?_eq_getElem hi, Option.getD_some] using this
theorem cntRow_sum (v : List Int) : ∀ (s : Int), (∀ x ∈ v, 0 ≤ x ∧ x ≤ 1) → 0 ≤ s → s + v.length ≤ 1000000 → cntRow 1 s v = s + v.sum ∧ 0 ≤ v.sum ∧ v.sum ≤ v.length := by
  induction v with
  | nil => intro s _ _ _; simp [cntRow]
  | cons y ys ih =>
    intro s h h0 h1
    have hy := h y (by simp)
    simp only [List.length_cons] at h1
    by_cases e : y = 1
    · have := ih (s + 1) (fun x hx => h x (by simp [hx])) (by omega) (by omega)
      simp only [cntRow, List.foldl_cons, if_pos e, List.sum_cons, List.length_cons] at this ⊢
      rw [Loops.wrap_in (x := s + 1) (by omega) (by omega)]
      omega
    · have := ih s (fun x hx => h x (by simp [hx])) (by omega) (by omega)
      simp only [cntRow, List.foldl_cons, if_neg e, List.sum_cons, List.length_cons] at this ⊢
      omega
def total (l : List (List Int)) : Int := (l.map List.sum).sum
theorem cnt_total (l : List (List Int)) : ∀ (s : Int), (∀ v ∈ l, bitRow v) → 0 ≤ s → s + 32 * l.length ≤ 1000000 → cntRows 1 l s = s + total l ∧ 0 ≤ total l ∧ total l ≤ 32 * l.length := by
  induction l with
  | nil => intro s _ _ _; simp [cntRows, total]
  | cons v vs ih =>
    intro s h h0 h1
    have hv := h v (by simp)
    simp only [List.length_cons] at h1
    have h2 := cntRow_sum v s (fun x hx => by
      obtain ⟨i, hi, rfl⟩ := List.getElem_of_mem hx
      have := hv.2 i
      simpa only [List.getD, List.getElem?_eq_getElem hi, Option.getD_some] using this) h0 (by have := hv.1; omega)
    have h3 := ih (s + v.sum) (fun x hx => h x (by simp [hx])) (by omega) (by have := hv.1; omega)
    have := hv.1
    simp only [cntRows, total, List.foldl_cons, List.map_cons, List.sum_cons, List.length_cons] at h3 ⊢
    rw [h2.1]
    omega
theorem icntones (l : List (List Int)) (h : ∀ v ∈ l, bitRow v) (hl : l.length ≤ 32) : Ev (fun k => impl_CountOnes.f k l) (total l) := by
  have hr : ∀ x ∈ l, x.length ≤ 1048576 := fun x hx => by have := (h x hx).1; omega
  unfold impl_CountOnes.f
  refine Ev.bind (ibits_eq l (by omega) hr) ?_
  rw [bits_ok l h hl]
  simp only [if_true]
  have := (cnt_total l 0 h (by omega) (by omega)).1
  rw [Int.zero_add] at this
  rw [← this]
  exact Ev.bind (icount_eq l 1 (by omega) hr) (Ev.now _)
theorem icover (l : List (List Int)) (h : ∀ v ∈ l, bitRow v) (hl : l.length ≤ 32) : ∃ c, Ev (fun k => impl_InkCoverage.f k l) c ∧ 0 ≤ c ∧ c ≤ 1000 := by
  have hr : ∀ x ∈ l, x.length ≤ 1048576 := fun x hx => by have := (h x hx).1; omega
  have ht := cnt_total l 0 h (by omega) (by omega)
  by_cases h0 : (l.length : Int) = 0
  · refine ⟨0, ?_, by omega, by omega⟩
    unfold impl_InkCoverage.f
    refine Ev.bind (ibits_eq l (by omega) hr) ?_
    rw [bits_ok l h hl]
    simp only [if_true, if_pos h0]
    exact Ev.now _
  · refine ⟨wrap64 (Int.tdiv (wrap64 (total l * 1000)) (wrap64 ((l.length : Int) * 32))), ?_, ?_⟩
    · unfold impl_InkCoverage.f
      refine Ev.bind (ibits_eq l (by omega) hr) ?_
      rw [bits_ok l h hl]
      simp only [if_true, if_neg h0]
      refine Ev.bind (icntones l h hl) ?_
      simp only [if_neg (show ¬ wrap64 ((l.length : Int) * 32) = 0 by rw [Loops.wrap_in (by omega) (by omega)]; omega)]
      exact Ev.now _
    · rw [Loops.wrap_in (x := total l * 1000) (by omega) (by omega), Loops.wrap_in (x := (l.length : Int) * 32) (by omega) (by omega), Int.tdiv_eq_ediv_of_nonneg (by omega)]
      have h1 : 0 ≤ total l * 1000 / ((l.length : Int) * 32) := Int.ediv_nonneg (by omega) (by omega)
      have h2 : total l * 1000 / ((l.length : Int) * 32) ≤ 1000 := by
        have := Int.ediv_le_ediv (show (0 : Int) < (l.length : Int) * 32 by omega) (show total l * 1000 ≤ 1000 * ((l.length : Int) * 32) by omega)
        rwa [Int.mul_ediv_cancel _ (by omega)] at this
      rw [Loops.wrap_in (by omega) (by omega)]
      exact ⟨h1, h2⟩
theorem dbits_row {v c : List Int} (hv : v.length = 32) (hc : c.length = 32) : bitRow (dbits v c) := by
  obtain ⟨h1, _, _, h4, _⟩ := drow_plain v c hv hc 32 (Nat.le_refl _)
  exact ⟨h1, h4⟩
theorem drows_good (rows : List (List Int)) : ∀ (c : List Int) (T : Int), (∀ v ∈ rows, pageRow v) → even c T →
    (drows rows c).1.length = rows.length ∧ (∀ v ∈ (drows rows c).1, bitRow v) ∧ even (drows rows c).2 (T + 154 * rows.length) ∧ (drows rows c).2.sum + 255 * total (drows rows c).1 = total rows + c.sum := by
  induction rows with
  | nil => intro c T _ h; simpa [drows, total] using h
  | cons v vs ih =>
    intro c T hr h
    have hv := hr v (by simp)
    obtain ⟨e1, e2⟩ := dcarry_even hv.1 hv.2 h
    obtain ⟨a1, a2, a3, a4⟩ := ih (dcarry v c) (T + 154) (fun x hx => hr x (by simp [hx])) e1
    simp only [drows, List.length_cons, total, List.map_cons, List.sum_cons] at a4 ⊢
    refine ⟨by omega, fun x hx => ?_, ?_, by omega⟩
    · rcases List.mem_cons.1 hx with rfl | hx
      · exact dbits_row hv.1 h.1
      · exact a2 x hx
    · rw [show T + 154 * ((vs.length + 1 : Nat) : Int) = T + 154 + 154 * (vs.length : Int) by omega]
      exact a3
theorem sum_up (l : List Int) (b : Int) : l.sum ≤ (l.map fun z => up z b).sum + b * l.length := by
  induction l with
  | nil => simp
  | cons y ys ih =>
    have := up_le y b
    have e : b * ((ys.length + 1 : Nat) : Int) = b * (ys.length : Int) + b := by rw [show ((ys.length + 1 : Nat) : Int) = (ys.length : Int) + 1 by omega, Int.mul_add, Int.mul_one]
    simp only [List.sum_cons, List.map_cons, List.length_cons, e]
    omega
theorem sum_neg (l : List Int) : (l.map fun z => -z).sum = -l.sum := by
  induction l with
  | nil => simp
  | cons y ys ih => simp only [List.map_cons, List.sum_cons, ih]; omega
theorem even_sum {c : List Int} {T : Int} (h : even c T) : c.sum ≤ 69 * 32 + T ∧ -c.sum ≤ 72 * 32 + T := by
  have h1 := sum_up c 69
  have h2 := sum_up (c.map fun z => -z) 72
  rw [sum_neg, List.map_map, List.length_map] at h2
  have := h.1
  have := h.2.1
  have h4 := h.2.2
  have e : (c.map ((fun z => up z 72) ∘ fun z => -z)) = c.map fun z => up (-z) 72 := rfl
  rw [e] at h2
  omega
theorem dot_bit (v x y : Int) : 0 ≤ dotAt v x y ∧ dotAt v x y ≤ 1 := by
  unfold dotAt
  split <;> omega
theorem scr_row (v : List Int) (y : Nat) (h : v.length = 32) : bitRow (scrRow v y) := by
  refine ⟨by simp [scrRow, h], fun j => ?_⟩
  by_cases hj : j < v.length
  · simp only [scrRow, List.getD, List.getElem?_map, List.getElem?_range hj, Option.map_some, Option.getD_some]
    exact dot_bit _ _ _
  · simp [scrRow, List.getD, List.getElem?_eq_none (show (List.range v.length).length ≤ j by simp; omega)]
theorem scr_rows (R : List (List Int)) (h : ∀ v ∈ R, pageRow v) : ∀ v ∈ scrRows R, bitRow v := by
  intro v hv
  obtain ⟨y, hy, rfl⟩ := List.mem_map.1 hv
  exact scr_row _ y (h _ (Loops.getD_mem R [] y (by simpa using hy))).1
theorem white : Ev (fun k => impl_WhiteRows.f k 3) (List.replicate 3 (List.replicate 32 255)) := by
  unfold impl_WhiteRows.f
  have e : impl_within.f 3 0 32 = some true := by rw [within_eq]; rfl
  simp only [e, Option.bind_some, if_true]
  have r : slices_Repeat_int_int.f [255] 32 = some (List.replicate 32 255) := rfl
  have step : ∀ k (n : Nat) (out : List (List Int)), n < 3 → out.length = n → impl_WhiteRows.l0 (k + 1) (((3 - n : Nat) : Int)) out = impl_WhiteRows.l0 k (((3 - (n + 1) : Nat) : Int)) (out ++ [List.replicate 32 255]) := by
    intro k n out hn ho
    rw [impl_WhiteRows.l0]
    rw [if_pos (by omega), r]
    simp only [Option.bind_some]
    rw [if_pos (by omega), Loops.wrap_in (by omega) (by omega)]
    congr 1
    omega
  exact Ev.step (fun k => step k 0 [] (by omega) rfl) (Ev.step (fun k => step k 1 _ (by omega) rfl) (Ev.step (fun k => step k 2 _ (by omega) rfl) (Loops.Ev.one (fun k => by
    simp only [impl_WhiteRows.l0]
    rw [if_neg (by omega)]
    rfl))))
theorem white_none : total (scrRows ((List.replicate 3 (List.replicate 32 255)).map invRow)) = 0 := by decide +kernel
theorem inv_sum (v : List Int) : (invRow v).sum = 255 * v.length - v.sum := by
  unfold invRow
  induction v with
  | nil => rfl
  | cons y ys ih => simp only [List.map_cons, List.sum_cons, List.length_cons, ih]; omega
theorem ink_row (rows a b : List (List Int)) (o t : Bool) (y : Nat) (hy : y < rows.length) (hr : ∀ v ∈ rows, pageRow v) (s : Int) (h0 : 0 ≤ s) (h1 : s ≤ 1000000) {r : Bool}
    (next : Ev (fun k => laws_FnHalftones.l0 k rows a o b t (s + (invRow (rows.getD y [])).sum) (wrap64 ((y : Int) + 1))) r) : Ev (fun k => laws_FnHalftones.l1 k rows a o b t s (y : Int) 0) r := by
  have hm := hr _ (Loops.getD_mem rows [] y hy)
  have hrd : rd_L1 rows (y : Int) = rows.getD y [] := rdL1 rows y
  generalize rows.getD y [] = v at *
  have hml := hm.1
  have hs : ∀ j, j ≤ 32 → 0 ≤ ((invRow v).take j).sum ∧ ((invRow v).take j).sum ≤ 255 * (j : Int) := by
    intro j
    induction j with
    | zero => intro _; simp
    | succ j ih =>
      intro hj
      have := ih (by omega)
      have hv := (inv_page hm).2 j
      rw [take_sum_succ _ j (by simp [invRow]; omega)]
      omega
  have key := Loops.up_loop (G := fun k j (s : Int) => laws_FnHalftones.l1 k rows a o b t s (y : Int) j) (r := r) (fun j => s + ((invRow v).take j).sum) 32 (fun k j hj => by
    have := hs j (by omega)
    have hv := hm.2 j
    rw [laws_FnHalftones.l1]
    rw [if_pos (by omega), if_pos (by omega), if_pos (by omega), if_pos (by omega), hrd, if_pos (by omega), rd_get, Loops.wrap_succ hj (by omega), Loops.wrap_in (x := s + ((invRow v).take j).sum + 255) (by omega) (by omega), Loops.wrap_in (by omega) (by omega), take_sum_succ _ j (by simp [invRow]; omega)]
    have e : (invRow v).getD j 0 = 255 - v.getD j 0 := by
      simp only [invRow, List.getD, List.getElem?_map, List.getElem?_eq_getElem (show j < v.length by omega)]
      rfl
    rw [e, show s + ((invRow v).take j).sum + 255 - v.getD j 0 = s + (((invRow v).take j).sum + (255 - v.getD j 0)) by omega]) (Loops.Ev.succ (by
    simp only [laws_FnHalftones.l1]
    simp only [if_neg (show ¬ (((32 : Nat) : Int)) < 32 by omega)]
    rw [List.take_of_length_le (by simp [invRow]; omega)]
    exact next))
  simpa using key
theorem ink_all (rows a b : List (List Int)) (o t : Bool) (hr : ∀ v ∈ rows, pageRow v) (hl : rows.length ≤ 32) {r : Bool} (fin : Ev (fun k => laws_FnHalftones.l0 k rows a o b t (total (rows.map invRow)) (rows.length : Int)) r) :
    ∀ (m i : Nat), i + m = rows.length → 0 ≤ total ((rows.take i).map invRow) → total ((rows.take i).map invRow) ≤ 8160 * (i : Int) → Ev (fun k => laws_FnHalftones.l0 k rows a o b t (total ((rows.take i).map invRow)) (i : Int)) r := by
  intro m
  induction m with
  | zero =>
    intro i hi _ _
    obtain rfl : i = rows.length := by omega
    rw [List.take_length]
    exact fin
  | succ m ih =>
    intro i hi h0 h1
    have hm := hr _ (Loops.getD_mem rows [] i (by omega))
    have hs := inv_sum (rows.getD i [])
    have hp := inv_page hm
    have hn : 0 ≤ (invRow (rows.getD i [])).sum := sum_nonneg _ (fun j _ => (hp.2 j).1)
    have hn2 : 0 ≤ (rows.getD i []).sum := sum_nonneg _ (fun j _ => (hm.2 j).1)
    have e : total ((rows.take (i + 1)).map invRow) = total ((rows.take i).map invRow) + (invRow (rows.getD i [])).sum := by
      unfold total
      rw [Loops.take_one_more rows [] i (by omega), List.map_append, List.map_append, List.sum_append]
      simp
    have := hm.1
    have key := ih (i + 1) (by omega) (by omega) (by omega)
    refine Loops.Ev.succ ?_
    simp only [laws_FnHalftones.l0, if_pos (show (i : Int) < (rows.length : Int) by omega)]
    refine ink_row rows a b o t i (by omega) hr _ h0 (by omega) ?_
    rw [Loops.wrap_succ (show i < rows.length by omega) (by omega), ← e]
    exact key
theorem FnHalftones : ∀ (l0 : List Int), (l0.length ≤ maxLen ∧ ∀ x ∈ l0, (Lit.int .u8 x).wf = true) → ∃ k, laws_FnHalftones.f k l0 = some true := by
  intro l ⟨hl, _⟩
  have e : maxLen = 9223372036854775807 := by decide
  rw [e] at hl
  refine Ev.rounds ?_
  unfold laws_FnHalftones.f laws_big.f
  simp only [Option.bind_some]
  by_cases hb : (l.length : Int) > 1048576
  · simp only [decide_eq_true hb, if_true]; exact Ev.now _
  simp only [decide_eq_false hb, Bool.false_eq_true, if_false]
  obtain ⟨rows, er, rl, rp⟩ := drawRows_some l (by omega)
  refine Ev.bind er (Ev.bind (ihalf_true rows rp (by omega)) (Ev.bind (ihalf_false rows rp (by omega)) ?_))
  simp only
  have mi : ∀ v ∈ rows.map invRow, pageRow v := fun v hv => by
    obtain ⟨u, hu, rfl⟩ := List.mem_map.1 hv
    exact inv_page (rp u hu)
  obtain ⟨d1, d2, d3, d4⟩ := drows_good (rows.map invRow) (List.replicate 32 0) 0 mi even_zero
  rw [List.length_map] at d1 d3
  have d5 := even_sum d3
  have z0 : (List.replicate 32 (0 : Int)).sum = 0 := rfl
  rw [z0] at d4
  have hA := scr_rows (rows.map invRow) mi
  have hAl : (scrRows (rows.map invRow)).length = rows.length := by simp [scrRows]
  generalize (drows (rows.map invRow) (List.replicate 32 0)).1 = B at *
  generalize (drows (rows.map invRow) (List.replicate 32 0)).2 = C at *
  generalize scrRows (rows.map invRow) = A at *
  have hrB : ∀ x ∈ B, x.length ≤ 1048576 := fun x hx => by have := (d2 x hx).1; omega
  have hrA : ∀ x ∈ A, x.length ≤ 1048576 := fun x hx => by have := (hA x hx).1; omega
  obtain ⟨c, ec, c0, c1⟩ := icover B d2 (by omega)
  have tb := cnt_total B 0 d2 (by omega) (by omega)
  have W : ∀ v ∈ List.replicate 3 (List.replicate 32 (255 : Int)), pageRow v := fun v hv => by
    rw [List.eq_of_mem_replicate hv]
    exact pageRow_of rfl (fun x hx => by rw [List.eq_of_mem_replicate hx]; omega)
  have WI : ∀ v ∈ (List.replicate 3 (List.replicate 32 (255 : Int))).map invRow, pageRow v := fun v hv => by
    obtain ⟨u, hu, rfl⟩ := List.mem_map.1 hv
    exact inv_page (W u hu)
  have key := ink_all rows A B true true rp (by omega) (r := true) (by
    refine Loops.Ev.succ ?_
    simp only [laws_FnHalftones.l0, if_neg (show ¬ (rows.length : Int) < (rows.length : Int) by omega)]
    refine Ev.bind (icntones B d2 (by omega)) (Ev.bind ec (Ev.bind white (Ev.bind (ihalf_true _ W (by simp)) ?_)))
    simp only [if_true]
    refine Ev.bind (ibits_eq A (by omega) hrA) ?_
    rw [bits_ok A hA (by omega)]
    simp only [if_true]
    refine Ev.bind (ibits_eq B (by omega) hrB) ?_
    rw [bits_ok B d2 (by omega)]
    rw [Loops.wrap_in (x := 255 * total B) (by omega) (by omega), Loops.wrap_in (x := 255 * total B - total (rows.map invRow)) (by omega) (by omega), Loops.wrap_in (x := -(255 * total B - total (rows.map invRow))) (by omega) (by omega)]
    simp only [if_true, if_pos (show (A.length : Int) = (rows.length : Int) by omega), if_pos (show (B.length : Int) = (rows.length : Int) by omega), if_pos (show 255 * total B - total (rows.map invRow) ≤ 8160 by omega), if_pos (show -(255 * total B - total (rows.map invRow)) ≤ 8160 by omega), if_pos (show c ≥ 0 by omega), if_pos c1]
    have ew := icntones _ (scr_rows _ WI) (by simp [scrRows])
    rw [white_none] at ew
    exact Ev.bind ew (Ev.now _)) rows.length 0 (by omega) (by simp [total]) (by simp [total])
  simpa [total] using key

end Go.Proofs.Ytaceidiookkocaa.Pure
