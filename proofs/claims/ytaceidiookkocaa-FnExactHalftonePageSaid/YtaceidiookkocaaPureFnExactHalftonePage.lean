/- The pure part of FnExactHalftonePage: over numbers and lists alone. No condition beyond the numbers' own kinds. -/
import Derived.Test.YtaceidiookkocaaQFnExactHalftonePage7
import Derived.Test.YtaceidiookkocaaLot
namespace Go.Proofs.Ytaceidiookkocaa.Pure
open Go.RowKit Go.Proofs.Ytaceidiookkocaa.PFnExactHalftonePage Go.Proofs.YtaceidiookkocaaW.PrintWords Go.Proofs.YtaceidiookkocaaW.PrintLast Go.Proofs.YtaceidiookkocaaW.PrintMore
set_option linter.unusedVariables false
set_option linter.unusedSimpArgs false

theorem toIntS_eq (l : List Int) (hl : l.length ≤ 4194304) : Ev (fun k => laws_toIntS.f k l) l := by
  unfold laws_toIntS.f
  simp only [if_pos (show (0 : Int) ≤ (l.length : Int) by omega), Int.toNat_natCast, if_pos (show l.length ≤ 35184372088832 by omega)]
  exact Loops.copy_loop (G := fun k i o => laws_toIntS.l0 k l o i) l 0 (by omega) (fun k i o => by simp only [laws_toIntS.l0, rd])
theorem eqIntS_eq (l : List Int) (hl : l.length ≤ 4194304) : Ev (fun k => laws_eqIntS.f k l l) true := by
  unfold laws_eqIntS.f
  simp only [if_true]
  exact Loops.plain_loop (G := fun k i => laws_eqIntS.l0 k l l i) l.length (by omega) (fun k i hi => by
    simp only [laws_eqIntS.l0]
    rw [if_pos (by omega), if_pos (by omega), if_pos (by omega), if_pos trivial]) (fun k => by
    simp only [laws_eqIntS.l0]
    rw [if_neg (by omega)])
theorem szIntS_eq (l : List Int) (a : Int) (hl : l.length ≤ 9223372036854775807) (h0 : 0 ≤ a) (h1 : a ≤ 1048576) : ∃ t, laws_szIntS.f l a = some t ∧ (0 ≤ t → t ≤ a ∧ l.length ≤ 1048576) := by
  unfold laws_szIntS.f
  rw [Loops.wrap_in (show -9223372036854775808 ≤ a - (l.length : Int) by omega) (by omega)]
  by_cases h : a - (l.length : Int) < 0
  · rw [if_pos h]; exact ⟨-1, rfl, fun h => absurd h (by omega)⟩
  · rw [if_neg h]; exact ⟨_, rfl, fun h => by omega⟩
theorem rdL1 (l : List (List Int)) (i : Nat) : rd_L1 l (i : Int) = l.getD i [] := by simp [rd_L1]
theorem szIntSS_eq (l : List (List Int)) (a : Int) (hl : l.length ≤ 9223372036854775807) (hr : ∀ x ∈ l, x.length ≤ 9223372036854775807) (h0 : 0 ≤ a) (h1 : a ≤ 1048576) : ∃ t, Ev (fun k => laws_szIntSS.f k l a) t ∧ (0 ≤ t → t ≤ a ∧ l.length ≤ 1048576 ∧ ∀ x ∈ l, x.length ≤ 1048576) := by
  unfold laws_szIntSS.f
  rw [Loops.wrap_in (show -9223372036854775808 ≤ a - (l.length : Int) by omega) (by omega)]
  by_cases h : a - (l.length : Int) < 0
  · simp only [if_pos h]; exact ⟨-1, Ev.now _, fun h => absurd h (by omega)⟩
  · simp only [if_neg h]
    obtain ⟨t, ev, ht⟩ := Loops.sz_loop (G := fun k i a => laws_szIntSS.l0 k l a i) l [] 1048576 (fun x a _ => laws_szIntS.f x a) (fun x => x.length ≤ 1048576) hl (fun x hx a h0 h1 => by
      obtain ⟨t, e, ht⟩ := szIntS_eq x a (hr x hx) h0 h1
      exact ⟨t, Loops.Ev.const e, ht⟩) (fun k i a hi => by
      simp only [laws_szIntSS.l0]
      rw [if_pos (by omega), if_pos (by omega), rdL1]) (fun k a => by
      simp only [laws_szIntSS.l0]
      rw [if_neg (by omega)]) (a - (l.length : Int)) (by omega) (by omega)
    exact ⟨t, ev, fun h => ⟨by have := (ht h).1; omega, by omega, (ht h).2⟩⟩
theorem toIntSS_eq (l : List (List Int)) (hl : l.length ≤ 1048576) (hr : ∀ x ∈ l, x.length ≤ 1048576) : Ev (fun k => laws_toIntSS.f k l) l := by
  unfold laws_toIntSS.f
  simp only [if_pos (show (0 : Int) ≤ (l.length : Int) by omega), Int.toNat_natCast, if_pos (show l.length ≤ 11728124029610 by omega)]
  have key := Loops.map_ev (G := fun k i o => laws_toIntSS.l0 k l o i) l [] [] (fun x => x) (fun x k => laws_toIntS.f k x) (by omega) (fun x hx => toIntS_eq x (by have := hr x hx; omega)) (fun k i o hi ho => by
    simp only [laws_toIntSS.l0]
    rw [if_pos (by omega), if_pos (by omega), rdL1]
    congr 1; funext t
    rw [if_pos (by omega), Int.toNat_natCast]) (fun k o => by
    simp only [laws_toIntSS.l0]
    rw [if_neg (by omega)])
  simpa using key
theorem eqIntSS_eq (l : List (List Int)) (hl : l.length ≤ 1048576) (hr : ∀ x ∈ l, x.length ≤ 1048576) : Ev (fun k => laws_eqIntSS.f k l l) true := by
  unfold laws_eqIntSS.f
  simp only [if_true]
  have key := Loops.all_loop (G := fun k i => laws_eqIntSS.l0 k l l i) (r := true) l [] (fun _ => true) (fun x k => laws_eqIntS.f k x x) (by omega) (fun x hx => eqIntS_eq x (by have := hr x hx; omega)) (fun k i hi => by
    simp only [laws_eqIntSS.l0]
    rw [if_pos (by omega), if_pos (by omega), if_pos (by omega), rdL1]) (Loops.Ev.one (fun k => by
    simp only [laws_eqIntSS.l0]
    rw [if_neg (by omega)]))
  rw [show (l.all fun _ => true) = true by rw [List.all_eq_true]; intros; rfl, Bool.true_and] at key
  exact key
theorem markIntS_eq (l : List Int) (a : Int) (hl : l.length ≤ 4194304) (h0 : 0 ≤ a) (h1 : a ≤ 1125899906842624) : Ev (fun k => laws_markIntS.f k l a) (a + l.length, Loops.iota a l.length) := by
  unfold laws_markIntS.f
  exact Loops.mark_loop (G := laws_markIntS.l0) l a (by omega) h0 (by omega) (fun k x m i => by simp only [laws_markIntS.l0])
theorem heldIntS_eq (n : Nat) (a : Int) (hn : n ≤ 4194304) (h0 : 0 ≤ a) (h1 : a ≤ 1125899906842624) : Ev (fun k => laws_heldIntS.f k (Loops.iota a n) a) (a + n) := by
  unfold laws_heldIntS.f
  exact Loops.held_loop (G := laws_heldIntS.l0) a n (by omega) h0 (by omega) (fun k x m i => by simp only [laws_heldIntS.l0])
def tot (l : List (List Int)) : Int := (l.map fun r => (r.length : Int)).sum
def mss : List (List Int) → Int → List (List Int)
  | [], _ => []
  | r :: rs, a => Loops.iota a r.length :: mss rs (a + r.length)
theorem mss_len (l : List (List Int)) : ∀ a, (mss l a).length = l.length := by
  induction l with
  | nil => intro a; rfl
  | cons r rs ih => intro a; simp [mss, ih]
theorem tot_cons (r : List Int) (rs : List (List Int)) : tot (r :: rs) = r.length + tot rs := by simp [tot]
theorem tot_bound (l : List (List Int)) (hr : ∀ x ∈ l, x.length ≤ 1048576) : 0 ≤ tot l ∧ tot l ≤ 1048576 * (l.length : Int) := by
  induction l with
  | nil => simp [tot]
  | cons r rs ih =>
    have := ih (fun x hx => hr x (by simp [hx]))
    have := hr r (by simp)
    rw [tot_cons, List.length_cons]
    omega
theorem markss_from (n : Nat) (hn : n ≤ 1048576) : ∀ (l done : List (List Int)) (a : Int), done.length + l.length = n → (∀ x ∈ l, x.length ≤ 1048576) → 0 ≤ a → a + tot l ≤ 1125899906842624 →
    Ev (fun k => laws_markIntSS.l0 k (done ++ l) a (done.length : Int)) (a + tot l, done ++ mss l a) := by
  intro l
  induction l with
  | nil =>
    intro done a hd _ _ _
    refine Loops.Ev.one (fun k => ?_)
    simp only [laws_markIntSS.l0]
    rw [if_neg (by simp)]
    simp [tot, mss]
  | cons r rs ih =>
    intro done a hd hr h0 h1
    have hb := tot_bound rs (fun x hx => hr x (by simp [hx]))
    have hrl := hr r (by simp)
    rw [tot_cons] at h1 ⊢
    simp only [List.length_cons] at hd
    refine Loops.Ev.succ ?_
    have e1 : rd_L1 (done ++ r :: rs) (done.length : Int) = r := by rw [rdL1]; simp [List.getD]
    simp only [laws_markIntSS.l0, if_pos (show (done.length : Int) < ((done ++ r :: rs).length : Int) by simp; omega), if_pos (show (0 : Int) ≤ (done.length : Int) by omega), e1]
    refine Ev.bind (markIntS_eq r a (by omega) h0 (by omega)) ?_
    have e2 : (done ++ r :: rs).set ((done.length : Int)).toNat (Loops.iota a r.length) = (done ++ [Loops.iota a r.length]) ++ rs := by
      rw [Int.toNat_natCast, List.set_append_right _ _ (Nat.le_refl _), Nat.sub_self, List.set_cons_zero, List.append_assoc]
      rfl
    simp only [e2]
    have key := ih (done ++ [Loops.iota a r.length]) (a + r.length) (by simp; omega) (fun x hx => hr x (by simp [hx])) (by omega) (by omega)
    rw [Loops.wrap_succ (show done.length < n by omega) (by omega)]
    rw [List.length_append, List.length_singleton] at key
    have e3 : done ++ mss (r :: rs) a = (done ++ [Loops.iota a r.length]) ++ mss rs (a + r.length) := by simp [mss]
    rw [e3]
    rw [show a + ((r.length : Int) + tot rs) = a + (r.length : Int) + tot rs by omega]
    exact key
theorem markss_eq (l : List (List Int)) (hl : l.length ≤ 1048576) (hr : ∀ x ∈ l, x.length ≤ 1048576) : Ev (fun k => laws_markIntSS.f k l 1) (1 + tot l, mss l 1) := by
  unfold laws_markIntSS.f
  have := tot_bound l hr
  have key := markss_from l.length hl l [] 1 (by simp) hr (by omega) (by omega)
  simpa using key
theorem heldss_from (n : Nat) (hn : n ≤ 1048576) : ∀ (l done : List (List Int)) (a : Int), done.length + l.length = n → (∀ x ∈ l, x.length ≤ 1048576) → 0 ≤ a → a + tot l ≤ 1125899906842624 →
    Ev (fun k => laws_heldIntSS.l0 k (done ++ mss l a) a (done.length : Int)) (a + tot l) := by
  intro l
  induction l with
  | nil =>
    intro done a hd _ _ _
    refine Loops.Ev.one (fun k => ?_)
    simp only [laws_heldIntSS.l0]
    rw [if_neg (by simp [mss])]
    simp [tot]
  | cons r rs ih =>
    intro done a hd hr h0 h1
    have hb := tot_bound rs (fun x hx => hr x (by simp [hx]))
    have hrl := hr r (by simp)
    rw [tot_cons] at h1 ⊢
    simp only [List.length_cons] at hd
    simp only [mss]
    refine Loops.Ev.succ ?_
    have e1 : rd_L1 (done ++ Loops.iota a r.length :: mss rs (a + r.length)) (done.length : Int) = Loops.iota a r.length := by rw [rdL1]; simp [List.getD]
    simp only [laws_heldIntSS.l0, if_pos (show (done.length : Int) < ((done ++ Loops.iota a r.length :: mss rs (a + r.length)).length : Int) by simp; omega), if_pos (show (0 : Int) ≤ (done.length : Int) by omega), e1]
    refine Ev.bind (heldIntS_eq r.length a (by omega) h0 (by omega)) ?_
    simp only [if_neg (show ¬ a + (r.length : Int) < 0 by omega)]
    have key := ih (done ++ [Loops.iota a r.length]) (a + r.length) (by simp; omega) (fun x hx => hr x (by simp [hx])) (by omega) (by omega)
    rw [Loops.wrap_succ (show done.length < n by omega) (by omega)]
    rw [List.length_append, List.length_singleton, List.append_assoc] at key
    rw [show a + ((r.length : Int) + tot rs) = a + (r.length : Int) + tot rs by omega]
    exact key
theorem heldss_eq (l : List (List Int)) (hl : l.length ≤ 1048576) (hr : ∀ x ∈ l, x.length ≤ 1048576) : Ev (fun k => laws_heldIntSS.f k (mss l 1) 1) (1 + tot l) := by
  unfold laws_heldIntSS.f
  have := tot_bound l hr
  have key := heldss_from l.length hl l [] 1 (by simp) hr (by omega) (by omega)
  simpa using key
def bump (l : List Int) (j : Nat) (a : Int) : List Int := l.set j (l.getD j 0 + a)
theorem bump_len (l : List Int) (j : Nat) (a : Int) : (bump l j a).length = l.length := by simp [bump]
theorem bump_get (l : List Int) (j : Nat) (a : Int) (i : Nat) (h : j < l.length) : (bump l j a).getD i 0 = l.getD i 0 + if i = j then a else 0 := by
  unfold bump
  simp only [List.getD, List.getElem?_set]
  by_cases e : j = i
  · subst e
    simp [h]
  · rw [if_neg e, if_neg (fun h => e h.symm)]
    omega
theorem sum_set (l : List Int) : ∀ (j : Nat) (x : Int), j < l.length → (l.set j x).sum = l.sum - l.getD j 0 + x := by
  induction l with
  | nil => intro j x h; exact absurd h (by simp)
  | cons y ys ih =>
    intro j x h
    cases j with
    | zero => simp; omega
    | succ j =>
      have := ih j x (by simpa using h)
      simp only [List.set_cons_succ, List.sum_cons, List.getD_cons_succ] at this ⊢
      omega
theorem bump_sum (l : List Int) (j : Nat) (a : Int) (h : j < l.length) : (bump l j a).sum = l.sum + a := by
  unfold bump
  rw [sum_set l j _ h]
  omega
theorem sum_le (l : List Int) : ∀ (m : List Int), l.length = m.length → (∀ i, i < l.length → l.getD i 0 ≤ m.getD i 0) → l.sum ≤ m.sum := by
  induction l with
  | nil => intro m h _; cases m with
    | nil => simp
    | cons => simp at h
  | cons y ys ih =>
    intro m h hp
    cases m with
    | nil => simp at h
    | cons z zs =>
      have h0 := hp 0 (by simp)
      have := ih zs (by simpa using h) (fun i hi => by have := hp (i + 1) (by simpa using hi); simpa using this)
      simp only [List.sum_cons]
      simp at h0
      omega
theorem sum_nonneg (l : List Int) (h : ∀ i, i < l.length → 0 ≤ l.getD i 0) : 0 ≤ l.sum := by
  have := sum_le (List.replicate l.length 0) l (by simp) (fun i hi => by
    simp only [List.length_replicate] at hi
    have := h i hi
    simp only [List.getD, List.getElem?_replicate, if_pos hi]
    exact this)
  have e : (List.replicate l.length (0 : Int)).sum = 0 := by
    generalize l.length = n
    induction n with
    | zero => rfl
    | succ n ih => rw [List.replicate_succ, List.sum_cons, ih]; rfl
  omega
theorem get_le_sum (l : List Int) (h : ∀ i, i < l.length → 0 ≤ l.getD i 0) (j : Nat) (hj : j < l.length) : l.getD j 0 ≤ l.sum := by
  have h1 := sum_set l j 0 hj
  have h2 := sum_nonneg (l.set j 0) (fun i hi => by
    simp only [List.length_set] at hi
    simp only [List.getD, List.getElem?_set]
    by_cases e : j = i
    · subst e; simp [hj]
    · rw [if_neg e]
      exact h i hi)
  omega
def up (x : Int) (b : Int) : Int := max (x - b) 0
/-- One dot: what is left goes on to the right, and down to three. -/
def dpix (i : Nat) (v c p : Int) (b D : List Int) : Int × List Int × List Int :=
  if v + c + p ≥ 128 then ((v + c + p - 255) - 3 * (v + c + p - 255) / 16 - 5 * (v + c + p - 255) / 16 - (v + c + p - 255) / 16, b.set i 1, bump (bump (bump D (i - 1) (3 * (v + c + p - 255) / 16)) i (5 * (v + c + p - 255) / 16)) (min 31 (i + 1)) ((v + c + p - 255) / 16))
  else ((v + c + p) - 3 * (v + c + p) / 16 - 5 * (v + c + p) / 16 - (v + c + p) / 16, b, bump (bump (bump D (i - 1) (3 * (v + c + p) / 16)) i (5 * (v + c + p) / 16)) (min 31 (i + 1)) ((v + c + p) / 16))
def drow (v c : List Int) : Nat → Int × List Int × List Int
  | 0 => (0, List.replicate 32 0, List.replicate 32 0)
  | i + 1 => dpix i (v.getD i 0) (c.getD i 0) (drow v c i).1 (drow v c i).2.1 (drow v c i).2.2
def dbits (v c : List Int) : List Int := (drow v c 32).2.1
def dcarry (v c : List Int) : List Int := bump (drow v c 32).2.2 31 (drow v c 32).1
/-- What the i dots so far have laid upon x, where each lays the same. -/
def Bs (α β γ : Int) : Nat → Nat → Int
  | 0, _ => 0
  | i + 1, x => Bs α β γ i x + (if x = i - 1 then α else 0) + (if x = i then β else 0) + (if x = min 31 (i + 1) then γ else 0)
theorem pix_up {v c p r : Int} (hv : v ≤ 255) (hr : r = v + c + p ∧ r ≤ 127 ∨ r = v + c + p - 255) :
    up (3 * r / 16) 23 + up (5 * r / 16) 39 + up (r / 16) 7 + up (r - 3 * r / 16 - 5 * r / 16 - r / 16) 58 ≤ up c 69 + up p 58 + 3 := by
  unfold up
  omega
theorem pix_down {v c p r : Int} (hv : 0 ≤ v) (hr : r = v + c + p ∨ r = v + c + p - 255 ∧ -127 ≤ r) :
    up (-(3 * r / 16)) 24 + up (-(5 * r / 16)) 40 + up (-(r / 16)) 8 + up (-(r - 3 * r / 16 - 5 * r / 16 - r / 16)) 55 ≤ up (-c) 72 + up (-p) 55 + 3 := by
  unfold up
  omega
theorem take_sum_succ (l : List Int) (i : Nat) (h : i < l.length) : (l.take (i + 1)).sum = (l.take i).sum + l.getD i 0 := by
  rw [Loops.take_one_more l 0 i h, List.sum_append]
  simp
theorem drow_plain (v c : List Int) (hv : v.length = 32) (hc : c.length = 32) : ∀ i, i ≤ 32 → (drow v c i).2.1.length = 32 ∧ (drow v c i).2.2.length = 32 ∧ (∀ j, i ≤ j → (drow v c i).2.1.getD j 0 = 0) ∧ (∀ j, 0 ≤ (drow v c i).2.1.getD j 0 ∧ (drow v c i).2.1.getD j 0 ≤ 1) ∧ (drow v c i).2.2.sum + (drow v c i).1 + 255 * (drow v c i).2.1.sum = (v.take i).sum + (c.take i).sum := by
  intro i
  induction i with
  | zero =>
    intro _
    have e : ∀ j, (List.replicate 32 (0 : Int)).getD j 0 = 0 := by
      intro j
      simp only [List.getD, List.getElem?_replicate]
      split <;> rfl
    refine ⟨rfl, rfl, fun j _ => e j, fun j => ?_, rfl⟩
    show 0 ≤ (List.replicate 32 (0 : Int)).getD j 0 ∧ (List.replicate 32 (0 : Int)).getD j 0 ≤ 1
    rw [e j]
    omega
  | succ i ih =>
    intro hi
    obtain ⟨h1, h2, h3, h4, h5⟩ := ih (by omega)
    have tv := take_sum_succ v i (by omega)
    have tc := take_sum_succ c i (by omega)
    simp only [drow]
    generalize (drow v c i).1 = p at *
    generalize (drow v c i).2.1 = b at *
    generalize (drow v c i).2.2 = D at *
    have hs : ∀ x y z : Int, (bump (bump (bump D (i - 1) x) i y) (min 31 (i + 1)) z).sum = D.sum + x + y + z ∧ (bump (bump (bump D (i - 1) x) i y) (min 31 (i + 1)) z).length = 32 := by
      intro x y z
      rw [bump_sum _ _ _ (by rw [bump_len, bump_len]; omega), bump_sum _ _ _ (by rw [bump_len]; omega), bump_sum _ _ _ (by omega), bump_len, bump_len, bump_len]
      exact ⟨rfl, h2⟩
    unfold dpix
    by_cases ht : v.getD i 0 + c.getD i 0 + p ≥ 128
    · rw [if_pos ht]
      dsimp only
      refine ⟨by simpa using h1, (hs _ _ _).2, fun j hj => ?_, fun j => ?_, ?_⟩
      · simp only [List.getD, List.getElem?_set]
        rw [if_neg (by omega)]
        exact h3 j (by omega)
      · simp only [List.getD, List.getElem?_set]
        by_cases e : i = j
        · subst e
          simp only [if_true]
          split <;> simp
        · rw [if_neg e]
          exact h4 j
      · rw [(hs _ _ _).1, sum_set b i 1 (by omega), h3 i (Nat.le_refl _), tv, tc]
        omega
    · rw [if_neg ht]
      dsimp only
      refine ⟨h1, (hs _ _ _).2, fun j hj => h3 j (by omega), h4, ?_⟩
      rw [(hs _ _ _).1, tv, tc]
      omega
theorem drop_map_succ (c : List Int) (f : Int → Int) (i : Nat) (h : i < c.length) : ((c.drop i).map f).sum = f (c.getD i 0) + ((c.drop (i + 1)).map f).sum := by
  rw [Loops.drop_cons_getD c 0 i h, List.map_cons, List.sum_cons]
theorem bump3_get (D : List Int) (hD : D.length = 32) (i : Nat) (hi : i < 32) (a b q : Int) (x : Nat) : (bump (bump (bump D (i - 1) a) i b) (min 31 (i + 1)) q).getD x 0 = D.getD x 0 + (if x = i - 1 then a else 0) + (if x = i then b else 0) + (if x = min 31 (i + 1) then q else 0) := by
  rw [bump_get _ _ _ _ (by rw [bump_len, bump_len]; omega), bump_get _ _ _ _ (by rw [bump_len]; omega), bump_get _ _ _ _ (by omega)]
theorem bump3_sum (D : List Int) (hD : D.length = 32) (i : Nat) (hi : i < 32) (x y z : Int) : (bump (bump (bump D (i - 1) x) i y) (min 31 (i + 1)) z).sum = D.sum + x + y + z ∧ (bump (bump (bump D (i - 1) x) i y) (min 31 (i + 1)) z).length = 32 := by
  rw [bump_sum _ _ _ (by rw [bump_len, bump_len]; omega), bump_sum _ _ _ (by rw [bump_len]; omega), bump_sum _ _ _ (by omega), bump_len, bump_len, bump_len]
  exact ⟨rfl, hD⟩
theorem up_nonneg (x b : Int) : 0 ≤ up x b := by unfold up; omega
theorem up_le (x b : Int) : x ≤ b + up x b := by unfold up; omega
/-- How far what is laid exceeds what even dots lay: above. -/
theorem drow_up (v c : List Int) (hv : v.length = 32) (hc : c.length = 32) (hb : ∀ j, v.getD j 0 ≤ 255) : ∀ i, i ≤ 32 → ∃ X : List Int, X.length = 32 ∧ (∀ x, 0 ≤ X.getD x 0) ∧ (∀ x, x < 32 → (drow v c i).2.2.getD x 0 ≤ Bs 23 39 7 i x + X.getD x 0) ∧
    X.sum + up (drow v c i).1 58 + ((c.drop i).map (fun z => up z 69)).sum ≤ (c.map (fun z => up z 69)).sum + 3 * (i : Int) := by
  intro i
  induction i with
  | zero =>
    intro _
    have e : ∀ j, (List.replicate 32 (0 : Int)).getD j 0 = 0 := by
      intro j
      simp only [List.getD, List.getElem?_replicate]
      split <;> rfl
    refine ⟨List.replicate 32 0, rfl, fun x => by rw [e]; omega, fun x _ => ?_, ?_⟩
    · show (List.replicate 32 (0 : Int)).getD x 0 ≤ Bs 23 39 7 0 x + (List.replicate 32 (0 : Int)).getD x 0
      rw [e]
      simp [Bs]
    · have e1 : (List.replicate 32 (0 : Int)).sum = 0 := rfl
      have e2 : up (drow v c 0).1 58 = 0 := rfl
      rw [e1, e2, List.drop_zero]
      omega
  | succ i ih =>
    intro hi
    obtain ⟨X, x1, x2, x3, x4⟩ := ih (by omega)
    obtain ⟨h1, h2, _⟩ := drow_plain v c hv hc i (by omega)
    have dm := drop_map_succ c (fun z => up z 69) i (by omega)
    have key : ∀ r : Int, (r = v.getD i 0 + c.getD i 0 + (drow v c i).1 ∧ r ≤ 127 ∨ r = v.getD i 0 + c.getD i 0 + (drow v c i).1 - 255) → ∃ X : List Int, X.length = 32 ∧ (∀ x, 0 ≤ X.getD x 0) ∧ (∀ x, x < 32 → (bump (bump (bump (drow v c i).2.2 (i - 1) (3 * r / 16)) i (5 * r / 16)) (min 31 (i + 1)) (r / 16)).getD x 0 ≤ Bs 23 39 7 (i + 1) x + X.getD x 0) ∧
        X.sum + up (r - 3 * r / 16 - 5 * r / 16 - r / 16) 58 + ((c.drop (i + 1)).map (fun z => up z 69)).sum ≤ (c.map (fun z => up z 69)).sum + 3 * ((i + 1 : Nat) : Int) := by
      intro r hr
      have hp := pix_up (hb i) hr
      refine ⟨bump (bump (bump X (i - 1) (up (3 * r / 16) 23)) i (up (5 * r / 16) 39)) (min 31 (i + 1)) (up (r / 16) 7), (bump3_sum X x1 i (by omega) _ _ _).2, fun x => ?_, fun x hx => ?_, ?_⟩
      · rw [bump3_get X x1 i (by omega)]
        have := x2 x
        have a1 := up_nonneg (3 * r / 16) 23
        have a2 := up_nonneg (5 * r / 16) 39
        have a3 := up_nonneg (r / 16) 7
        split <;> split <;> split <;> omega
      · rw [bump3_get X x1 i (by omega), bump3_get _ h2 i (by omega)]
        have := x3 x hx
        have a1 := up_le (3 * r / 16) 23
        have a2 := up_le (5 * r / 16) 39
        have a3 := up_le (r / 16) 7
        simp only [Bs]
        split <;> split <;> split <;> omega
      · rw [(bump3_sum X x1 i (by omega) _ _ _).1]
        omega
    simp only [drow]
    unfold dpix
    by_cases ht : v.getD i 0 + c.getD i 0 + (drow v c i).1 ≥ 128
    · rw [if_pos ht]
      exact key _ (.inr rfl)
    · rw [if_neg ht]
      exact key _ (.inl ⟨rfl, by omega⟩)
/-- .. and below. -/
theorem drow_down (v c : List Int) (hv : v.length = 32) (hc : c.length = 32) (hb : ∀ j, 0 ≤ v.getD j 0) : ∀ i, i ≤ 32 → ∃ X : List Int, X.length = 32 ∧ (∀ x, 0 ≤ X.getD x 0) ∧ (∀ x, x < 32 → -((drow v c i).2.2.getD x 0) ≤ Bs 24 40 8 i x + X.getD x 0) ∧
    X.sum + up (-(drow v c i).1) 55 + ((c.drop i).map (fun z => up (-z) 72)).sum ≤ (c.map (fun z => up (-z) 72)).sum + 3 * (i : Int) := by
  intro i
  induction i with
  | zero =>
    intro _
    have e : ∀ j, (List.replicate 32 (0 : Int)).getD j 0 = 0 := by
      intro j
      simp only [List.getD, List.getElem?_replicate]
      split <;> rfl
    refine ⟨List.replicate 32 0, rfl, fun x => by rw [e]; omega, fun x _ => ?_, ?_⟩
    · show -((List.replicate 32 (0 : Int)).getD x 0) ≤ Bs 24 40 8 0 x + (List.replicate 32 (0 : Int)).getD x 0
      rw [e]
      simp [Bs]
    · have e1 : (List.replicate 32 (0 : Int)).sum = 0 := rfl
      have e2 : up (-(drow v c 0).1) 55 = 0 := rfl
      rw [e1, e2, List.drop_zero]
      omega
  | succ i ih =>
    intro hi
    obtain ⟨X, x1, x2, x3, x4⟩ := ih (by omega)
    obtain ⟨h1, h2, _⟩ := drow_plain v c hv hc i (by omega)
    have dm := drop_map_succ c (fun z => up (-z) 72) i (by omega)
    have key : ∀ r : Int, (r = v.getD i 0 + c.getD i 0 + (drow v c i).1 ∨ r = v.getD i 0 + c.getD i 0 + (drow v c i).1 - 255 ∧ -127 ≤ r) → ∃ X : List Int, X.length = 32 ∧ (∀ x, 0 ≤ X.getD x 0) ∧ (∀ x, x < 32 → -((bump (bump (bump (drow v c i).2.2 (i - 1) (3 * r / 16)) i (5 * r / 16)) (min 31 (i + 1)) (r / 16)).getD x 0) ≤ Bs 24 40 8 (i + 1) x + X.getD x 0) ∧
        X.sum + up (-(r - 3 * r / 16 - 5 * r / 16 - r / 16)) 55 + ((c.drop (i + 1)).map (fun z => up (-z) 72)).sum ≤ (c.map (fun z => up (-z) 72)).sum + 3 * ((i + 1 : Nat) : Int) := by
      intro r hr
      have hp := pix_down (hb i) hr
      refine ⟨bump (bump (bump X (i - 1) (up (-(3 * r / 16)) 24)) i (up (-(5 * r / 16)) 40)) (min 31 (i + 1)) (up (-(r / 16)) 8), (bump3_sum X x1 i (by omega) _ _ _).2, fun x => ?_, fun x hx => ?_, ?_⟩
      · rw [bump3_get X x1 i (by omega)]
        have := x2 x
        have a1 := up_nonneg (-(3 * r / 16)) 24
        have a2 := up_nonneg (-(5 * r / 16)) 40
        have a3 := up_nonneg (-(r / 16)) 8
        split <;> split <;> split <;> omega
      · rw [bump3_get X x1 i (by omega), bump3_get _ h2 i (by omega)]
        have := x3 x hx
        have a1 := up_le (-(3 * r / 16)) 24
        have a2 := up_le (-(5 * r / 16)) 40
        have a3 := up_le (-(r / 16)) 8
        simp only [Bs]
        split <;> split <;> split <;> omega
      · rw [(bump3_sum X x1 i (by omega) _ _ _).1]
        omega
    simp only [drow]
    unfold dpix
    by_cases ht : v.getD i 0 + c.getD i 0 + (drow v c i).1 ≥ 128
    · rw [if_pos ht]
      exact key _ (.inr ⟨rfl, by omega⟩)
    · rw [if_neg ht]
      exact key _ (.inl rfl)
theorem bs_up : ∀ x, x < 32 → Bs 23 39 7 32 x ≤ 69 + (if x = 0 then 16 else 0) - (if x = 31 then 16 else 0) := by decide +kernel
theorem bs_down : ∀ x, x < 32 → Bs 24 40 8 32 x ≤ 72 + (if x = 0 then 16 else 0) - (if x = 31 then 16 else 0) := by decide +kernel
theorem bs_le (α β γ : Int) (ha : 0 ≤ α) (hb : 0 ≤ β) (hg : 0 ≤ γ) : ∀ i x, 0 ≤ Bs α β γ i x ∧ Bs α β γ i x ≤ (α + β + γ) * (i : Int) := by
  intro i
  induction i with
  | zero => intro x; simp [Bs]
  | succ i ih =>
    intro x
    have := ih x
    have e : (α + β + γ) * ((i + 1 : Nat) : Int) = (α + β + γ) * (i : Int) + (α + β + γ) := by
      rw [show ((i + 1 : Nat) : Int) = (i : Int) + 1 by omega, Int.mul_add, Int.mul_one]
    rw [e]
    simp only [Bs]
    split <;> split <;> split <;> omega
theorem map_sum_nonneg (l : List Int) (f : Int → Int) (h : ∀ x, 0 ≤ f x) : 0 ≤ (l.map f).sum := by
  induction l with
  | nil => simp
  | cons y ys ih => rw [List.map_cons, List.sum_cons]; have := h y; omega
theorem map_get_le (l : List Int) (f : Int → Int) (h : ∀ x, 0 ≤ f x) (i : Nat) (hi : i < l.length) : f (l.getD i 0) ≤ (l.map f).sum := by
  induction l generalizing i with
  | nil => exact absurd hi (by simp)
  | cons y ys ih =>
    rw [List.map_cons, List.sum_cons]
    cases i with
    | zero => have := map_sum_nonneg ys f h; simp; omega
    | succ i => have := ih i (by simpa using hi); have := h y; simp at *; omega
/-- What a row hands on: even, but for so much. -/
def even (c : List Int) (T : Int) : Prop := c.length = 32 ∧ (c.map (fun z => up z 69)).sum ≤ T ∧ (c.map (fun z => up (-z) 72)).sum ≤ T
theorem even_get {c : List Int} {T : Int} (h : even c T) (i : Nat) (hi : i < 32) : c.getD i 0 ≤ 69 + T ∧ -(c.getD i 0) ≤ 72 + T := by
  have h1 := map_get_le c (fun z => up z 69) (fun x => up_nonneg x 69) i (by have := h.1; omega)
  have h2 := map_get_le c (fun z => up (-z) 72) (fun x => up_nonneg (-x) 72) i (by have := h.1; omega)
  have h3 := up_le (c.getD i 0) 69
  have h4 := up_le (-(c.getD i 0)) 72
  have := h.2.1
  have := h.2.2
  omega
theorem drow_small {v c : List Int} {T : Int} (hv : v.length = 32) (hb : ∀ j, 0 ≤ v.getD j 0 ∧ v.getD j 0 ≤ 255) (hT : T ≤ 10000) (h : even c T) (i : Nat) (hi : i ≤ 32) :
    -20000 ≤ (drow v c i).1 ∧ (drow v c i).1 ≤ 20000 ∧ ∀ x, x < 32 → -20000 ≤ (drow v c i).2.2.getD x 0 ∧ (drow v c i).2.2.getD x 0 ≤ 20000 := by
  obtain ⟨X, x1, x2, x3, x4⟩ := drow_up v c hv h.1 (fun j => (hb j).2) i hi
  obtain ⟨Y, y1, y2, y3, y4⟩ := drow_down v c hv h.1 (fun j => (hb j).1) i hi
  have xs := sum_nonneg X (fun i _ => x2 i)
  have ys := sum_nonneg Y (fun i _ => y2 i)
  have m1 := map_sum_nonneg (c.drop i) (fun z => up z 69) (fun x => up_nonneg x 69)
  have m2 := map_sum_nonneg (c.drop i) (fun z => up (-z) 72) (fun x => up_nonneg (-x) 72)
  have p1 := up_le (drow v c i).1 58
  have p2 := up_le (-(drow v c i).1) 55
  have p3 := up_nonneg (drow v c i).1 58
  have p4 := up_nonneg (-(drow v c i).1) 55
  have := h.2.1
  have := h.2.2
  refine ⟨by omega, by omega, fun x hx => ?_⟩
  have b1 := (bs_le 23 39 7 (by omega) (by omega) (by omega) i x).2
  have b2 := (bs_le 24 40 8 (by omega) (by omega) (by omega) i x).2
  have := x3 x hx
  have := y3 x hx
  have := get_le_sum X (fun i _ => x2 i) x (by omega)
  have := get_le_sum Y (fun i _ => y2 i) x (by omega)
  omega
theorem dcarry_even {v c : List Int} {T : Int} (hv : v.length = 32) (hb : ∀ j, 0 ≤ v.getD j 0 ∧ v.getD j 0 ≤ 255) (h : even c T) : even (dcarry v c) (T + 154) ∧ (dcarry v c).sum = v.sum + c.sum - 255 * (dbits v c).sum := by
  obtain ⟨h1, h2, h3, h4, h5⟩ := drow_plain v c hv h.1 32 (Nat.le_refl _)
  obtain ⟨X, x1, x2, x3, x4⟩ := drow_up v c hv h.1 (fun j => (hb j).2) 32 (Nat.le_refl _)
  obtain ⟨Y, y1, y2, y3, y4⟩ := drow_down v c hv h.1 (fun j => (hb j).1) 32 (Nat.le_refl _)
  have hc := h.1
  rw [List.drop_of_length_le (by omega), List.map_nil] at x4 y4
  have e0 : ([] : List Int).sum = 0 := rfl
  rw [e0] at x4 y4
  have hl : (dcarry v c).length = 32 := by unfold dcarry; rw [bump_len]; exact h2
  have hg : ∀ x, (dcarry v c).getD x 0 = (drow v c 32).2.2.getD x 0 + if x = 31 then (drow v c 32).1 else 0 := fun x => bump_get _ 31 _ x (by omega)
  have p1 := up_le (drow v c 32).1 58
  have p2 := up_le (-(drow v c 32).1) 55
  have p3 := up_nonneg (drow v c 32).1 58
  have p4 := up_nonneg (-(drow v c 32).1) 55
  have mg : ∀ (f : Int → Int) (x : Nat), x < 32 → ((dcarry v c).map f).getD x 0 = f ((dcarry v c).getD x 0) := by
    intro f x hx
    simp [List.getD, List.getElem?_map, List.getElem?_eq_getElem (show x < (dcarry v c).length by omega)]
  refine ⟨⟨hl, ?_, ?_⟩, ?_⟩
  · have s := sum_le ((dcarry v c).map (fun z => up z 69)) (bump (bump X 0 16) 31 (42 + up (drow v c 32).1 58)) (by rw [List.length_map, bump_len, bump_len]; omega) (fun x hx => by
      rw [List.length_map] at hx
      rw [mg _ x (by omega), hg, bump_get _ _ _ _ (by rw [bump_len]; omega), bump_get _ _ _ _ (by omega)]
      have a1 := x3 x (by omega)
      have a2 := bs_up x (by omega)
      have a3 := x2 x
      show up ((drow v c 32).2.2.getD x 0 + if x = 31 then (drow v c 32).1 else 0) 69 ≤ _
      unfold up at *
      by_cases e : x = 0
      · subst e
        simp only [if_true] at a2 ⊢
        rw [if_neg (by omega)] at a2 ⊢
        rw [if_neg (by omega)]
        omega
      · rw [if_neg e] at a2 ⊢
        by_cases e2 : x = 31
        · simp only [if_pos e2] at a2 ⊢
          omega
        · simp only [if_neg e2] at a2 ⊢
          omega)
    rw [bump_sum _ _ _ (by rw [bump_len]; omega), bump_sum _ _ _ (by omega)] at s
    have := h.2.1
    omega
  · have s := sum_le ((dcarry v c).map (fun z => up (-z) 72)) (bump (bump Y 0 16) 31 (39 + up (-(drow v c 32).1) 55)) (by rw [List.length_map, bump_len, bump_len]; omega) (fun x hx => by
      rw [List.length_map] at hx
      rw [mg _ x (by omega), hg, bump_get _ _ _ _ (by rw [bump_len]; omega), bump_get _ _ _ _ (by omega)]
      have a1 := y3 x (by omega)
      have a2 := bs_down x (by omega)
      have a3 := y2 x
      show up (-((drow v c 32).2.2.getD x 0 + if x = 31 then (drow v c 32).1 else 0)) 72 ≤ _
      unfold up at *
      by_cases e : x = 0
      · subst e
        simp only [if_true] at a2 ⊢
        rw [if_neg (by omega)] at a2 ⊢
        rw [if_neg (by omega)]
        omega
      · rw [if_neg e] at a2 ⊢
        by_cases e2 : x = 31
        · simp only [if_pos e2] at a2 ⊢
          omega
        · simp only [if_neg e2] at a2 ⊢
          omega)
    rw [bump_sum _ _ _ (by rw [bump_len]; omega), bump_sum _ _ _ (by omega)] at s
    have := h.2.2
    omega
  · unfold dcarry dbits
    rw [bump_sum _ _ _ (by omega)]
    rw [List.take_of_length_le (by omega), List.take_of_length_le (by omega)] at h5
    omega
theorem down16 (x : Int) (h0 : -1000000000 ≤ x) (h1 : x ≤ 1000000000) : impl_down.f x 16 = some (x / 16) := by
  unfold impl_down.f
  have hm := Int.tmod_def x 16
  have hd : (0 ≤ x ∧ Int.tdiv x 16 = x / 16) ∨ (x < 0 ∧ Int.tdiv x 16 = -((-x) / 16)) := by
    by_cases h : 0 ≤ x
    · exact .inl ⟨h, Int.tdiv_eq_ediv_of_nonneg h⟩
    · refine .inr ⟨by omega, ?_⟩
      have e := Int.neg_tdiv (a := -x) (b := 16)
      have e2 : (-x).tdiv 16 = (-x) / 16 := Int.tdiv_eq_ediv_of_nonneg (by omega)
      rw [Int.neg_neg, e2] at e
      exact e
  rw [if_neg (by omega), hm]
  generalize Int.tdiv x 16 = d at *
  rw [Loops.wrap_in (x := d) (by omega) (by omega), Loops.wrap_in (x := d - 1) (by omega) (by omega)]
  have e16 : decide ((16 : Int) < 0) = false := by decide
  rw [e16]
  rcases hd with ⟨h, e⟩ | ⟨h, e⟩
  · rw [decide_eq_false (show ¬ x < 0 by omega)]
    split
    · congr 1
    · simp
      exact e
  · rw [decide_eq_true h]
    split
    · congr 1; omega
    · simp
      omega
theorem rd_get (l : List Int) (i : Nat) : rd l (i : Int) = l.getD i 0 := Loops.rd_nat l i
theorem mx_prev (i : Nat) (h : i < 32) : mx 0 (wrap64 ((i : Int) - 1)) = ((i - 1 : Nat) : Int) := by
  rw [Loops.wrap_in (x := (i : Int) - 1) (by omega) (by omega)]
  unfold mx
  split <;> omega
theorem mn_next (i : Nat) (h : i < 32) : mn 31 (wrap64 ((i : Int) + 1)) = ((min 31 (i + 1) : Nat) : Int) := by
  rw [Loops.wrap_in (x := (i : Int) + 1) (by omega) (by omega)]
  unfold mn
  split <;> omega
theorem bump_wrap (D : List Int) (j : Nat) (a : Int) (h0 : -1000000 ≤ D.getD j 0) (h1 : D.getD j 0 ≤ 1000000) (h2 : -1000000 ≤ a) (h3 : a ≤ 1000000) : D.set ((j : Nat) : Int).toNat (wrap64 (rd D ((j : Nat) : Int) + a)) = bump D j a := by
  rw [rd_get, Loops.wrap_in (by omega) (by omega), Int.toNat_natCast]
  rfl
theorem drow_loop {v c : List Int} {T : Int} (hv : v.length = 32) (hb : ∀ j, 0 ≤ v.getD j 0 ∧ v.getD j 0 ≤ 255) (hT0 : 0 ≤ T) (hT : T ≤ 10000) (h : even c T) (k : Nat) (i : Nat) (hi : i < 32) :
    impl_DiffuseRow.l0 (k + 1) c (drow v c i).1 v 32 (i : Int) (drow v c i).2.1 (drow v c i).2.2 = impl_DiffuseRow.l0 k c (drow v c (i + 1)).1 v 32 ((i + 1 : Nat) : Int) (drow v c (i + 1)).2.1 (drow v c (i + 1)).2.2 := by
  obtain ⟨h1, h2, h3, h4, h5⟩ := drow_plain v c hv h.1 i (by omega)
  obtain ⟨s1, s2, s3⟩ := drow_small hv hb hT h i (by omega)
  have hc := even_get h i hi
  have hcl := h.1
  simp only [drow]
  generalize (drow v c i).1 = p at *
  generalize (drow v c i).2.1 = b at *
  generalize (drow v c i).2.2 = D at *
  have hvi := hb i
  have key : ∀ (r : Int) (b' : List Int), -100000 ≤ r → r ≤ 100000 →
      (impl_down.f (wrap64 (3 * r)) 16).bind (fun t212 => (impl_down.f (wrap64 (5 * r)) 16).bind fun t213 => (impl_down.f r 16).bind fun t214 => (if 0 ≤ (mx 0 (wrap64 ((i : Int) - 1))) then (if (mx 0 (wrap64 ((i : Int) - 1))) < (D.length : Int) then ((some (D.set ((mx 0 (wrap64 ((i : Int) - 1))) : Int).toNat (wrap64 ((rd D (mx 0 (wrap64 ((i : Int) - 1)))) + t212)) : List Int)).bind fun y216 => (if (i : Int) < (D.length : Int) then ((some (y216.set ((i : Int) : Int).toNat (wrap64 ((rd y216 (i : Int)) + t213)) : List Int)).bind fun y218 => (if 0 ≤ (mn 31 (wrap64 ((i : Int) + 1))) then (if (mn 31 (wrap64 ((i : Int) + 1))) < (D.length : Int) then (impl_DiffuseRow.l0 k c (wrap64 ((wrap64 ((wrap64 (r - t212)) - t213)) - t214)) v 32 (wrap64 ((i : Int) + 1)) b' (y218.set ((mn 31 (wrap64 ((i : Int) + 1))) : Int).toNat (wrap64 ((rd y218 (mn 31 (wrap64 ((i : Int) + 1)))) + t214)))) else (none)) else (none))) else (none))) else (none)) else (none))) =
      impl_DiffuseRow.l0 k c (r - 3 * r / 16 - 5 * r / 16 - r / 16) v 32 ((i + 1 : Nat) : Int) b' (bump (bump (bump D (i - 1) (3 * r / 16)) i (5 * r / 16)) (min 31 (i + 1)) (r / 16)) := by
    intro r b' r0 r1
    rw [Loops.wrap_in (x := 3 * r) (by omega) (by omega), Loops.wrap_in (x := 5 * r) (by omega) (by omega), down16 (3 * r) (by omega) (by omega), down16 (5 * r) (by omega) (by omega), down16 r (by omega) (by omega)]
    simp only [Option.bind_some, mx_prev i hi, mn_next i hi]
    rw [if_pos (by omega), if_pos (by omega), if_pos (by omega), if_pos (by omega), if_pos (by omega)]
    have d1 := s3 (i - 1) (by omega)
    have e1 := bump_wrap D (i - 1) (3 * r / 16) (by omega) (by omega) (by omega) (by omega)
    have g1 := bump_get D (i - 1) (3 * r / 16) i (by omega)
    have d2 := s3 i hi
    have b1 : -100000 ≤ (bump D (i - 1) (3 * r / 16)).getD i 0 ∧ (bump D (i - 1) (3 * r / 16)).getD i 0 ≤ 100000 := by rw [g1]; split <;> omega
    have e2 := bump_wrap (bump D (i - 1) (3 * r / 16)) i (5 * r / 16) (by omega) (by omega) (by omega) (by omega)
    have g2 := bump_get (bump D (i - 1) (3 * r / 16)) i (5 * r / 16) (min 31 (i + 1)) (by rw [bump_len]; omega)
    have g3 := bump_get D (i - 1) (3 * r / 16) (min 31 (i + 1)) (by omega)
    have d3 := s3 (min 31 (i + 1)) (by omega)
    have b2 : -200000 ≤ (bump (bump D (i - 1) (3 * r / 16)) i (5 * r / 16)).getD (min 31 (i + 1)) 0 ∧ (bump (bump D (i - 1) (3 * r / 16)) i (5 * r / 16)).getD (min 31 (i + 1)) 0 ≤ 200000 := by
      rw [g2, g3]; split <;> split <;> omega
    have e3 := bump_wrap (bump (bump D (i - 1) (3 * r / 16)) i (5 * r / 16)) (min 31 (i + 1)) (r / 16) (by omega) (by omega) (by omega) (by omega)
    rw [e1, e2, e3, Loops.wrap_in (x := r - 3 * r / 16) (by omega) (by omega), Loops.wrap_in (x := r - 3 * r / 16 - 5 * r / 16) (by omega) (by omega), Loops.wrap_in (x := r - 3 * r / 16 - 5 * r / 16 - r / 16) (by omega) (by omega), Loops.wrap_succ hi (by omega)]
  rw [impl_DiffuseRow.l0]
  rw [if_pos (by omega), if_pos (by omega), if_pos (by omega), if_pos (by omega)]
  simp only [rd_get v i, rd_get c i, Loops.wrap_in (x := v.getD i 0 + c.getD i 0) (by omega) (by omega), Loops.wrap_in (x := v.getD i 0 + c.getD i 0 + p) (by omega) (by omega)]
  unfold dpix
  by_cases ht : v.getD i 0 + c.getD i 0 + p ≥ 128
  · rw [if_pos ht, if_pos ht, if_pos (by omega), Loops.wrap_in (x := v.getD i 0 + c.getD i 0 + p - 255) (by omega) (by omega), Int.toNat_natCast]
    exact key _ _ (by omega) (by omega)
  · rw [if_neg ht, if_neg ht]
    exact key _ _ (by omega) (by omega)
theorem within_eq (a b c : Int) : impl_within.f a b c = some (decide (b ≤ a ∧ a ≤ c)) := by
  unfold impl_within.f
  by_cases h : a ≥ b
  · rw [if_pos h]; congr 1; simp; omega
  · rw [if_neg h]; congr 1; simp; omega
def bytes (r : List Int) : Bool := r.all fun v => decide (0 ≤ v ∧ v ≤ 255)
def rowOk (r : List Int) : Bool := bytes r && decide ((r.length : Int) = 32)
def rowsOk (l : List (List Int)) : Bool := l.all rowOk && decide ((l.length : Int) ≤ 32)
theorem irow_eq (r : List Int) (hr : r.length ≤ 1048576) : Ev (fun k => impl_rowOk.f k r) (rowOk r) := by
  unfold impl_rowOk.f rowOk
  by_cases h : (r.length : Int) = 32
  · simp only [if_pos h, decide_eq_true h]
    unfold bytes
    exact Loops.all_loop (G := fun k i => impl_rowOk.l0 k r (r.length : Int) i) r 0 _ (fun x k => impl_within.f x 0 255) (by omega) (fun x _ => Loops.Ev.const (within_eq x 0 255)) (fun k i hi => by
      simp only [impl_rowOk.l0]
      rw [if_pos (by omega), if_pos (by omega), if_pos (by omega), Loops.rd_nat]) (Loops.Ev.one (fun k => by
      simp only [impl_rowOk.l0]
      rw [if_neg (by omega)]))
  · simp only [if_neg h, decide_eq_false h, Bool.and_false]
    exact Ev.now _
theorem irows_eq (l : List (List Int)) (hl : l.length ≤ 1048576) (hr : ∀ x ∈ l, x.length ≤ 1048576) : Ev (fun k => impl_RowsOk.f k l) (rowsOk l) := by
  unfold impl_RowsOk.f rowsOk
  by_cases h : (l.length : Int) > 32
  · simp only [if_pos h, decide_eq_false (show ¬ (l.length : Int) ≤ 32 by omega), Bool.and_false]
    exact Ev.now _
  · simp only [if_neg h, decide_eq_true (show (l.length : Int) ≤ 32 by omega)]
    exact Loops.all_loop (G := fun k i => impl_RowsOk.l0 k l (l.length : Int) i) l [] rowOk (fun x k => impl_rowOk.f k x) (by omega) (fun x hx => irow_eq x (hr x hx)) (fun k i hi => by
      simp only [impl_RowsOk.l0]
      rw [if_pos (by omega), if_pos (by omega), if_pos (by omega), rdL1]) (Loops.Ev.one (fun k => by
      simp only [impl_RowsOk.l0]
      rw [if_neg (by omega)]))
theorem icarry_eq (c : List Int) (T : Int) (hT : T ≤ 10000) (h : even c T) : Ev (fun k => impl_CarryOk.f k c) true := by
  unfold impl_CarryOk.f
  have hl := h.1
  simp only [if_pos (show (c.length : Int) = 32 by omega)]
  have key := Loops.all_loop (G := fun k i => impl_CarryOk.l0 k c (c.length : Int) i) (r := true) c 0 (fun x => decide (-20000 ≤ x ∧ x ≤ 20000)) (fun x k => impl_within.f x (-20000) 20000) (by omega) (fun x _ => Loops.Ev.const (within_eq x (-20000) 20000)) (fun k i hi => by
    simp only [impl_CarryOk.l0]
    rw [if_pos (by omega), if_pos (by omega), if_pos (by omega), Loops.rd_nat]) (Loops.Ev.one (fun k => by
    simp only [impl_CarryOk.l0]
    rw [if_neg (by omega)]))
  refine Loops.Ev.eq key ?_
  rw [Bool.and_true, List.all_eq_true]
  intro x hx
  obtain ⟨i, hi, rfl⟩ := List.getElem_of_mem hx
  have := even_get h i (by omega)
  simp only [List.getD, List.getElem?_eq_getElem hi, Option.getD_some] at this
  exact decide_eq_true (by omega)
/-- A row of a page. -/
def pageRow (v : List Int) : Prop := v.length = 32 ∧ ∀ j, 0 ≤ v.getD j 0 ∧ v.getD j 0 ≤ 255
theorem pageRow_of {v : List Int} (h : v.length = 32) (hb : ∀ x ∈ v, 0 ≤ x ∧ x ≤ 255) : pageRow v := by
  refine ⟨h, fun j => ?_⟩
  by_cases hj : j < v.length
  · simp only [List.getD, List.getElem?_eq_getElem hj, Option.getD_some]
    exact hb _ (List.getElem_mem hj)
  · simp only [List.getD, List.getElem?_eq_none (show v.length ≤ j by omega), Option.getD_none]
    omega
theorem pageRow_mem {v : List Int} (h : pageRow v) : ∀ x ∈ v, 0 ≤ x ∧ x ≤ 255 := by
  intro x hx
  obtain ⟨i, hi, rfl⟩ := List.getElem_of_mem hx
  have := h.2 i
  simpa only [List.getD, List.getElem?_eq_getElem hi, Option.getD_some] using this
theorem pageRow_ok {v : List Int} (h : pageRow v) : rowOk v = true := by
  have := h.1
  simp only [rowOk, bytes, Bool.and_eq_true, List.all_eq_true, decide_eq_true_eq]
  exact ⟨fun x hx => pageRow_mem h x hx, by omega⟩
theorem irowd_eq (v c : List Int) (T : Int) (hT0 : 0 ≤ T) (hT : T ≤ 10000) (hv : pageRow v) (h : even c T) : Ev (fun k => impl_DiffuseRow.f k v c) (dbits v c, dcarry v c, true) := by
  unfold impl_DiffuseRow.f
  refine Ev.bind (icarry_eq c T hT h) ?_
  simp only [if_true]
  refine Ev.bind (irow_eq v (by have := hv.1; omega)) ?_
  rw [pageRow_ok hv]
  refine Loops.Ev.succ ?_
  simp only [impl_DiffuseRow.j0, Bool.not_true, Bool.false_eq_true, if_false]
  simp only [if_pos (show (32 : Nat) ≤ 35184372088832 by omega)]
  have hvl := hv.1
  have hl : (v.length : Int) = 32 := by omega
  rw [hl]
  have key := Loops.up_loop (G := fun k i (s : Int × List Int × List Int) => impl_DiffuseRow.l0 k c s.1 v 32 i s.2.1 s.2.2) (r := (dbits v c, dcarry v c, true)) (drow v c) 32 (fun k i hi => drow_loop hvl hv.2 hT0 hT h k i hi) (Loops.Ev.one (fun k => by
    obtain ⟨h1, h2, _⟩ := drow_plain v c hvl h.1 32 (Nat.le_refl _)
    obtain ⟨s1, s2, s3⟩ := drow_small hvl hv.2 hT h 32 (Nat.le_refl _)
    have d := s3 31 (by omega)
    simp only [impl_DiffuseRow.l0]
    rw [if_neg (by omega), if_pos (by omega)]
    unfold dbits dcarry
    have e := bump_wrap (drow v c 32).2.2 31 (drow v c 32).1 (by omega) (by omega) (by omega) (by omega)
    rw [← e]
    rfl))
  exact key
def drows : List (List Int) → List Int → List (List Int) × List Int
  | [], c => ([], c)
  | v :: vs, c => (dbits v c :: (drows vs (dcarry v c)).1, (drows vs (dcarry v c)).2)
theorem irowsd_all (rows : List (List Int)) (hr : ∀ v ∈ rows, pageRow v) (hl : rows.length ≤ 32) : ∀ (m i : Nat), i + m = rows.length → ∀ (c : List Int) (out : List (List Int)), even c (154 * (i : Int)) → out.length = i →
    Ev (fun k => impl_DiffuseRows.l0 k c out rows (rows.length : Int) (i : Int)) (out ++ (drows (rows.drop i) c).1, (drows (rows.drop i) c).2, true) := by
  intro m
  induction m with
  | zero =>
    intro i hi c out hc ho
    obtain rfl : i = rows.length := by omega
    rw [List.drop_length]
    refine Loops.Ev.one (fun k => ?_)
    simp only [impl_DiffuseRows.l0]
    rw [if_neg (by omega)]
    simp [drows]
  | succ m ih =>
    intro i hi c out hc ho
    have hm := hr _ (Loops.getD_mem rows [] i (by omega))
    rw [Loops.drop_cons_getD rows [] i (by omega)]
    refine Loops.Ev.succ ?_
    simp only [impl_DiffuseRows.l0, if_pos (show (i : Int) < (rows.length : Int) by omega), if_pos (show (0 : Int) ≤ (i : Int) by omega), rdL1]
    refine Ev.bind (irowd_eq _ c _ (by omega) (by omega) hm hc) ?_
    simp only [if_true, if_pos (show out.length < 5864062014805 by omega)]
    rw [Loops.wrap_succ (show i < rows.length by omega) (by omega)]
    have he := (dcarry_even hm.1 hm.2 hc).1
    have key := ih (i + 1) (by omega) (dcarry (rows.getD i []) c) (out ++ [dbits (rows.getD i []) c]) (by
      have e : 154 * ((i + 1 : Nat) : Int) = 154 * (i : Int) + 154 := by omega
      rw [e]
      exact he) (by simp; omega)
    simp only [drows]
    rw [List.append_assoc] at key
    exact key
theorem even_zero : even (List.replicate 32 0) 0 := by
  refine ⟨rfl, ?_, ?_⟩ <;> decide +kernel
theorem clone_eq (l : List Int) (hl : l.length ≤ 1048576) : slices_Clone_int_int.f l = some l := by
  unfold slices_Clone_int_int.f
  simp only [Option.bind_some, List.length_nil, List.nil_append]
  rw [if_pos (by omega)]
theorem irowsd_eq (rows : List (List Int)) (hr : ∀ v ∈ rows, pageRow v) (hl : rows.length ≤ 32) : Ev (fun k => impl_DiffuseRows.f k rows (List.replicate 32 0)) ((drows rows (List.replicate 32 0)).1, (drows rows (List.replicate 32 0)).2, true) := by
  unfold impl_DiffuseRows.f
  rw [clone_eq _ (by simp)]
  simp only [Option.bind_some]
  have key := irowsd_all rows hr hl rows.length 0 (by omega) (List.replicate 32 0) [] even_zero rfl
  rw [List.drop_zero, List.nil_append] at key
  exact key
def invRow (v : List Int) : List Int := v.map fun x => 255 - x
theorem inv_page {v : List Int} (h : pageRow v) : pageRow (invRow v) := by
  refine pageRow_of (by simp [invRow, h.1]) fun x hx => ?_
  obtain ⟨y, hy, rfl⟩ := List.mem_map.1 hx
  have := pageRow_mem h y hy
  omega
theorem mid_get {α : Type} (A B : List α) (x d : α) (i : Nat) (h : A.length = i) : (A ++ x :: B).getD i d = x := by
  subst h
  simp [List.getD]
theorem mid_set {α : Type} (A B : List α) (x y : α) (i : Nat) (h : A.length = i) : (A ++ x :: B).set i y = A ++ y :: B := by
  subst h
  simp
theorem inv_loop (scr : Bool) (A B : List (List Int)) (v : List Int) (i n : Nat) (hA : A.length = i) (hn : A.length + 1 + B.length = n) (hn2 : n ≤ 1048576) (hv : pageRow v) {r : List (List Int) × Bool}
    (next : Ev (fun k => impl_HalftonePage.l0 k scr (A ++ invRow v :: B) (n : Int) ((i + 1 : Nat) : Int)) r) : Ev (fun k => impl_HalftonePage.l1 k scr (A ++ v :: B) (i : Int) (n : Int) (i : Int) 32 0) r := by
  have hvl := hv.1
  have key := Loops.up_loop (G := fun k j (s : List Int) => impl_HalftonePage.l1 k scr (A ++ s :: B) (i : Int) (n : Int) (i : Int) 32 j) (r := r) (fun j => (v.take j).map (fun x => 255 - x) ++ v.drop j) 32 (fun k j hj => by
    have hlen : ((v.take j).map (fun x => 255 - x) ++ v.drop j).length = 32 := by simp; omega
    have hg : ((v.take j).map (fun x => 255 - x) ++ v.drop j).getD j 0 = v.getD j 0 := by
      rw [Loops.drop_cons_getD v 0 j (by omega)]
      exact mid_get _ _ _ _ _ (by simp; omega)
    have hb := hv.2 j
    rw [impl_HalftonePage.l1]
    have hr : rd_L1 (A ++ ((v.take j).map (fun x => 255 - x) ++ v.drop j) :: B) (i : Int) = (v.take j).map (fun x => 255 - x) ++ v.drop j := by
      rw [rdL1]; exact mid_get _ _ _ _ _ hA
    rw [hr, rd_get, hg, hlen, if_pos (by omega), if_pos (by omega), if_pos (by simp; omega), if_pos (by omega), if_pos (by omega), Loops.wrap_in (x := 255 - v.getD j 0) (by omega) (by omega), Loops.wrap_succ hj (by omega), Int.toNat_natCast, Int.toNat_natCast, mid_set _ _ _ _ _ hA]
    have e : ((v.take j).map (fun x => 255 - x) ++ v.drop j).set j (255 - v.getD j 0) = (v.take (j + 1)).map (fun x => 255 - x) ++ v.drop (j + 1) := by
      rw [Loops.drop_cons_getD v 0 j (by omega), mid_set _ _ _ _ _ (by simp; omega), Loops.take_one_more v 0 j (by omega), List.map_append, List.append_assoc]
      rfl
    rw [e]) (Loops.Ev.succ (by
    simp only [impl_HalftonePage.l1]
    simp only [if_neg (show ¬ (((32 : Nat) : Int)) < 32 by omega)]
    rw [Loops.wrap_in (x := (i : Int) + 1) (by omega) (by omega)]
    have e2 : (v.take 32).map (fun x => 255 - x) ++ v.drop 32 = invRow v := by
      rw [List.take_of_length_le (by omega), List.drop_of_length_le (by omega), List.append_nil]
      rfl
    rw [e2]
    exact next))
  simpa using key
theorem inv_all (scr : Bool) (rows : List (List Int)) (hr : ∀ v ∈ rows, pageRow v) (hl : rows.length ≤ 32) {r : List (List Int) × Bool} (fin : Ev (fun k => impl_HalftonePage.l0 k scr (rows.map invRow) (rows.length : Int) (rows.length : Int)) r) :
    ∀ (m i : Nat), i + m = rows.length → Ev (fun k => impl_HalftonePage.l0 k scr ((rows.take i).map invRow ++ rows.drop i) (rows.length : Int) (i : Int)) r := by
  intro m
  induction m with
  | zero =>
    intro i hi
    obtain rfl : i = rows.length := by omega
    rw [List.take_length, List.drop_length, List.append_nil]
    exact fin
  | succ m ih =>
    intro i hi
    have hm := hr _ (Loops.getD_mem rows [] i (by omega))
    rw [Loops.drop_cons_getD rows [] i (by omega)]
    refine Loops.Ev.succ ?_
    have hlen : ((rows.take i).map invRow).length = i := by simp; omega
    have hr2 : rd_L1 ((rows.take i).map invRow ++ rows.getD i [] :: rows.drop (i + 1)) (i : Int) = rows.getD i [] := by rw [rdL1]; exact mid_get _ _ _ _ _ hlen
    simp only [impl_HalftonePage.l0, if_pos (show (i : Int) < (rows.length : Int) by omega), if_pos (show (0 : Int) ≤ (i : Int) by omega), hr2]
    simp only [if_pos (show (i : Int) < (((rows.take i).map invRow ++ rows.getD i [] :: rows.drop (i + 1)).length : Int) by simp; omega)]
    have h32 : ((rows.getD i []).length : Int) = 32 := by have := hm.1; omega
    rw [h32]
    refine inv_loop scr _ _ _ i rows.length hlen (by simp; omega) (by omega) hm ?_
    have key := ih (i + 1) (by omega)
    rw [Loops.take_one_more rows [] i (by omega), List.map_append, List.append_assoc] at key
    exact key
theorem icopy_eq (rows : List (List Int)) (hr : ∀ v ∈ rows, pageRow v) (hl : rows.length ≤ 32) : Ev (fun k => impl_copyRows.f k rows) rows := by
  unfold impl_copyRows.f
  have key := Loops.up_loop (G := fun k i (s : List (List Int)) => impl_copyRows.l0 k s rows (rows.length : Int) i) (r := rows) (fun i => rows.take i) rows.length (fun k i hi => by
    have hm := hr _ (Loops.getD_mem rows [] i hi)
    rw [impl_copyRows.l0]
    rw [if_pos (by omega), if_pos (by omega), if_pos (by omega), rdL1, clone_eq _ (by have := hm.1; omega)]
    simp only [Option.bind_some]
    rw [if_pos (by simp; omega), Loops.wrap_succ hi (by omega), Loops.take_one_more rows [] i hi]) (Loops.Ev.one (fun k => by
    simp only [impl_copyRows.l0]
    rw [if_neg (by omega), List.take_length]))
  simpa using key
theorem rows_ok (rows : List (List Int)) (hr : ∀ v ∈ rows, pageRow v) (hl : rows.length ≤ 32) : rowsOk rows = true := by
  simp only [rowsOk, Bool.and_eq_true, List.all_eq_true, decide_eq_true_eq]
  exact ⟨fun v hv => pageRow_ok (hr v hv), by omega⟩
theorem ihalf_false (rows : List (List Int)) (hr : ∀ v ∈ rows, pageRow v) (hl : rows.length ≤ 32) : Ev (fun k => impl_HalftonePage.f k rows false) ((drows (rows.map invRow) (List.replicate 32 0)).1, true) := by
  unfold impl_HalftonePage.f
  refine Ev.bind (irows_eq rows (by omega) (fun v hv => by have := (hr v hv).1; omega)) ?_
  rw [rows_ok rows hr hl]
  simp only [if_true]
  refine Ev.bind (icopy_eq rows hr hl) ?_
  have key := inv_all false rows hr hl (r := ((drows (rows.map invRow) (List.replicate 32 0)).1, true)) (by
    refine Loops.Ev.succ ?_
    simp only [impl_HalftonePage.l0, if_neg (show ¬ (rows.length : Int) < (rows.length : Int) by omega), Bool.false_eq_true, if_false]
    have e : impl_NoCarry.f = some (List.replicate 32 0) := by unfold impl_NoCarry.f; rw [if_pos (by omega)]
    simp only [e, Option.bind_some]
    exact Ev.bind (irowsd_eq (rows.map invRow) (fun v hv => by
      obtain ⟨u, hu, rfl⟩ := List.mem_map.1 hv
      exact inv_page (hr u hu)) (by simpa using hl)) (Ev.now _)) rows.length 0 (by omega)
  simpa using key
def dotAt (v x y : Int) : Int := if v ≤ 16 * impl_ThresholdAt.tab.getD (Int.tmod y 4 * 4 + Int.tmod x 4).toNat 0 + 8 then 0 else 1
theorem idot_eq (v x y : Int) (hx : 0 ≤ x) (hy : 0 ≤ y) : impl_ScreenDot.f v x y = some (dotAt v x y) := by
  unfold impl_ScreenDot.f dotAt
  rw [if_neg (by omega), if_neg (by omega)]
  unfold impl_ThresholdAt.f
  rw [if_neg (by omega), if_neg (by omega)]
  simp only [Option.bind_some]
  split <;> rfl
def scrRow (v : List Int) (y : Nat) : List Int := (List.range v.length).map fun x => dotAt (v.getD x 0) (x : Int) (y : Int)
theorem iscr_eq (v : List Int) (y : Nat) (hv : v.length ≤ 1048576) : Ev (fun k => impl_ScreenRow.f k v (y : Int)) (scrRow v y) := by
  unfold impl_ScreenRow.f scrRow
  have key := Loops.up_loop (G := fun k i (s : List Int) => impl_ScreenRow.l0 k (y : Int) s v (v.length : Int) i) (r := (List.range v.length).map fun x => dotAt (v.getD x 0) (x : Int) (y : Int)) (fun i => (List.range i).map fun x => dotAt (v.getD x 0) (x : Int) (y : Int)) v.length (fun k i hi => by
    rw [impl_ScreenRow.l0]
    rw [if_pos (by omega), if_pos (by omega), if_pos (by omega), rd_get, idot_eq _ _ _ (by omega) (by omega)]
    simp only [Option.bind_some]
    rw [if_pos (by simp; omega), Loops.wrap_succ hi (by omega), List.range_succ, List.map_append]
    rfl) (Loops.Ev.one (fun k => by
    simp only [impl_ScreenRow.l0]
    rw [if_neg (by omega)]))
  simpa using key
def scrRows (rows : List (List Int)) : List (List Int) := (List.range rows.length).map fun y => scrRow (rows.getD y []) y
theorem ihalf_true (rows : List (List Int)) (hr : ∀ v ∈ rows, pageRow v) (hl : rows.length ≤ 32) : Ev (fun k => impl_HalftonePage.f k rows true) (scrRows (rows.map invRow), true) := by
  unfold impl_HalftonePage.f
  refine Ev.bind (irows_eq rows (by omega) (fun v hv => by have := (hr v hv).1; omega)) ?_
  rw [rows_ok rows hr hl]
  simp only [if_true]
  refine Ev.bind (icopy_eq rows hr hl) ?_
  have key := inv_all true rows hr hl (r := (scrRows (rows.map invRow), true)) (by
    refine Loops.Ev.succ ?_
    simp only [impl_HalftonePage.l0, if_neg (show ¬ (rows.length : Int) < (rows.length : Int) by omega), if_true]
    have hlen : (rows.map invRow).length = rows.length := by simp
    have hm : ∀ v ∈ rows.map invRow, pageRow v := fun v hv => by
      obtain ⟨u, hu, rfl⟩ := List.mem_map.1 hv
      exact inv_page (hr u hu)
    rw [← hlen] at hl
    generalize rows.map invRow = R at hm hl ⊢
    have key2 : ∀ (m i : Nat), i + m = R.length → Ev (fun k => impl_HalftonePage.l2 k ((List.range i).map fun y => scrRow (R.getD y []) y) R (R.length : Int) (i : Int)) (scrRows R, true) := by
      intro m
      induction m with
      | zero =>
        intro i hi
        obtain rfl : i = R.length := by omega
        refine Loops.Ev.one (fun k => ?_)
        simp only [impl_HalftonePage.l2]
        rw [if_neg (by omega)]
        rfl
      | succ m ih =>
        intro i hi
        have hp := hm _ (Loops.getD_mem R [] i (by omega))
        refine Loops.Ev.succ ?_
        simp only [impl_HalftonePage.l2, if_pos (show (i : Int) < (R.length : Int) by omega), if_pos (show (0 : Int) ≤ (i : Int) by omega), rdL1]
        refine Ev.bind (iscr_eq (R.getD i []) i (by have := hp.1; omega)) ?_
        simp only [if_pos (show ((List.range i).map fun y => scrRow (R.getD y []) y).length < 5864062014805 by simp; omega)]
        rw [Loops.wrap_succ (show i < R.length by omega) (by omega)]
        have k2 := ih (i + 1) (by omega)
        rw [List.range_succ, List.map_append] at k2
        exact k2
    exact key2 R.length 0 (by omega)) rows.length 0 (by omega)
  simpa using key
theorem in_eq (a b c : Int) : spec_l01In.f a b c = some (decide (b ≤ a ∧ a ≤ c)) := by
  unfold spec_l01In.f
  by_cases h : a ≥ b
  · rw [if_pos h]; congr 1; simp; omega
  · rw [if_neg h]; congr 1; simp; omega
theorem srow_eq (r : List Int) (hr : r.length ≤ 1048576) : Ev (fun k => spec_l11Row.f k r) (rowOk r) := by
  unfold spec_l11Row.f rowOk bytes
  exact Loops.all_loop (G := fun k i => spec_l11Row.l0 k r i) r 0 _ (fun x k => spec_l01In.f x 0 255) (by omega) (fun x _ => Loops.Ev.const (in_eq x 0 255)) (fun k i hi => by
    simp only [spec_l11Row.l0]
    rw [if_pos (by omega), if_pos (by omega), Loops.rd_nat]) (Loops.Ev.one (fun k => by
    simp only [spec_l11Row.l0]
    rw [if_neg (by omega)]
    rfl))
theorem srows_eq (l : List (List Int)) (hl : l.length ≤ 1048576) (hr : ∀ x ∈ l, x.length ≤ 1048576) : Ev (fun k => spec_RowsOk.f k l) (rowsOk l) := by
  unfold spec_RowsOk.f rowsOk
  exact Loops.all_loop (G := fun k i => spec_RowsOk.l0 k l i) l [] rowOk (fun x k => spec_l11Row.f k x) (by omega) (fun x hx => srow_eq x (hr x hx)) (fun k i hi => by
    simp only [spec_RowsOk.l0]
    rw [if_pos (by omega), if_pos (by omega), rdL1]) (Loops.Ev.one (fun k => by
    simp only [spec_RowsOk.l0]
    rw [if_neg (by omega)]))
theorem scarry_eq (c : List Int) (T : Int) (hT : T ≤ 10000) (h : even c T) : Ev (fun k => spec_CarryOk.f k c) true := by
  unfold spec_CarryOk.f
  have hl := h.1
  have key := Loops.all_loop (G := fun k i => spec_CarryOk.l0 k c i) (r := true) c 0 (fun x => decide (-20000 ≤ x ∧ x ≤ 20000)) (fun x k => spec_l01In.f x (-20000) 20000) (by omega) (fun x _ => Loops.Ev.const (in_eq x (-20000) 20000)) (fun k i hi => by
    simp only [spec_CarryOk.l0]
    rw [if_pos (by omega), if_pos (by omega), Loops.rd_nat]) (Loops.Ev.one (fun k => by
    simp only [spec_CarryOk.l0]
    rw [if_neg (by omega)]
    have e : ((c.length : Int) == 32) = true := beq_iff_eq.mpr (by omega)
    rw [e]))
  refine Loops.Ev.eq key ?_
  rw [Bool.and_true, List.all_eq_true]
  intro x hx
  obtain ⟨i, hi, rfl⟩ := List.getElem_of_mem hx
  have := even_get h i (by omega)
  simp only [List.getD, List.getElem?_eq_getElem hi, Option.getD_some] at this
  exact decide_eq_true (by omega)
theorem part_eq (x n : Int) (h0 : -100000 ≤ x) (h1 : x ≤ 100000) (hn : n = 1 ∨ n = 3 ∨ n = 5) : spec_l21Part.f x n = some (n * x / 16) := by
  unfold spec_l21Part.f
  rcases hn with rfl | rfl | rfl
  · rw [Loops.wrap_in (x := x * 1) (by omega) (by omega), Loops.wrap_in (x := x * 1 + 1600000) (by omega) (by omega), Int.tdiv_eq_ediv_of_nonneg (by omega), Loops.wrap_in (x := (x * 1 + 1600000) / 16) (by omega) (by omega), Loops.wrap_in (by omega) (by omega)]
    congr 1; omega
  · rw [Loops.wrap_in (x := x * 3) (by omega) (by omega), Loops.wrap_in (x := x * 3 + 1600000) (by omega) (by omega), Int.tdiv_eq_ediv_of_nonneg (by omega), Loops.wrap_in (x := (x * 3 + 1600000) / 16) (by omega) (by omega), Loops.wrap_in (by omega) (by omega)]
    congr 1; omega
  · rw [Loops.wrap_in (x := x * 5) (by omega) (by omega), Loops.wrap_in (x := x * 5 + 1600000) (by omega) (by omega), Int.tdiv_eq_ediv_of_nonneg (by omega), Loops.wrap_in (x := (x * 5 + 1600000) / 16) (by omega) (by omega), Loops.wrap_in (by omega) (by omega)]
    congr 1; omega
theorem sdrow_loop {v c : List Int} {T : Int} (hv : v.length = 32) (hb : ∀ j, 0 ≤ v.getD j 0 ∧ v.getD j 0 ≤ 255) (hT0 : 0 ≤ T) (hT : T ≤ 10000) (h : even c T) (k : Nat) (i : Nat) (hi : i < 32) :
    spec_DiffuseRow.l0 (k + 1) v c (drow v c i).1 (i : Int) ((drow v c i).2.1.take i) (drow v c i).2.2 = spec_DiffuseRow.l0 k v c (drow v c (i + 1)).1 ((i + 1 : Nat) : Int) ((drow v c (i + 1)).2.1.take (i + 1)) (drow v c (i + 1)).2.2 := by
  obtain ⟨h1, h2, h3, h4, h5⟩ := drow_plain v c hv h.1 i (by omega)
  obtain ⟨s1, s2, s3⟩ := drow_small hv hb hT h i (by omega)
  have hc := even_get h i hi
  have hcl := h.1
  simp only [drow]
  generalize (drow v c i).1 = p at *
  generalize (drow v c i).2.1 = b at *
  generalize (drow v c i).2.2 = D at *
  have hvi := hb i
  have key : ∀ (r q : Int) (b' b2 : List Int), -100000 ≤ r → r ≤ 100000 → r = q → b' = b2 → b.take i = b.take i →
      (spec_l21Part.f r 3).bind (fun t262 => (spec_l21Part.f r 5).bind fun t263 => (spec_l21Part.f r 1).bind fun t264 => (if (b.take i).length < 17592186044416 then (if 0 ≤ (mx 0 (wrap64 ((i : Int) - 1))) then (if (mx 0 (wrap64 ((i : Int) - 1))) < (D.length : Int) then ((some (D.set ((mx 0 (wrap64 ((i : Int) - 1))) : Int).toNat (wrap64 ((rd D (mx 0 (wrap64 ((i : Int) - 1)))) + t262)) : List Int)).bind fun y269 => (if (i : Int) < (D.length : Int) then ((some (y269.set ((i : Int) : Int).toNat (wrap64 ((rd y269 (i : Int)) + t263)) : List Int)).bind fun y271 => (if 0 ≤ (mn 31 (wrap64 ((i : Int) + 1))) then (if (mn 31 (wrap64 ((i : Int) + 1))) < (D.length : Int) then (spec_DiffuseRow.l0 k v c (wrap64 ((wrap64 ((wrap64 (r - t262)) - t263)) - t264)) (wrap64 ((i : Int) + 1)) b' (y271.set ((mn 31 (wrap64 ((i : Int) + 1))) : Int).toNat (wrap64 ((rd y271 (mn 31 (wrap64 ((i : Int) + 1)))) + t264)))) else (none)) else (none))) else (none))) else (none)) else (none)) else (none))) =
      spec_DiffuseRow.l0 k v c (q - 3 * q / 16 - 5 * q / 16 - q / 16) ((i + 1 : Nat) : Int) b2 (bump (bump (bump D (i - 1) (3 * q / 16)) i (5 * q / 16)) (min 31 (i + 1)) (q / 16)) := by
    intro r q b' b2 r0 r1 hrq hbb _
    subst hrq
    subst hbb
    have e1r : (1 : Int) * r / 16 = r / 16 := by rw [Int.one_mul]
    rw [part_eq r 3 r0 r1 (by omega), part_eq r 5 r0 r1 (by omega), part_eq r 1 r0 r1 (by omega), e1r]
    simp only [Option.bind_some, mx_prev i hi, mn_next i hi]
    rw [if_pos (by simp; omega), if_pos (by omega), if_pos (by omega), if_pos (by omega), if_pos (by omega), if_pos (by omega)]
    have d1 := s3 (i - 1) (by omega)
    have e1 := bump_wrap D (i - 1) (3 * r / 16) (by omega) (by omega) (by omega) (by omega)
    have g1 := bump_get D (i - 1) (3 * r / 16) i (by omega)
    have d2 := s3 i hi
    have b1 : -100000 ≤ (bump D (i - 1) (3 * r / 16)).getD i 0 ∧ (bump D (i - 1) (3 * r / 16)).getD i 0 ≤ 100000 := by rw [g1]; split <;> omega
    have e2 := bump_wrap (bump D (i - 1) (3 * r / 16)) i (5 * r / 16) (by omega) (by omega) (by omega) (by omega)
    have g2 := bump_get (bump D (i - 1) (3 * r / 16)) i (5 * r / 16) (min 31 (i + 1)) (by rw [bump_len]; omega)
    have g3 := bump_get D (i - 1) (3 * r / 16) (min 31 (i + 1)) (by omega)
    have d3 := s3 (min 31 (i + 1)) (by omega)
    have b2' : -200000 ≤ (bump (bump D (i - 1) (3 * r / 16)) i (5 * r / 16)).getD (min 31 (i + 1)) 0 ∧ (bump (bump D (i - 1) (3 * r / 16)) i (5 * r / 16)).getD (min 31 (i + 1)) 0 ≤ 200000 := by
      rw [g2, g3]; split <;> split <;> omega
    have e3 := bump_wrap (bump (bump D (i - 1) (3 * r / 16)) i (5 * r / 16)) (min 31 (i + 1)) (r / 16) (by omega) (by omega) (by omega) (by omega)
    rw [e1, e2, e3, Loops.wrap_in (x := r - 3 * r / 16) (by omega) (by omega), Loops.wrap_in (x := r - 3 * r / 16 - 5 * r / 16) (by omega) (by omega), Loops.wrap_in (x := r - 3 * r / 16 - 5 * r / 16 - r / 16) (by omega) (by omega), Loops.wrap_succ hi (by omega)]
  rw [spec_DiffuseRow.l0]
  rw [if_pos (by omega), if_pos (by omega), if_pos (by omega), if_pos (by omega)]
  simp only [rd_get v i, rd_get c i, Loops.wrap_in (x := v.getD i 0 + c.getD i 0) (by omega) (by omega), Loops.wrap_in (x := v.getD i 0 + c.getD i 0 + p) (by omega) (by omega)]
  unfold dpix
  by_cases ht : v.getD i 0 + c.getD i 0 + p ≥ 128
  · rw [if_pos ht, if_pos ht, Loops.wrap_in (x := v.getD i 0 + c.getD i 0 + p - 255 * 1) (by omega) (by omega)]
    exact key _ _ _ _ (by omega) (by omega) (by omega) (Loops.take_set_one b i 1 (by omega)).symm rfl
  · rw [if_neg ht, if_neg ht, Loops.wrap_in (x := v.getD i 0 + c.getD i 0 + p - 255 * 0) (by omega) (by omega)]
    refine key _ _ _ _ (by omega) (by omega) (by omega) ?_ rfl
    rw [Loops.take_one_more b 0 i (by omega), h3 i (Nat.le_refl _)]
theorem srowd_eq (v c : List Int) (T : Int) (hT0 : 0 ≤ T) (hT : T ≤ 10000) (hv : pageRow v) (h : even c T) : Ev (fun k => spec_DiffuseRow.f k v c) (dbits v c, dcarry v c, true) := by
  unfold spec_DiffuseRow.f
  refine Ev.bind (scarry_eq c T hT h) ?_
  simp only [if_true]
  refine Ev.bind (srow_eq v (by have := hv.1; omega)) ?_
  rw [pageRow_ok hv]
  refine Loops.Ev.succ ?_
  simp only [spec_DiffuseRow.j0, Bool.not_true, Bool.false_eq_true, if_false]
  simp only [if_pos (show (32 : Nat) ≤ 35184372088832 by omega)]
  have hvl := hv.1
  have key := Loops.up_loop (G := fun k i (s : Int × List Int × List Int) => spec_DiffuseRow.l0 k v c s.1 i s.2.1 s.2.2) (r := (dbits v c, dcarry v c, true)) (fun i => ((drow v c i).1, (drow v c i).2.1.take i, (drow v c i).2.2)) 32 (fun k i hi => sdrow_loop hvl hv.2 hT0 hT h k i hi) (Loops.Ev.one (fun k => by
    obtain ⟨h1, h2, _⟩ := drow_plain v c hvl h.1 32 (Nat.le_refl _)
    obtain ⟨s1, s2, s3⟩ := drow_small hvl hv.2 hT h 32 (Nat.le_refl _)
    have d := s3 31 (by omega)
    simp only [spec_DiffuseRow.l0]
    rw [if_neg (by omega), if_pos (by omega)]
    unfold dbits dcarry
    have e := bump_wrap (drow v c 32).2.2 31 (drow v c 32).1 (by omega) (by omega) (by omega) (by omega)
    rw [← e, List.take_of_length_le (by omega)]
    rfl))
  exact key
theorem srowsd_all (rows : List (List Int)) (hr : ∀ v ∈ rows, pageRow v) (hl : rows.length ≤ 32) : ∀ (m i : Nat), i + m = rows.length → ∀ (c : List Int) (out : List (List Int)), even c (154 * (i : Int)) → out.length = i →
    Ev (fun k => spec_DiffuseRows.l0 k rows out c (i : Int)) (out ++ (drows (rows.drop i) c).1, (drows (rows.drop i) c).2, true) := by
  intro m
  induction m with
  | zero =>
    intro i hi c out hc ho
    obtain rfl : i = rows.length := by omega
    rw [List.drop_length]
    refine Loops.Ev.one (fun k => ?_)
    simp only [spec_DiffuseRows.l0]
    rw [if_neg (by omega)]
    simp [drows]
  | succ m ih =>
    intro i hi c out hc ho
    have hm := hr _ (Loops.getD_mem rows [] i (by omega))
    rw [Loops.drop_cons_getD rows [] i (by omega)]
    refine Loops.Ev.succ ?_
    simp only [spec_DiffuseRows.l0, if_pos (show (i : Int) < (rows.length : Int) by omega), if_pos (show (0 : Int) ≤ (i : Int) by omega), rdL1]
    refine Ev.bind (srowd_eq _ c _ (by omega) (by omega) hm hc) ?_
    simp only [if_true, if_pos (show out.length < 5864062014805 by omega)]
    rw [Loops.wrap_succ (show i < rows.length by omega) (by omega)]
    have he := (dcarry_even hm.1 hm.2 hc).1
    have key := ih (i + 1) (by omega) (dcarry (rows.getD i []) c) (out ++ [dbits (rows.getD i []) c]) (by
      have e : 154 * ((i + 1 : Nat) : Int) = 154 * (i : Int) + 154 := by omega
      rw [e]
      exact he) (by simp; omega)
    simp only [drows]
    rw [List.append_assoc] at key
    exact key
theorem srowsd_eq (rows : List (List Int)) (hr : ∀ v ∈ rows, pageRow v) (hl : rows.length ≤ 32) : Ev (fun k => spec_DiffuseRows.f k rows (List.replicate 32 0)) ((drows rows (List.replicate 32 0)).1, (drows rows (List.replicate 32 0)).2, true) := by
  unfold spec_DiffuseRows.f
  have e : spec_l05Copy.f (List.replicate 32 0) = some (List.replicate 32 0) := by
    unfold spec_l05Copy.f
    simp only [Option.bind_some, List.length_nil, List.nil_append]
    rw [if_pos (by simp)]
  rw [e]
  simp only [Option.bind_some]
  have key := srowsd_all rows hr hl rows.length 0 (by omega) (List.replicate 32 0) [] even_zero rfl
  rw [List.drop_zero, List.nil_append] at key
  exact key
theorem sthr_eq (x y : Int) (hx : 0 ≤ x) (hy : 0 ≤ y) : spec_ThresholdAt.f x y = some (16 * impl_ThresholdAt.tab.getD (Int.tmod y 4 * 4 + Int.tmod x 4).toNat 0 + 8) ∧ 0 ≤ 16 * impl_ThresholdAt.tab.getD (Int.tmod y 4 * 4 + Int.tmod x 4).toNat 0 + 8 := by
  have i0 := Int.tmod_nonneg 4 hx
  have i1 := Int.tmod_lt_of_pos x (show (0 : Int) < 4 by omega)
  have j0 := Int.tmod_nonneg 4 hy
  have j1 := Int.tmod_lt_of_pos y (show (0 : Int) < 4 by omega)
  unfold spec_ThresholdAt.f
  rw [if_neg (by omega), if_neg (by omega)]
  generalize Int.tmod x 4 = a at *
  generalize Int.tmod y 4 = b at *
  have ca : a = 0 ∨ a = 1 ∨ a = 2 ∨ a = 3 := by omega
  have cb : b = 0 ∨ b = 1 ∨ b = 2 ∨ b = 3 := by omega
  simp only [Option.bind_some]
  rw [Loops.wrap_in (x := b * 4) (by omega) (by omega), Loops.wrap_in (x := b * 4 + a) (by omega) (by omega), if_pos (by omega), if_pos (by simp; omega)]
  have ht : 0 ≤ impl_ThresholdAt.tab.getD (b * 4 + a).toNat 0 ∧ impl_ThresholdAt.tab.getD (b * 4 + a).toNat 0 ≤ 15 := by
    rcases ca with rfl | rfl | rfl | rfl <;> rcases cb with rfl | rfl | rfl | rfl <;> decide
  have e : rd [0, 8, 2, 10, 12, 4, 14, 6, 3, 11, 1, 9, 15, 7, 13, 5] (b * 4 + a) = impl_ThresholdAt.tab.getD (b * 4 + a).toNat 0 := rfl
  rw [e, Loops.wrap_in (x := 16 * impl_ThresholdAt.tab.getD (b * 4 + a).toNat 0) (by omega) (by omega), Loops.wrap_in (by omega) (by omega)]
  exact ⟨rfl, by omega⟩
theorem sdot_eq (v x y : Int) (hx : 0 ≤ x) (hy : 0 ≤ y) : spec_ScreenDot.f v x y = some (dotAt v x y) := by
  obtain ⟨e, h⟩ := sthr_eq x y hx hy
  unfold spec_ScreenDot.f dotAt
  rw [e]
  simp only [Option.bind_some]
  rw [if_pos h]
  split <;> split <;> first | rfl | omega
theorem sscr_eq (v : List Int) (y : Nat) (hv : v.length ≤ 1048576) : Ev (fun k => spec_ScreenRow.f k v (y : Int)) (scrRow v y) := by
  unfold spec_ScreenRow.f scrRow
  have key := Loops.up_loop (G := fun k i (s : List Int) => spec_ScreenRow.l0 k v (y : Int) s i) (r := (List.range v.length).map fun x => dotAt (v.getD x 0) (x : Int) (y : Int)) (fun i => (List.range i).map fun x => dotAt (v.getD x 0) (x : Int) (y : Int)) v.length (fun k i hi => by
    rw [spec_ScreenRow.l0]
    rw [if_pos (by omega), if_pos (by omega), rd_get, sdot_eq _ _ _ (by omega) (by omega)]
    simp only [Option.bind_some]
    rw [if_pos (by simp; omega), Loops.wrap_succ hi (by omega), List.range_succ, List.map_append]
    rfl) (Loops.Ev.one (fun k => by
    simp only [spec_ScreenRow.l0]
    rw [if_neg (by omega)]))
  simpa using key
/-- The reference turns a row, and lays it down. -/
theorem sinv_loop (rows : List (List Int)) (scr : Bool) (out : List (List Int)) (i : Nat) (hi : i < rows.length) (hn : rows.length ≤ 1048576) (hv : pageRow (rows.getD i [])) {r : List (List Int) × Bool}
    (next : Ev (fun k => spec_HalftonePage.l1 k rows scr out (i : Int) (invRow (rows.getD i [])) 32) r) : Ev (fun k => spec_HalftonePage.l1 k rows scr out (i : Int) [] 0) r := by
  have hrd : rd_L1 rows (i : Int) = rows.getD i [] := rdL1 rows i
  generalize rows.getD i [] = v at *
  have hvl := hv.1
  have key := Loops.up_loop (G := fun k j (s : List Int) => spec_HalftonePage.l1 k rows scr out (i : Int) s j) (r := r) (fun j => (invRow v).take j) 32 (fun k j hj => by
    have hb := hv.2 j
    rw [spec_HalftonePage.l1]
    rw [if_pos (by omega), if_pos (by omega), if_pos (by omega), if_pos (by omega), hrd, if_pos (by omega), if_pos (by simp; omega), rd_get, Loops.wrap_in (x := 255 - v.getD j 0) (by omega) (by omega), Loops.wrap_succ hj (by omega), Loops.take_one_more (invRow v) 0 j (by simp [invRow]; omega)]
    have e : (invRow v).getD j 0 = 255 - v.getD j 0 := by
      simp only [invRow, List.getD, List.getElem?_map, List.getElem?_eq_getElem (show j < v.length by omega)]
      rfl
    rw [e]) (by
    rw [List.take_of_length_le (by simp [invRow]; omega)]
    exact next)
  simpa using key
theorem shalf_false (rows : List (List Int)) (hr : ∀ v ∈ rows, pageRow v) (hl : rows.length ≤ 32) : Ev (fun k => spec_HalftonePage.f k rows false) ((drows (rows.map invRow) (List.replicate 32 0)).1, true) := by
  unfold spec_HalftonePage.f
  simp only [Option.bind_some]
  refine Ev.bind (srows_eq rows (by omega) (fun v hv => by have := (hr v hv).1; omega)) ?_
  rw [rows_ok rows hr hl]
  simp only [if_true]
  have key : ∀ (m i : Nat), i + m = rows.length → Ev (fun k => spec_HalftonePage.l0 k rows false ((rows.take i).map invRow) (i : Int)) ((drows (rows.map invRow) (List.replicate 32 0)).1, true) := by
    intro m
    induction m with
    | zero =>
      intro i hi
      obtain rfl : i = rows.length := by omega
      refine Loops.Ev.succ ?_
      simp only [spec_HalftonePage.l0, if_neg (show ¬ (rows.length : Int) < (rows.length : Int) by omega), Bool.false_eq_true, if_false]
      have e : spec_NoCarry.f = some (List.replicate 32 0) := by unfold spec_NoCarry.f; rw [if_pos (by omega)]
      simp only [e, Option.bind_some, List.take_length]
      exact Ev.bind (srowsd_eq (rows.map invRow) (fun v hv => by
        obtain ⟨u, hu, rfl⟩ := List.mem_map.1 hv
        exact inv_page (hr u hu)) (by simpa using hl)) (Ev.now _)
    | succ m ih =>
      intro i hi
      have hm := hr _ (Loops.getD_mem rows [] i (by omega))
      refine Loops.Ev.succ ?_
      simp only [spec_HalftonePage.l0, if_pos (show (i : Int) < (rows.length : Int) by omega)]
      refine sinv_loop rows false _ i (by omega) (by omega) hm (Loops.Ev.succ ?_)
      simp only [spec_HalftonePage.l1, if_neg (show ¬ (32 : Int) < 32 by omega), Bool.false_eq_true, if_false]
      simp only [if_pos (show ((rows.take i).map invRow).length < 5864062014805 by simp; omega)]
      rw [Loops.wrap_succ (show i < rows.length by omega) (by omega)]
      have k2 := ih (i + 1) (by omega)
      rw [Loops.take_one_more rows [] i (by omega), List.map_append] at k2
      exact k2
  simpa using key rows.length 0 (by omega)
theorem shalf_true (rows : List (List Int)) (hr : ∀ v ∈ rows, pageRow v) (hl : rows.length ≤ 32) : Ev (fun k => spec_HalftonePage.f k rows true) (scrRows (rows.map invRow), true) := by
  unfold spec_HalftonePage.f
  simp only [Option.bind_some]
  refine Ev.bind (srows_eq rows (by omega) (fun v hv => by have := (hr v hv).1; omega)) ?_
  rw [rows_ok rows hr hl]
  simp only [if_true]
  have key : ∀ (m i : Nat), i + m = rows.length → Ev (fun k => spec_HalftonePage.l0 k rows true ((List.range i).map fun y => scrRow ((rows.map invRow).getD y []) y) (i : Int)) (scrRows (rows.map invRow), true) := by
    intro m
    induction m with
    | zero =>
      intro i hi
      obtain rfl : i = rows.length := by omega
      refine Loops.Ev.one (fun k => ?_)
      simp only [spec_HalftonePage.l0, if_neg (show ¬ (rows.length : Int) < (rows.length : Int) by omega), if_true]
      simp [scrRows]
    | succ m ih =>
      intro i hi
      have hm := hr _ (Loops.getD_mem rows [] i (by omega))
      have hml := hm.1
      refine Loops.Ev.succ ?_
      simp only [spec_HalftonePage.l0, if_pos (show (i : Int) < (rows.length : Int) by omega)]
      refine sinv_loop rows true _ i (by omega) (by omega) hm (Loops.Ev.succ ?_)
      simp only [spec_HalftonePage.l1, if_neg (show ¬ (32 : Int) < 32 by omega), if_true]
      refine Ev.bind (sscr_eq (invRow (rows.getD i [])) i (by simp [invRow]; simp at hml; omega)) ?_
      simp only [if_pos (show ((List.range i).map fun y => scrRow ((rows.map invRow).getD y []) y).length < 5864062014805 by simp; omega)]
      rw [Loops.wrap_succ (show i < rows.length by omega) (by omega)]
      have k2 := ih (i + 1) (by omega)
      have e : (rows.map invRow).getD i [] = invRow (rows.getD i []) := by
        simp [List.getD, List.getElem?_eq_getElem (show i < rows.length by omega)]
      rw [List.range_succ, List.map_append] at k2
      simp only [List.map_cons, List.map_nil, e] at k2
      exact k2
  simpa using key rows.length 0 (by omega)
def halfOf (l : List (List Int)) (scr : Bool) : List (List Int) × Bool := if rowsOk l = true then (if scr = true then (scrRows (l.map invRow), true) else ((drows (l.map invRow) (List.replicate 32 0)).1, true)) else ([], false)
theorem ok_rows {l : List (List Int)} (h : rowsOk l = true) : (∀ v ∈ l, pageRow v) ∧ l.length ≤ 32 := by
  simp only [rowsOk, Bool.and_eq_true, List.all_eq_true, decide_eq_true_eq] at h
  refine ⟨fun v hv => ?_, by omega⟩
  have := h.1 v hv
  simp only [rowOk, bytes, Bool.and_eq_true, List.all_eq_true, decide_eq_true_eq] at this
  exact pageRow_of (by omega) this.1
theorem ihalf (l : List (List Int)) (scr : Bool) (hl : l.length ≤ 1048576) (hr : ∀ x ∈ l, x.length ≤ 1048576) : Ev (fun k => impl_HalftonePage.f k l scr) (halfOf l scr) := by
  unfold halfOf
  by_cases h : rowsOk l = true
  · obtain ⟨h1, h2⟩ := ok_rows h
    rw [if_pos h]
    cases scr with
    | true => exact ihalf_true l h1 h2
    | false => exact ihalf_false l h1 h2
  · rw [if_neg h]
    simp only [Bool.not_eq_true] at h
    unfold impl_HalftonePage.f
    refine Ev.bind (irows_eq l hl hr) ?_
    rw [h]
    simp only [Bool.false_eq_true, if_false]
    exact Ev.now _
theorem shalf (l : List (List Int)) (scr : Bool) (hl : l.length ≤ 1048576) (hr : ∀ x ∈ l, x.length ≤ 1048576) : Ev (fun k => spec_HalftonePage.f k l scr) (halfOf l scr) := by
  unfold halfOf
  by_cases h : rowsOk l = true
  · obtain ⟨h1, h2⟩ := ok_rows h
    rw [if_pos h]
    cases scr with
    | true => exact shalf_true l h1 h2
    | false => exact shalf_false l h1 h2
  · rw [if_neg h]
    simp only [Bool.not_eq_true] at h
    unfold spec_HalftonePage.f
    simp only [Option.bind_some]
    refine Ev.bind (srows_eq l hl hr) ?_
    rw [h]
    simp only [Bool.false_eq_true, if_false]
    exact Ev.now _
theorem drows_len (rows : List (List Int)) : ∀ (c : List Int), (∀ v ∈ rows, v.length = 32) → c.length = 32 → (drows rows c).1.length = rows.length ∧ ∀ v ∈ (drows rows c).1, v.length = 32 := by
  induction rows with
  | nil => intro c _ _; simp [drows]
  | cons v vs ih =>
    intro c hr hc
    have hv := hr v (by simp)
    obtain ⟨h1, h2, _⟩ := drow_plain v c hv hc 32 (Nat.le_refl _)
    obtain ⟨a1, a2⟩ := ih (dcarry v c) (fun x hx => hr x (by simp [hx])) (by unfold dcarry; rw [bump_len]; exact h2)
    refine ⟨by simp [drows, a1], fun x hx => ?_⟩
    rcases List.mem_cons.1 hx with rfl | hx
    · exact h1
    · exact a2 x hx
theorem half_len (l : List (List Int)) (scr : Bool) : (halfOf l scr).1.length ≤ 1048576 ∧ ∀ x ∈ (halfOf l scr).1, x.length ≤ 1048576 := by
  unfold halfOf
  by_cases h : rowsOk l = true
  · obtain ⟨h1, h2⟩ := ok_rows h
    rw [if_pos h]
    cases scr with
    | true =>
      refine ⟨by simp [scrRows]; omega, fun x hx => ?_⟩
      simp only [if_true, scrRows, List.mem_map, List.mem_range] at hx
      obtain ⟨y, hy, rfl⟩ := hx
      have := (inv_page (h1 _ (Loops.getD_mem l [] y (by simpa using hy)))).1
      have e : (l.map invRow).getD y [] = invRow (l.getD y []) := by
        simp [List.getD, List.getElem?_eq_getElem (show y < l.length by simpa using hy)]
      rw [e]
      simp only [scrRow, List.length_map, List.length_range]
      omega
    | false =>
      obtain ⟨a1, a2⟩ := drows_len (l.map invRow) (List.replicate 32 0) (fun v hv => by
        obtain ⟨u, hu, rfl⟩ := List.mem_map.1 hv
        exact (inv_page (h1 u hu)).1) rfl
      simp only [Bool.false_eq_true, if_false]
      rw [List.length_map] at a1
      exact ⟨by omega, fun x hx => by have := a2 x hx; omega⟩
  · rw [if_neg h]
    simp
theorem FnExactHalftonePage : ∀ (l0 : List (List Int)) (a1 : Bool), (l0.length ≤ maxLen ∧ ∀ x ∈ l0, x.length ≤ maxLen ∧ ∀ y ∈ x, (Lit.int .i64 y).wf = true) → ∃ k, laws_FnExactHalftonePage.f k l0 a1 = some true := by
  intro l scr ⟨h0, h1⟩
  have e : maxLen = 9223372036854775807 := by decide
  rw [e] at h0
  refine Ev.rounds ?_
  unfold laws_FnExactHalftonePage.f
  obtain ⟨t, ev, ht⟩ := szIntSS_eq l 1048576 h0 (fun x hx => by have := (h1 x hx).1; omega) (by omega) (by omega)
  refine Ev.bind ev ?_
  by_cases hn : t < 0
  · simp only [if_pos hn]; exact Ev.now _
  · obtain ⟨_, hl, hr⟩ := ht (by omega)
    simp only [if_neg hn]
    have et := toIntSS_eq l hl hr
    have es := shalf l scr hl hr
    have ei := ihalf l scr hl hr
    obtain ⟨q1, q2⟩ := half_len l scr
    obtain ⟨⟨R, o⟩, hR⟩ : ∃ R, halfOf l scr = R := ⟨_, rfl⟩
    rw [hR] at es ei q1 q2
    dsimp only at q1 q2
    have eq := eqIntSS_eq R q1 q2
    have tb := tot_bound l hr
    have tR := tot_bound R q2
    refine Ev.bind et (Ev.bind es (Ev.bind et (Ev.bind ei (Ev.bind eq ?_))))
    simp only [if_true]
    refine Ev.bind et (Ev.bind (eqIntSS_eq l hl hr) ?_)
    simp only [if_true]
    refine Ev.bind (markss_eq l hl hr) ?_
    simp only [if_pos (show (0 : Int) ≤ 1 + tot l by omega)]
    refine Ev.bind (markss_eq R q1 q2) (Ev.bind (heldss_eq R q1 q2) ?_)
    simp only [if_pos (show (0 : Int) ≤ 1 + tot R by omega), if_true]
    refine Ev.bind et (Ev.bind ei (Ev.bind eq ?_))
    simp only [if_true]
    exact Ev.now _

end Go.Proofs.Ytaceidiookkocaa.Pure
