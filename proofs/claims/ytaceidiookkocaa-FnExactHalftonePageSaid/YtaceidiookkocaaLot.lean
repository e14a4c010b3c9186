/- Loops whose rounds call a part that ends in its own time; loops within loops. Plain Lean. -/
import Derived.Test.YtaceidiookkocaaMarks
import Derived.Test.YtaceidiookkocaaOpen
namespace Go.Proofs.Ytaceidiookkocaa.Loops
open Go.RowKit Go.Proofs.YtaceidiookkocaaW.PrintWords Go.Proofs.YtaceidiookkocaaW.PrintMore
theorem Ev.succ {α : Type} {g : Nat → Option α} {r : α} (h : Ev (fun k => g (k + 1)) r) : Ev g r := Ev.step (fun _ => rfl) h
theorem getD_mem {α : Type} (l : List α) (d : α) (i : Nat) (h : i < l.length) : l.getD i d ∈ l := by
  simp [List.getD, List.getElem?_eq_getElem h]
/-- Told from the end: the answer of each round out of the answers of the next. -/
theorem back_from {β σ : Type} {G : Nat → Int → σ → Option β} (R : Nat → σ → β) (n : Nat)
    (step : ∀ (i : Nat) s, i < n → (∀ s', Ev (fun k => G k ((i + 1 : Nat) : Int) s') (R (i + 1) s')) → Ev (fun k => G k (i : Int) s) (R i s)) (fin : ∀ s, Ev (fun k => G k (n : Int) s) (R n s)) :
    ∀ (m i : Nat), i + m = n → ∀ s, Ev (fun k => G k (i : Int) s) (R i s) := by
  intro m
  induction m with
  | zero => intro i h s; obtain rfl : i = n := by omega
            exact fin s
  | succ m ih => intro i h s; exact step i s (by omega) (ih (i + 1) (by omega))
theorem back_loop {β σ : Type} {G : Nat → Int → σ → Option β} (R : Nat → σ → β) (n : Nat)
    (step : ∀ (i : Nat) s, i < n → (∀ s', Ev (fun k => G k ((i + 1 : Nat) : Int) s') (R (i + 1) s')) → Ev (fun k => G k (i : Int) s) (R i s)) (fin : ∀ s, Ev (fun k => G k (n : Int) s) (R n s)) (s : σ) : Ev (fun k => G k 0 s) (R 0 s) :=
  back_from R n step fin n 0 (by omega) s
/-- Each element looked at; the first that fails ends it. -/
theorem all_loop {α : Type} {G : Nat → Int → Option Bool} {r : Bool} (l : List α) (d : α) (p : α → Bool) (B : α → Nat → Option Bool) (hl : l.length ≤ 9223372036854775807) (hb : ∀ x ∈ l, Ev (B x) (p x))
    (hG : ∀ k (i : Nat), i < l.length → G (k + 1) (i : Int) = (B (l.getD i d) k).bind fun t => if t = true then G k (wrap64 ((i : Int) + 1)) else some false)
    (fin : Ev (fun k => G k (l.length : Int)) r) : Ev (fun k => G k 0) (l.all p && r) := by
  have key := back_loop (G := fun k i (_ : Unit) => G k i) (fun i _ => (l.drop i).all p && r) l.length (fun i _ hi ih => by
    refine Ev.step (fun k => hG k i hi) (Ev.bind (hb _ (getD_mem l d i hi)) ?_)
    rw [drop_cons_getD l d i hi, List.all_cons]
    rcases Bool.eq_false_or_eq_true (p (l.getD i d)) with h | h
    · simp only [h, if_true, Bool.true_and, wrap_succ hi hl]
      exact ih ()
    · simp only [h, Bool.false_eq_true, if_false, Bool.false_and]
      exact Ev.now _) (fun _ => by simpa using fin) ()
  simpa using key
/-- Rows copied through a part that ends in its own time. -/
theorem map_ev {α β : Type} {G : Nat → Int → List β → Option (List β)} (l : List α) (d : α) (z : β) (f : α → β) (B : α → Nat → Option β) (hl : l.length ≤ 9223372036854775807) (hb : ∀ x ∈ l, Ev (B x) (f x))
    (hs : ∀ k (i : Nat) (o : List β), i < l.length → o.length = l.length → G (k + 1) (i : Int) o = (B (l.getD i d) k).bind fun t => G k (wrap64 ((i : Int) + 1)) (o.set i t))
    (hf : ∀ k (o : List β), G (k + 1) (l.length : Int) o = some o) : Ev (fun k => G k 0 (List.replicate l.length z)) (l.map f) := by
  have key : ∀ (m i : Nat), i + m = l.length → Ev (fun k => G k (i : Int) ((l.map f).take i ++ List.replicate (l.length - i) z)) (l.map f) := by
    intro m
    induction m with
    | zero =>
      intro i h
      obtain rfl : i = l.length := by omega
      refine Ev.one (fun k => ?_)
      rw [hf]
      congr 1
      rw [Nat.sub_self, List.replicate_zero, List.append_nil, List.take_of_length_le (by simp)]
    | succ m ih =>
      intro i h
      have hi : i < l.length := by omega
      refine Ev.step (fun k => hs k i _ hi (by simp; omega)) (Ev.bind (hb _ (getD_mem l d i hi)) ?_)
      rw [wrap_succ hi hl]
      have hm : i < (l.map f).length := by simpa using hi
      have e : ((l.map f).take i ++ List.replicate (l.length - i) z).set i (f (l.getD i d)) = (l.map f).take (i + 1) ++ List.replicate (l.length - (i + 1)) z := by
        rw [take_one_more (l.map f) (f d) i hm]
        have : l.length - i = (l.length - (i + 1)) + 1 := by omega
        rw [this, List.replicate_succ, List.set_append_right _ _ (by simp; omega), List.length_take, List.length_map, Nat.min_eq_left (by omega), Nat.sub_self]
        have e1 : (l.map f).getD i (f d) = f (l.getD i d) := by simp [List.getD, hi]
        rw [e1]
        simp
      rw [e]
      exact ih (i + 1) (by omega)
  simpa using key l.length 0 (by omega)
/-- What a row asks for, taken from a sum; below nothing it ends. -/
theorem sz_loop {α : Type} {G : Nat → Int → Int → Option Int} (l : List α) (d : α) (A : Int) (B : α → Int → Nat → Option Int) (P : α → Prop) (hl : l.length ≤ 9223372036854775807)
    (hB : ∀ x ∈ l, ∀ a, 0 ≤ a → a ≤ A → ∃ t, Ev (B x a) t ∧ (0 ≤ t → t ≤ a ∧ P x))
    (hG : ∀ k (i : Nat) a, i < l.length → G (k + 1) (i : Int) a = (B (l.getD i d) a k).bind fun t => if t < 0 then some (-1) else G k (wrap64 ((i : Int) + 1)) t)
    (hf : ∀ k a, G (k + 1) (l.length : Int) a = some a) : ∀ a, 0 ≤ a → a ≤ A → ∃ t, Ev (fun k => G k 0 a) t ∧ (0 ≤ t → t ≤ a ∧ ∀ x ∈ l, P x) := by
  have key : ∀ (m i : Nat), i + m = l.length → ∀ a, 0 ≤ a → a ≤ A → ∃ t, Ev (fun k => G k (i : Int) a) t ∧ (0 ≤ t → t ≤ a ∧ ∀ x ∈ l.drop i, P x) := by
    intro m
    induction m with
    | zero =>
      intro i h a h0 h1
      obtain rfl : i = l.length := by omega
      exact ⟨a, Ev.one (fun k => hf k a), fun _ => ⟨by omega, by simp⟩⟩
    | succ m ih =>
      intro i h a h0 h1
      have hi : i < l.length := by omega
      obtain ⟨t, ev, ht⟩ := hB _ (getD_mem l d i hi) a h0 h1
      by_cases hn : t < 0
      · exact ⟨-1, Ev.step (fun k => hG k i a hi) (Ev.bind ev (by simp only [if_pos hn]; exact Ev.now _)), fun h => absurd h (by omega)⟩
      · obtain ⟨t1, p1⟩ := ht (by omega)
        obtain ⟨u, eu, hu⟩ := ih (i + 1) (by omega) t (by omega) (by omega)
        refine ⟨u, Ev.step (fun k => hG k i a hi) (Ev.bind ev (by simp only [if_neg hn, wrap_succ hi hl]; exact eu)), fun h => ?_⟩
        obtain ⟨u1, u2⟩ := hu h
        refine ⟨by omega, ?_⟩
        rw [drop_cons_getD l d i hi]
        intro x hx
        rcases List.mem_cons.mp hx with rfl | hx
        · exact p1
        · exact u2 x hx
  intro a h0 h1
  simpa using key l.length 0 (by omega) a h0 h1
end Go.Proofs.Ytaceidiookkocaa.Loops
