/- What a call has made lies from the old end of memory on; what is written lies elsewhere than what is kept: rows by ranges of blocks. For walks written by hand. -/
import Derived.Test.YtblceimapaenlaaDoorWWords
import Derived.Test.YtblceimapaenlaaDoorWLast
import Derived.Test.YtblceimapaenlaaDoorWMore
import Derived.Test.YtblceimapaenlaaDoorWApart
import Derived.Test.YtblceimapaenlaaDoorWKept
namespace Go.Proofs.YtblceimapaenlaaDoor.Hand
open Go.RowKit Go.Proofs.YtblceimapaenlaaDoorW.PrintWords Go.Proofs.YtblceimapaenlaaDoorW.PrintLast Go.Proofs.YtblceimapaenlaaDoorW.PrintMore
section
variable {α : Type} {d : Kd α} {e base base' n : Nat} {ok : Nat → Prop} {w w1 w2 W : World} {v : Value} {xs : List α} {P : Nat → Prop}
/-- Between n and m. -/
def In (n m : Nat) (k : Nat) : Prop := n ≤ k ∧ k < m
theorem S_made (h : Kd.S d e w1 base' ok v xs) (hb : base ≤ base') (hn : n ≤ base') : Kd.S d e w1 base (In n w1.heap.size) v xs := Kd.S_mono (Kd.S_lower (Kd.S_bound h) hb) (fun _ hk => ⟨Nat.le_trans hn hk.2.1, hk.2.2.1⟩)
theorem R_made (h : Kd.R d e w1 base' ok v xs) (hb : base ≤ base') (hn : n ≤ base') : Kd.R d e w1 base (In n w1.heap.size) v xs := Kd.R_mono (Kd.R_lower (Kd.R_bound h) hb) (fun _ hk => ⟨Nat.le_trans hn hk.2.1, hk.2.2.1⟩)
theorem Q_made (h : Kd.Q d e w1 base' ok v xs) (hb : base ≤ base') (hn : n ≤ base') : Kd.Q d e w1 base (In n w1.heap.size) v xs := Kd.Q_mono (Kd.Q_lower (Kd.Q_bound h) hb) (fun _ hk => ⟨Nat.le_trans hn hk.2.1, hk.2.2.1⟩)
theorem S_past (h : Kd.S d e w base ok v xs) (hk : Kept w w1 P) (hne : ∀ k, ok k → ¬ P k) : Kd.S d e w1 base ok v xs := Kd.S_mono (Kd.S_keptB h hk hne) (fun _ h => h.1)
theorem R_past (h : Kd.R d e w base ok v xs) (hk : Kept w w1 P) (hne : ∀ k, ok k → ¬ P k) : Kd.R d e w1 base ok v xs := Kd.R_mono (Kd.R_keptB h hk hne) (fun _ h => h.1)
theorem Q_past (h : Kd.Q d e w base ok v xs) (hk : Kept w w1 P) (hne : ∀ k, ok k → ¬ P k) : Kd.Q d e w1 base ok v xs := Kd.Q_mono (Kd.Q_keptB h hk hne) (fun _ h => h.1)
theorem apart {a b c d' : Nat} (h : b ≤ c) : ∀ k, In a b k → ¬ In c d' k := fun _ h1 h2 => by have := h1.2; have := h2.1; omega
theorem apart' {a b c d' : Nat} (h : d' ≤ a) : ∀ k, In a b k → ¬ In c d' k := fun _ h1 h2 => by have := h1.1; have := h2.2; omega
theorem C_drawn {A : Option Addr} {m : Nat} (h : Kd.C d w A m xs) (hd : Drawn0 w w1) : Kd.C d w1 A m xs := by
  obtain ⟨j, rfl⟩ := hd
  exact Kd.C_drewN h j
theorem below_drawn (h : Below W.heap.size W w) (hd : Drawn0 w w1) : Below W.heap.size W w1 := by
  obtain ⟨j, rfl⟩ := hd
  exact pw_below_drewN h j
theorem drawn_below (hd : Drawn0 w w1) : Below w.heap.size w w1 := below_drawn (Below.refl _ _) hd
theorem S_call {ad : Addr} {n cap : Nat} (h : Kd.S d e W base ok (.slice (some ad) n cap) xs) (z : α) (i : Int) (h0 : 0 ≤ i) (h1 : i < n) :
    ∃ (oki : Nat → Prop) (c : List Value), c.length = d.sz ∧ d.M W base oki (xs.getD i.toNat z) c ∧ (∀ j u, c[j]? = some u → W.cell? (ad.add (i.toNat * d.sz + j)) = some u) ∧ (∀ k, oki k → ok k ∧ some k ≠ (Value.slice (some ad) n cap).ownBlock) ∧
      ∀ {w1 : World} {x' : α}, Kept W w1 oki → d.M w1 base oki x' c → Kd.S d e w1 base ok (.slice (some ad) n cap) (xs.set i.toNat x') := by
  obtain ⟨g, rfl⟩ := Kd.R_head (Kd.S_R h)
  obtain ⟨oki, c, hcl, hM, hcc, hoki, hH⟩ := Kd.S_lend h z i h0 h1
  refine ⟨oki, c, hcl, hM, fun j u hu => ?_, fun k hk => ⟨(hoki k hk).1, fun he => (hoki k hk).2 ?_⟩, fun hg hM1 => Kd.H_back (Kd.H_kept hH hg (fun k _ hn => hn)) hM1 (fun _ hk => hk)⟩
  · rw [add_at, Nat.zero_add]
    exact hcc j u hu
  · simpa [Value.ownBlock] using he
theorem S_new {z b : Nat} (hB : Below w.heap.size w W) (hb : Below W.heap.size W w1) (hz : z ≤ W.heap.size) (h : Kd.S d e w1 b ok v xs) (hbW : b = W.heap.size) : ∃ n m, Kd.S d e w1 w.heap.size (In n m) v xs ∧ z ≤ n ∧ n ≤ m ∧ m ≤ w1.heap.size :=
  ⟨W.heap.size, w1.heap.size, S_made (hbW ▸ h) hB.size (Nat.le_refl _), hz, hb.size, Nat.le_refl _⟩
theorem R_new {z b : Nat} (hB : Below w.heap.size w W) (hb : Below W.heap.size W w1) (hz : z ≤ W.heap.size) (h : Kd.R d e w1 b ok v xs) (hbW : b = W.heap.size) : ∃ n m, Kd.R d e w1 w.heap.size (In n m) v xs ∧ z ≤ n ∧ n ≤ m ∧ m ≤ w1.heap.size :=
  ⟨W.heap.size, w1.heap.size, R_made (hbW ▸ h) hB.size (Nat.le_refl _), hz, hb.size, Nat.le_refl _⟩
theorem Q_new {z b : Nat} (hB : Below w.heap.size w W) (hb : Below W.heap.size W w1) (hz : z ≤ W.heap.size) (h : Kd.Q d e w1 b ok v xs) (hbW : b = W.heap.size) : ∃ n m, Kd.Q d e w1 w.heap.size (In n m) v xs ∧ z ≤ n ∧ n ≤ m ∧ m ≤ w1.heap.size :=
  ⟨W.heap.size, w1.heap.size, Q_made (hbW ▸ h) hB.size (Nat.le_refl _), hz, hb.size, Nat.le_refl _⟩
/-- A row of numbers, its blocks told again as those that it had. -/
theorem R_same (hE : d.E = []) (h : Kd.R d e W base ok v xs) {ok' : Nat → Prop} (hok : ∀ k, v.ownBlock = some k → ok' k) : Kd.R d e W base ok' v xs := Kd.R_mono (Kd.R_tight hE h) (fun k hk => hok k hk.symm)
theorem Q_same (hE : d.E = []) (h : Kd.Q d e W base ok v xs) {ok' : Nat → Prop} (hok : ∀ k, v.ownBlock = some k → ok' k) : Kd.Q d e W base ok' v xs := Kd.Q_mono (Kd.Q_tight hE h) (fun k hk => hok k hk.symm)
end
theorem ite_some {α : Type} {c : Prop} [Decidable c] {x : Option α} {r : α} (h : (if c then x else none) = some r) : c ∧ x = some r := by
  by_cases hc : c
  · rw [if_pos hc] at h; exact ⟨hc, h⟩
  · rw [if_neg hc] at h; cases h
end Go.Proofs.YtblceimapaenlaaDoor.Hand
