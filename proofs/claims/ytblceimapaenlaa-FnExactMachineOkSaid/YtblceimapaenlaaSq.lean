/- Runs of like steps told at once: the cells of a block, a block written whole, what such a write leaves. Made by a program of this work (wip/squeeze.py). -/
import Derived.Test.YtblceimapaenlaaWWords
import Derived.Test.YtblceimapaenlaaWApart
import Derived.Test.YtblceimapaenlaaWLast
import Derived.Test.YtblceimapaenlaaWMore
namespace Go.Proofs.Ytblceimapaenlaa.Fix
open Go.RowKit Go.Proofs.YtblceimapaenlaaW.PrintWords Go.Proofs.YtblceimapaenlaaW.PrintLast Go.Proofs.YtblceimapaenlaaW.PrintMore
theorem kN {w : World} {g : Nat} {o : Obj} (h : w.heap[g]? = some o) (n : Nat) : (w.drewN n).heap[g]? = some o := h
theorem kD {w : World} {g : Nat} {o : Obj} (h : w.heap[g]? = some o) : w.drew.heap[g]? = some o := h
theorem kA {w : World} {g : Nat} {o : Obj} (h : w.heap[g]? = some o) (o' : Obj) : (w.alloc o').heap[g]? = some o := blk_alloc h o'
theorem bA {w W : World} (h : Below w.heap.size w W) (o : Obj) : Below w.heap.size w (W.alloc o) := below_alloc h o
theorem bN {B : Nat} {w W : World} (h : Below B w W) (n : Nat) : Below B w (W.drewN n) := pw_below_drewN h n
theorem b1 {B : Nat} {w W : World} (h : Below B w W) : Below B w W.drew := below_drew1 h
section
variable {w : World} {g g' : Nat} {t : TypeId}
theorem c4 {a0 a1 a2 a3 : Value} (h : w.heap[g]? = some (.cells #[a0, a1, a2, a3] t (0, 0))) : w.cell? ⟨g, 0, none⟩ = some a0 ∧ w.cell? ⟨g, 1, none⟩ = some a1 ∧ w.cell? ⟨g, 2, none⟩ = some a2 ∧ w.cell? ⟨g, 3, none⟩ = some a3 := ⟨(blk_cell h 0).trans rfl, (blk_cell h 1).trans rfl, (blk_cell h 2).trans rfl, (blk_cell h 3).trans rfl⟩
theorem c5 {a0 a1 a2 a3 a4 : Value} (h : w.heap[g]? = some (.cells #[a0, a1, a2, a3, a4] t (0, 0))) : w.cell? ⟨g, 0, none⟩ = some a0 ∧ w.cell? ⟨g, 1, none⟩ = some a1 ∧ w.cell? ⟨g, 2, none⟩ = some a2 ∧ w.cell? ⟨g, 3, none⟩ = some a3 ∧ w.cell? ⟨g, 4, none⟩ = some a4 := ⟨(blk_cell h 0).trans rfl, (blk_cell h 1).trans rfl, (blk_cell h 2).trans rfl, (blk_cell h 3).trans rfl, (blk_cell h 4).trans rfl⟩
theorem c6 {a0 a1 a2 a3 a4 a5 : Value} (h : w.heap[g]? = some (.cells #[a0, a1, a2, a3, a4, a5] t (0, 0))) : w.cell? ⟨g, 0, none⟩ = some a0 ∧ w.cell? ⟨g, 1, none⟩ = some a1 ∧ w.cell? ⟨g, 2, none⟩ = some a2 ∧ w.cell? ⟨g, 3, none⟩ = some a3 ∧ w.cell? ⟨g, 4, none⟩ = some a4 ∧ w.cell? ⟨g, 5, none⟩ = some a5 := ⟨(blk_cell h 0).trans rfl, (blk_cell h 1).trans rfl, (blk_cell h 2).trans rfl, (blk_cell h 3).trans rfl, (blk_cell h 4).trans rfl, (blk_cell h 5).trans rfl⟩
theorem d6 {a0 a1 a2 a3 a4 a5 : Value} (h : w.heap[g]? = some (.cells #[a0, a1, a2, a3, a4, a5] t (0, 0))) : w.cell? ⟨g, 0, none⟩ = some a0 ∧ w.cell? ⟨g, 1, none⟩ = some a1 ∧ w.cell? ⟨g, 2, none⟩ = some a2 ∧ w.cell? ⟨g, 3, none⟩ = some a3 ∧ w.cell? ⟨g, 4, none⟩ = some a4 ∧ w.cell? ⟨g, 5, none⟩ = some a5 ∧ w.frozen? ⟨g, 0, none⟩ = false ∧ w.frozen? ⟨g, 1, none⟩ = false ∧ w.frozen? ⟨g, 2, none⟩ = false ∧ w.frozen? ⟨g, 3, none⟩ = false ∧ w.frozen? ⟨g, 4, none⟩ = false ∧ w.frozen? ⟨g, 5, none⟩ = false := ⟨(blk_cell h 0).trans rfl, (blk_cell h 1).trans rfl, (blk_cell h 2).trans rfl, (blk_cell h 3).trans rfl, (blk_cell h 4).trans rfl, (blk_cell h 5).trans rfl, blk_frozen h 0, blk_frozen h 1, blk_frozen h 2, blk_frozen h 3, blk_frozen h 4, blk_frozen h 5⟩
theorem put6 {a0 a1 a2 a3 a4 a5 : Value} (h : w.heap[g]? = some (.cells #[a0, a1, a2, a3, a4, a5] t (0, 0))) (u0 u1 u2 u3 u4 u5 : Value) : ((((((w.setCell ⟨g, 0, none⟩ u0).setCell ⟨g, 1, none⟩ u1).setCell ⟨g, 2, none⟩ u2).setCell ⟨g, 3, none⟩ u3).setCell ⟨g, 4, none⟩ u4).setCell ⟨g, 5, none⟩ u5).heap[g]? = some (.cells #[u0, u1, u2, u3, u4, u5] t (0, 0)) := by
  refine blk_put (cs := #[u0, u1, u2, u3, u4, a5]) ?_ 5 _ rfl
  refine blk_put (cs := #[u0, u1, u2, u3, a4, a5]) ?_ 4 _ rfl
  refine blk_put (cs := #[u0, u1, u2, a3, a4, a5]) ?_ 3 _ rfl
  refine blk_put (cs := #[u0, u1, a2, a3, a4, a5]) ?_ 2 _ rfl
  refine blk_put (cs := #[u0, a1, a2, a3, a4, a5]) ?_ 1 _ rfl
  refine blk_put (cs := #[a0, a1, a2, a3, a4, a5]) ?_ 0 _ rfl
  exact h
theorem far6 {cs : Array Value} {i0 i1 i2 i3 i4 i5 : Nat} (h : w.heap[g]? = some (.cells cs t (0, 0))) (hp : g ≠ g') (u0 u1 u2 u3 u4 u5 : Value) : ((((((w.setCell ⟨g', i0, none⟩ u0).setCell ⟨g', i1, none⟩ u1).setCell ⟨g', i2, none⟩ u2).setCell ⟨g', i3, none⟩ u3).setCell ⟨g', i4, none⟩ u4).setCell ⟨g', i5, none⟩ u5).heap[g]? = some (.cells cs t (0, 0)) := blk_far (blk_far (blk_far (blk_far (blk_far (blk_far (h) (p := ⟨g', i0, none⟩) hp u0) (p := ⟨g', i1, none⟩) hp u1) (p := ⟨g', i2, none⟩) hp u2) (p := ⟨g', i3, none⟩) hp u3) (p := ⟨g', i4, none⟩) hp u4) (p := ⟨g', i5, none⟩) hp u5
theorem c7 {a0 a1 a2 a3 a4 a5 a6 : Value} (h : w.heap[g]? = some (.cells #[a0, a1, a2, a3, a4, a5, a6] t (0, 0))) : w.cell? ⟨g, 0, none⟩ = some a0 ∧ w.cell? ⟨g, 1, none⟩ = some a1 ∧ w.cell? ⟨g, 2, none⟩ = some a2 ∧ w.cell? ⟨g, 3, none⟩ = some a3 ∧ w.cell? ⟨g, 4, none⟩ = some a4 ∧ w.cell? ⟨g, 5, none⟩ = some a5 ∧ w.cell? ⟨g, 6, none⟩ = some a6 := ⟨(blk_cell h 0).trans rfl, (blk_cell h 1).trans rfl, (blk_cell h 2).trans rfl, (blk_cell h 3).trans rfl, (blk_cell h 4).trans rfl, (blk_cell h 5).trans rfl, (blk_cell h 6).trans rfl⟩
theorem far7 {cs : Array Value} {i0 i1 i2 i3 i4 i5 i6 : Nat} (h : w.heap[g]? = some (.cells cs t (0, 0))) (hp : g ≠ g') (u0 u1 u2 u3 u4 u5 u6 : Value) : (((((((w.setCell ⟨g', i0, none⟩ u0).setCell ⟨g', i1, none⟩ u1).setCell ⟨g', i2, none⟩ u2).setCell ⟨g', i3, none⟩ u3).setCell ⟨g', i4, none⟩ u4).setCell ⟨g', i5, none⟩ u5).setCell ⟨g', i6, none⟩ u6).heap[g]? = some (.cells cs t (0, 0)) := blk_far (blk_far (blk_far (blk_far (blk_far (blk_far (blk_far (h) (p := ⟨g', i0, none⟩) hp u0) (p := ⟨g', i1, none⟩) hp u1) (p := ⟨g', i2, none⟩) hp u2) (p := ⟨g', i3, none⟩) hp u3) (p := ⟨g', i4, none⟩) hp u4) (p := ⟨g', i5, none⟩) hp u5) (p := ⟨g', i6, none⟩) hp u6
theorem c8 {a0 a1 a2 a3 a4 a5 a6 a7 : Value} (h : w.heap[g]? = some (.cells #[a0, a1, a2, a3, a4, a5, a6, a7] t (0, 0))) : w.cell? ⟨g, 0, none⟩ = some a0 ∧ w.cell? ⟨g, 1, none⟩ = some a1 ∧ w.cell? ⟨g, 2, none⟩ = some a2 ∧ w.cell? ⟨g, 3, none⟩ = some a3 ∧ w.cell? ⟨g, 4, none⟩ = some a4 ∧ w.cell? ⟨g, 5, none⟩ = some a5 ∧ w.cell? ⟨g, 6, none⟩ = some a6 ∧ w.cell? ⟨g, 7, none⟩ = some a7 := ⟨(blk_cell h 0).trans rfl, (blk_cell h 1).trans rfl, (blk_cell h 2).trans rfl, (blk_cell h 3).trans rfl, (blk_cell h 4).trans rfl, (blk_cell h 5).trans rfl, (blk_cell h 6).trans rfl, (blk_cell h 7).trans rfl⟩
end
section
variable {α : Type} {d : Kd α} {e base : Nat} {w : World} {ok : Nat → Prop} {v : Value} {xs : List α}
theorem R_far6 (h : Kd.R d e w base ok v xs) {g : Nat} (hok : ∀ k, ok k → k ≠ g) (u0 u1 u2 u3 u4 u5 : Value) : Kd.R d e ((((((w.setCell ⟨g, 0, none⟩ u0).setCell ⟨g, 1, none⟩ u1).setCell ⟨g, 2, none⟩ u2).setCell ⟨g, 3, none⟩ u3).setCell ⟨g, 4, none⟩ u4).setCell ⟨g, 5, none⟩ u5) base ok v xs := Kd.R_far (p := ⟨g, 5, none⟩) (Kd.R_far (p := ⟨g, 4, none⟩) (Kd.R_far (p := ⟨g, 3, none⟩) (Kd.R_far (p := ⟨g, 2, none⟩) (Kd.R_far (p := ⟨g, 1, none⟩) (Kd.R_far (p := ⟨g, 0, none⟩) (h) hok u0) hok u1) hok u2) hok u3) hok u4) hok u5
theorem R_far8 (h : Kd.R d e w base ok v xs) {g : Nat} (hok : ∀ k, ok k → k ≠ g) (u0 u1 u2 u3 u4 u5 u6 u7 : Value) : Kd.R d e ((((((((w.setCell ⟨g, 0, none⟩ u0).setCell ⟨g, 1, none⟩ u1).setCell ⟨g, 2, none⟩ u2).setCell ⟨g, 3, none⟩ u3).setCell ⟨g, 4, none⟩ u4).setCell ⟨g, 5, none⟩ u5).setCell ⟨g, 6, none⟩ u6).setCell ⟨g, 7, none⟩ u7) base ok v xs := Kd.R_far (p := ⟨g, 7, none⟩) (Kd.R_far (p := ⟨g, 6, none⟩) (Kd.R_far (p := ⟨g, 5, none⟩) (Kd.R_far (p := ⟨g, 4, none⟩) (Kd.R_far (p := ⟨g, 3, none⟩) (Kd.R_far (p := ⟨g, 2, none⟩) (Kd.R_far (p := ⟨g, 1, none⟩) (Kd.R_far (p := ⟨g, 0, none⟩) (h) hok u0) hok u1) hok u2) hok u3) hok u4) hok u5) hok u6) hok u7
end
/-- What lies at hand closes it: the steps are tried where the word stands. -/
theorem uB {p : Prop} (h : p := by repeat (first | (with_reducible first | exact HB.out | apply Fix.bA | apply Fix.bN | apply Fix.b1 | refine below_set ?_ (Aside0.out (by assumption))) | exact HB.out)) : p := h
theorem uK {p q : Prop} (h : p) (f : p → q := by intro h_; (with_reducible repeat (first | refine Fix.kN ?_ _ | refine Fix.kD ?_ | refine Fix.kA ?_ _)); exact h_) : q := f h
theorem uR {p q : Prop} (h : p) (f : p → q := by intro h_; (with_reducible repeat (first | apply Kd.R_alloc | apply Kd.R_drewN | apply Kd.R_drew)); exact h_) : q := f h
theorem uS {p q : Prop} (h : p) (f : p → q := by intro h_; (with_reducible repeat (first | apply Kd.S_alloc | apply Kd.S_drewN | apply Kd.S_drew)); exact h_) : q := f h
theorem uC {p q : Prop} (h : p) (f : p → q := by intro h_; repeat (first | exact h_ | (with_reducible refine Kd.C_alloc ?_ _) | (with_reducible refine Kd.C_drewN ?_ _) | (with_reducible refine Kd.C_drew ?_))) : q := f h
theorem uA {p : Prop} (h : p := by (try simp only [List.map_toArray, List.map_cons, List.map_nil]); first | done | rfl | (simp only [List.length_drop, List.length_take]; rfl)) : p := h
@[reducible] def o (A : Option Addr) (n c : Nat) : Option Nat := (Value.slice A n c).ownBlock
end Go.Proofs.Ytblceimapaenlaa.Fix
