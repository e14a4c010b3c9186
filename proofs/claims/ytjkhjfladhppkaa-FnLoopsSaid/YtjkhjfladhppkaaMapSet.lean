/- A map[int]bool of the call's own that holds 'true' at each number of a list, and nothing else: looked up, written, counted. -/
import Derived.Maps.OwnSet
import Derived.Below
import Derived.RowKit
namespace Go.Proofs.Ytjkhjfladhppkaa.MapSet
open Go Go.RowKit Go.Maps
def dset : List Int → DataW Unit
  | [] => .map []
  | x :: xs => (dset xs).put (.int .i64 x) (.lit (.bool true))
theorem keyLit (_x : Int) : WideAt.IsKeyLit (.int .i64 _x) := trivial
theorem dset_map : ∀ F : List Int, IsMap (dset F)
  | [] => isMap_empty
  | _ :: xs => (dset_map xs).put _ _
theorem dset_tidy : ∀ F : List Int, Tidy (dset F)
  | [] => tidy_empty
  | x_ :: xs => (dset_tidy xs).put (keyLit x_) _
theorem dset_at (x : Int) : ∀ F : List Int, (dset F).atKey (.int .i64 x) (.lit (.bool false)) = .lit (.bool (F.contains x))
  | [] => rfl
  | y :: ys => by
    by_cases h : x = y
    · subst h
      rw [dset, atKey_put_same (dset_map ys) (keyLit x)]
      simp
    · rw [dset, atKey_put_other (by simp [h]), dset_at x ys]
      simp [h]
theorem dset_has (x : Int) : ∀ F : List Int, has (dset F) (.int .i64 x) = F.contains x
  | [] => rfl
  | y :: ys => by
    by_cases h : x = y
    · subst h
      rw [dset, has_put_same (dset_map ys) (keyLit x)]
      simp
    · rw [dset, has_put_other (by simp [h]), dset_has x ys]
      simp [h]
structure IsSet (P : Program) (w : World) (b : Nat) (F : List Int) : Prop where
  own : w.ownsMap P 3 (plainElem P 4) b F.length (dset F)
  len : Maps.size (dset F) = F.length
theorem IsSet.made (P : Program) (w : World) : IsSet P (w.alloc (.map #[] 0)) w.heap.size [] := ⟨World.ownsMap_made w P 3 _, rfl⟩
theorem IsSet.lt {P : Program} {w : World} {b : Nat} {F : List Int} (h : IsSet P w b F) : b < w.heap.size := h.own.lt
theorem IsSet.below {P : Program} {w w' : World} {b : Nat} {F : List Int} (h : IsSet P w b F) (hb : Below w.heap.size w w') : IsSet P w' b F :=
  ⟨h.own.kept ⟨hb.os, hb.tape, hb.output, hb.size, fun i hi _ => hb.block i hi⟩ (row := none) (by simp), h.len⟩
theorem IsSet.grown {P : Program} {w w' : World} {b : Nat} {F : List Int} {row : Option Nat} (h : IsSet P w b F) (hb : w.grownBy w' row) (hne : some b ≠ row) : IsSet P w' b F := ⟨h.own.kept hb hne, h.len⟩
theorem IsSet.setCell {P : Program} {w : World} {b g i : Nat} {F : List Int} (h : IsSet P w b F) (hne : b ≠ g) (u : Value) : IsSet P (w.setCell ⟨g, i, none⟩ u) b F := ⟨h.own.setCell hne u, h.len⟩
theorem bool_inv {P : Program} {e : TypeId} (he : P.underlying e = some .bool) {v : Value} {x : Bool} {ps : List MemPlace} (h : plainElem (H := Unit) P e v = some (.lit (.bool x), ps)) : v = .bool x := by
  unfold plainElem at h
  rw [he] at h
  cases v <;> simp at h
  rw [h.1]
section
variable {P : Program} {ops : Array Oper} {o : Oper} {rest : List Oper} {Q : Exit → Act → World → Prop} {a : Act} {w : World}
theorem look {t : TypeId} {m x : Operand} (hg : o.guard = none) (hop : o.op = Op.lookup t m x false) (ht : P.underlying t = some (.map 3 4)) (h3 : P.underlying 3 = some (.int .i64)) (h4 : P.underlying 4 = some .bool)
    (hz : (zeroValue 4).run P w = .ok (.bool false) w) {b : Nat} {F : List Int} (hm : a.eval m = .map (some b)) (hS : IsSet P w b F) (key : Int) (hx : a.eval x = .int .i64 key) (hk : (Lit.int .i64 key).wf = true) (r : Bool) (hr : F.contains key = r)
    (h : wpList P ops Q rest (a.put o.dst (.bool r)) w) : wpList P ops Q (o :: rest) a w := by
  refine wpList_plain hg fun K' hK' => ?_
  obtain ⟨v, ps, hrun, hv⟩ := hS.own.lookup (int_keyed h3) ht hz (plainElem_bool h4 false) (keyOf_int_mk h3 hk)
  rw [dset_at, hr] at hv
  obtain rfl := bool_inv h4 hv
  unfold Oper.wp
  simp [execOp, hop, hm, hx, hrun, Result.andThen]
  exact hK' _ _ h
theorem put {t : TypeId} {m x v : Operand} (hg : o.guard = none) (hop : o.op = Op.mapUpdate t m x v) (ht : P.underlying t = some (.map 3 4)) (h3 : P.underlying 3 = some (.int .i64)) (h4 : P.underlying 4 = some .bool)
    {b : Nat} {F : List Int} (hm : a.eval m = .map (some b)) (hS : IsSet P w b F) (hn : F.length < 1000000) (key : Int) (hx : a.eval x = .int .i64 key) (hv : a.eval v = .bool true) (hk : (Lit.int .i64 key).wf = true) (hr : F.contains key = false)
    (h : ∀ w', IsSet P w' b (key :: F) → w.grownBy w' (some b) → wpList P ops Q rest (a.put o.dst undef) w') : wpList P ops Q (o :: rest) a w := by
  refine wpList_mapUpdate_own w hg m x v t hop 3 4 (int_keyed h3) ht (plainElem P 4) b F.length (dset F) hm hS.own (by unfold maxLen; omega) _ _ (.int .i64 key) hx hv (keyOf_int_mk h3 hk) (.lit (.bool true)) [] (plainElem_bool h4 true) ?_
  intro w' hown hgr
  refine h w' ⟨hown, ?_⟩ hgr
  show Maps.size ((dset F).put _ _) = _
  rw [size_put (dset_tidy F), dset_has, hr, hS.len]
  rfl
theorem len_ {t : TypeId} {m : Operand} (hg : o.guard = none) (hop : o.op = Op.call { callee := Callee.builtin Builtin.len, args := #[m], argTypes := #[t] }) (ht : P.underlying t = some (.map 3 4))
    {b : Nat} {F : List Int} (hm : a.eval m = .map (some b)) (hS : IsSet P w b F) (h : wpList P ops Q rest (a.put o.dst (.int .i64 (F.length : Int))) w) : wpList P ops Q (o :: rest) a w := by
  refine wpList_len_own w hg m t hop 3 4 ht (plainElem P 4) b F.length (dset F) hm hS.own ?_
  rw [hS.len]
  exact h
end
end Go.Proofs.Ytjkhjfladhppkaa.MapSet
