/- Small laws of memory that a walk lacks: behind a store a cell is there just if it was there. -/
import Derived.Laws.Entries
import Derived.RowKit
namespace Go.Proofs.Ytaceidiookkocaa.Fix
open Go.RowKit
theorem isSome_setCell (w:World) (a b:Addr) (v:Value):((w.setCell a v).cell? b).isSome=(w.cell? b).isSome:=by
 by_cases hab:a=b
 ·subst hab
  simp only[World.setCell,World.cell?,Array.getElem?_modify,↓reduceIte]
  cases hh:w.heap[a.block]? with
  |none=>simp
  |some x=>
   cases x<;>simp
   rename_i c e f
   cases a.spot with
   |some s=>simp
   |none=>by_cases hlt:a.off<c.size<;>simp[hlt]
 ·rw[World.cell?_setCell_other _ _ _ _ hab]
end Go.Proofs.Ytaceidiookkocaa.Fix
