/- Loops told once: a loop that counts up from a number, its state told for each count; rows copied, rows compared. Plain Lean. -/
import Derived.Test.YtblceimapaenlaaDoorWWords
import Derived.Test.YtblceimapaenlaaDoorWMore
namespace Go.Proofs.YtblceimapaenlaaDoor.Loops
open Go.RowKit Go.Proofs.YtblceimapaenlaaDoorW.PrintWords Go.Proofs.YtblceimapaenlaaDoorW.PrintMore
theorem Ev.eq {α : Type} {g : Nat → Option α} {r s : α} (h : Ev g r) (e : r = s) : Ev g s := e ▸ h
theorem Ev.const {α : Type} {x : Option α} {r : α} (h : x = some r) : Ev (fun _ => x) r := ⟨0, fun _ _ => h⟩
theorem Ev.one {α : Type} {g : Nat → Option α} {r : α} (h : ∀ k, g (k + 1) = some r) : Ev g r := Ev.step h (Ev.now r)
/-- a, a + 1, .. -/
def iota (a : Int) (n : Nat) : List Int := (List.range n).map fun (j : Nat) => a + (j : Int)
end Go.Proofs.YtblceimapaenlaaDoor.Loops
