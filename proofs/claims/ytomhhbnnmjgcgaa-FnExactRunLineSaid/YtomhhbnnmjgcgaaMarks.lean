/- Rows marked and held, whatever their elements: element j bears what 'mk' makes of a + w * j. Plain Lean. -/
import Derived.Test.YtomhhbnnmjgcgaaLoops
namespace Go.Proofs.Ytomhhbnnmjgcgaa.Loops
open Go.RowKit Go.Proofs.YtomhhbnnmjgcgaaW.PrintWords Go.Proofs.YtomhhbnnmjgcgaaW.PrintMore
def marks {α : Type} (mk : Int → α) (w a : Int) (n : Nat) : List α := (List.range n).map fun (j : Nat) => mk (a + w * (j : Int))
end Go.Proofs.Ytomhhbnnmjgcgaa.Loops
