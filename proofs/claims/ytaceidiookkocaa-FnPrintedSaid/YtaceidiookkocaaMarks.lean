/- Rows marked and held, whatever their elements: element j bears what 'mk' makes of a + w * j. Plain Lean. -/
import Derived.Test.YtaceidiookkocaaLoops
namespace Go.Proofs.Ytaceidiookkocaa.Loops
open Go.RowKit Go.Proofs.YtaceidiookkocaaW.PrintWords Go.Proofs.YtaceidiookkocaaW.PrintMore
def marks {α:Type} (mk:Int→α) (w a:Int) (n:Nat):List α:=(List.range n).map fun (j:Nat)=>mk (a+w * (j:Int))
end Go.Proofs.Ytaceidiookkocaa.Loops
