/- Rows marked and held, whatever their elements: element j bears what 'mk' makes of a + w * j. Plain Lean. -/
import Derived.Test.YtblceimapaenlaaLoops
namespace Go.Proofs.Ytblceimapaenlaa.Loops
open Go.RowKit Go.Proofs.YtblceimapaenlaaW.PrintWords Go.Proofs.YtblceimapaenlaaW.PrintMore
def marks {α:Type} (mk:Int→α) (w a:Int) (n:Nat):List α:=(List.range n).map fun (j:Nat)=>mk (a+w * (j:Int))
end Go.Proofs.Ytblceimapaenlaa.Loops
