import Derived.Test.YtgdnlmfoghpeoaaDoorWWords
import Derived.Laws.StructEq
namespace Go.Proofs.YtgdnlmfoghpeoaaDoorW.PrintWords
open Go.RowKit
section
variable {P:Program} {d:Nat} {xs ys:Array Value} {f:Field} {fs:List Field} {a b:Value} {r s:Bool} {w:World}
end
end Go.Proofs.YtgdnlmfoghpeoaaDoorW.PrintWords
