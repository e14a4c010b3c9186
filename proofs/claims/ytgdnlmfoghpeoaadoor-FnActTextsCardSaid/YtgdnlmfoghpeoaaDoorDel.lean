/- An element taken out of a row of one's own by 'slices.Delete': what is written beyond a row's end leaves the row; what clear does. -/
import Derived.Test.YtgdnlmfoghpeoaaDoorWWords
import Derived.Test.YtgdnlmfoghpeoaaDoorWLast
import Derived.Test.YtgdnlmfoghpeoaaDoorWMore
import Derived.Test.YtgdnlmfoghpeoaaDoorWApart
import Derived.Lib.BufferOwn
import Derived.Lib.BufferWrite
import Derived.Laws.IdiomCopy
namespace Go.Proofs.YtgdnlmfoghpeoaaDoor.Del
open Go.RowKit Go.Proofs.YtgdnlmfoghpeoaaDoorW.PrintWords Go.Proofs.YtgdnlmfoghpeoaaDoorW.PrintLast Go.Proofs.YtgdnlmfoghpeoaaDoorW.PrintMore
section
variable {α:Type} {d:Kd α} {e base g n c:Nat} {ok:Nat→Prop} {w:World} {xs:List α}
end
section
variable {P:Program}
end
end Go.Proofs.YtgdnlmfoghpeoaaDoor.Del
