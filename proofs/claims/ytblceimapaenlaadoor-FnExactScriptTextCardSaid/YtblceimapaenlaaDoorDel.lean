/- An element taken out of a row of one's own by 'slices.Delete': what is written beyond a row's end leaves the row; what clear does. -/
import Derived.Test.YtblceimapaenlaaDoorWWords
import Derived.Test.YtblceimapaenlaaDoorWLast
import Derived.Test.YtblceimapaenlaaDoorWMore
import Derived.Test.YtblceimapaenlaaDoorWApart
import Derived.Lib.BufferOwn
import Derived.Lib.BufferWrite
import Derived.Laws.IdiomCopy
namespace Go.Proofs.YtblceimapaenlaaDoor.Del
open Go.RowKit Go.Proofs.YtblceimapaenlaaDoorW.PrintWords Go.Proofs.YtblceimapaenlaaDoorW.PrintLast Go.Proofs.YtblceimapaenlaaDoorW.PrintMore
section
variable {α:Type} {d:Kd α} {e base g n c:Nat} {ok:Nat→Prop} {w:World} {xs:List α}
end
section
variable {P:Program}
end
end Go.Proofs.YtblceimapaenlaaDoor.Del
