import Derived.Test.YtblceimapaenlaaWInv
import Derived.Test.YtblceimapaenlaaWFootNe
namespace Go.Proofs.YtblceimapaenlaaW.PrintWords
open Go.RowKit
end Go.Proofs.YtblceimapaenlaaW.PrintWords
namespace Go.Proofs.YtblceimapaenlaaW.PrintLast
section
variable {ops:Array Oper} {a:Act} {o og:Oper} {g:Nat} {t:Tmp} {u:Bool}
end
end Go.Proofs.YtblceimapaenlaaW.PrintLast
