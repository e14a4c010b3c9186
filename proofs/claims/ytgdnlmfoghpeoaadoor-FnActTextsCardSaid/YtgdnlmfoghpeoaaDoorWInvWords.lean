import Derived.Test.YtgdnlmfoghpeoaaDoorWInv
import Derived.Test.YtgdnlmfoghpeoaaDoorWFootNe
namespace Go.Proofs.YtgdnlmfoghpeoaaDoorW.PrintWords
open Go.RowKit
end Go.Proofs.YtgdnlmfoghpeoaaDoorW.PrintWords
namespace Go.Proofs.YtgdnlmfoghpeoaaDoorW.PrintLast
section
variable {ops:Array Oper} {a:Act} {o og:Oper} {g:Nat} {t:Tmp} {u:Bool}
end
end Go.Proofs.YtgdnlmfoghpeoaaDoorW.PrintLast
