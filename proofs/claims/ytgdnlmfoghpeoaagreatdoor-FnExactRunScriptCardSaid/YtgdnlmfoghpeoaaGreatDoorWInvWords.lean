import Derived.Test.YtgdnlmfoghpeoaaGreatDoorWInv
import Derived.Test.YtgdnlmfoghpeoaaGreatDoorWFootNe
namespace Go.Proofs.YtgdnlmfoghpeoaaGreatDoorW.PrintWords
open Go.RowKit
end Go.Proofs.YtgdnlmfoghpeoaaGreatDoorW.PrintWords
namespace Go.Proofs.YtgdnlmfoghpeoaaGreatDoorW.PrintLast
section
variable {ops:Array Oper} {a:Act} {o og:Oper} {g:Nat} {t:Tmp} {u:Bool}
end
end Go.Proofs.YtgdnlmfoghpeoaaGreatDoorW.PrintLast
