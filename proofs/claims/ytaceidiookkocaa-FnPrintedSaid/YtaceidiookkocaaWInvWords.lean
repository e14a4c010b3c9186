import Derived.Test.YtaceidiookkocaaWInv
import Derived.Test.YtaceidiookkocaaWFootNe
namespace Go.Proofs.YtaceidiookkocaaW.PrintWords
open Go.RowKit
end Go.Proofs.YtaceidiookkocaaW.PrintWords
namespace Go.Proofs.YtaceidiookkocaaW.PrintLast
section
variable {ops:Array Oper} {a:Act} {o og:Oper} {g:Nat} {t:Tmp} {u:Bool}
end
end Go.Proofs.YtaceidiookkocaaW.PrintLast
