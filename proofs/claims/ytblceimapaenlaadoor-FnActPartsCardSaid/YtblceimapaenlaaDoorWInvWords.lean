import Derived.Test.YtblceimapaenlaaDoorWInv
import Derived.Test.YtblceimapaenlaaDoorWFootNe
namespace Go.Proofs.YtblceimapaenlaaDoorW.PrintWords
open Go.RowKit
end Go.Proofs.YtblceimapaenlaaDoorW.PrintWords
namespace Go.Proofs.YtblceimapaenlaaDoorW.PrintLast
section
variable {ops:Array Oper} {a:Act} {o og:Oper} {g:Nat} {t:Tmp} {u:Bool}
end
end Go.Proofs.YtblceimapaenlaaDoorW.PrintLast
