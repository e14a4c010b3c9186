/- Small facts that the contracts given by hand use: a row that is read at nil is empty; a call through a variable that holds a function. -/
import Derived.Test.YtgdnlmfoghpeoaaDoorWWords
import Derived.Test.YtgdnlmfoghpeoaaDoorWLast
import Derived.Test.YtgdnlmfoghpeoaaDoorWMore
import Derived.Lib.LazyBuf
namespace Go.Proofs.YtgdnlmfoghpeoaaDoor.Ext
open Go.RowKit Go.Proofs.YtgdnlmfoghpeoaaDoorW.PrintWords Go.Proofs.YtgdnlmfoghpeoaaDoorW.PrintLast
section
variable {P:Program} {ops:Array Oper} {o:Oper} {rest:List Oper} {Q:Exit→Act→World→Prop} {a:Act} {W:World}
end
end Go.Proofs.YtgdnlmfoghpeoaaDoor.Ext
