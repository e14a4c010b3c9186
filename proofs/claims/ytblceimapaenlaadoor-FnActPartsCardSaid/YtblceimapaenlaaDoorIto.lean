/- strconv.Itoa by the shelf's contract: what it needs of the world is the table's reading alone. No condition. -/
import Derived.Shelf.Strconv.Itoa3
import Derived.Shelf.Lay
import Derived.Ground.NamesProg
import Derived.Test.YtblceimapaenlaaDoorProg
import Derived.Lib.AppendIntMem
import Derived.Below
namespace Go.Proofs
open Go.Shelf Go.RowKit
shelf_lay LaysM.n171 Nm 171 at Tryd as Tryd.laysItoa
namespace YtblceimapaenlaaDoor.Ito
abbrev Tab (w:World):Prop:=Lib.TabIs Tryd.prog w "internal/strconv.uint64pow10" .u64 Lib.pow10Tab
theorem bsz (a:Array UInt8):(ByteArray.mk a).size=a.size:=rfl
theorem on {w w':World} (h:Tab w) (hb:Below w.heap.size w w'):Tab w':=(Lib.tabBelow_of_tabIs h) w' hb
end YtblceimapaenlaaDoor.Ito
end Go.Proofs
