/- FnExactFormatAct: the functions that the law reaches, each as a plain Lean function, and that a call does what it says. Made by a program of this work (wip/mp.py) out of the kit's print. No condition. -/
import Derived.Test.YtblceimapaenlaaDoorProg
import Derived.Below
import Derived.Deep.Draws
import Derived.Deep.AppendLies
import Derived.Maps.AppendAt
import Derived.OwnWalk
import Derived.Laws.BytesArg
import Derived.Laws.MakeOwn
import Derived.Laws.OwnMore
import Derived.Deep.OwnRows
import Derived.Tactics
import Derived.Lib.ConvBytes
import Derived.Laws.Slices
import Derived.WalkKit
import Derived.KernelRfl
import Derived.RowKit3
import Derived.Deep.LoopGhost
import Derived.Deep.QuietTactic
import Derived.BigQuiet
import Derived.WideLaws
import Derived.Deep.DeepCutAuto
import Derived.Deep.CutBlock
import Derived.Deep.RegionHeld3
import Derived.Laws.Rows
import Derived.Lib.AppendStr
import Derived.ArgAppend
import Derived.Laws.IdiomCopy
import Derived.OrdersHeld
import Derived.Laws.BitsLemmas
import Derived.RowKit
import Derived.Test.YtblceimapaenlaaDoorWWords
import Derived.Test.YtblceimapaenlaaDoorWLast
import Derived.Test.YtblceimapaenlaaDoorWTab
import Derived.Test.YtblceimapaenlaaDoorWFour
import Derived.Test.YtblceimapaenlaaDoorWQPut
import Derived.Test.YtblceimapaenlaaDoorWApart
import Derived.Test.YtblceimapaenlaaDoorWArr
import Derived.Test.YtblceimapaenlaaDoorWZeros
import Derived.Test.YtblceimapaenlaaDoorWFoot
import Derived.Test.YtblceimapaenlaaDoorWKept
import Derived.Test.YtblceimapaenlaaDoorWShare
import Derived.Test.YtblceimapaenlaaDoorWN
import Derived.Test.YtblceimapaenlaaDoorWFootNe
import Derived.Test.YtblceimapaenlaaDoorWAt
import Derived.Test.YtblceimapaenlaaDoorWEqStruct
import Derived.Test.YtblceimapaenlaaDoorWRepsOne
import Derived.Test.YtblceimapaenlaaDoorWInv
import Derived.Test.YtblceimapaenlaaDoorWInvWords
import Derived.Test.YtblceimapaenlaaDoorWGuard
import Derived.Test.YtblceimapaenlaaDoorWNEv
import Derived.Test.YtblceimapaenlaaDoorWMore
import Derived.Test.YtblceimapaenlaaDoorFix
import Derived.Test.YtblceimapaenlaaDoorSq
import Derived.Test.YtblceimapaenlaaDoorExt
import Derived.Test.YtblceimapaenlaaDoorDel
import Derived.Test.YtblceimapaenlaaDoorRep
import Derived.Test.YtblceimapaenlaaDoorHand
import Derived.Test.YtblceimapaenlaaDoorIto
namespace Go.Proofs.YtblceimapaenlaaDoor.PFnExactFormatAct
open Go.RowKit Go.Proofs.YtblceimapaenlaaDoorW.PrintWords Go.Proofs.YtblceimapaenlaaDoorW.PrintLast Go.Proofs.YtblceimapaenlaaDoorW.PrintMore
attribute [local go_sem] max2_int min2_int max_two min_two max_three min_three max_four min_four
attribute [local go_sem] Fix.isSome_setCell
set_option linter.unusedVariables false
set_option linter.unusedSimpArgs false



def errW : Option Int → Value
  | none => .nilIface
  | some c => .iface 0 (.int .i64 c)
theorem errW_none : errW none = .nilIface := rfl
theorem errW_some (c : Int) : errW (some c) = .iface 0 (.int .i64 c) := rfl

theorem info5 : (Tryd.prog.info? 5).map (fun i => (i.zero, i.size, i.bytes)) = some (some (.int .u8 0), 1, 1) := by kernel_rfl
theorem info9 : (Tryd.prog.info? 9).map (fun i => (i.zero, i.size, i.bytes)) = some (some (.string ⟨#[]⟩), 1, 16) := by kernel_rfl
-- the values' own types

end Go.Proofs.YtblceimapaenlaaDoor.PFnExactFormatAct
