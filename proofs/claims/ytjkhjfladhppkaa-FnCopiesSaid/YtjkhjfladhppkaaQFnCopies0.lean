/- FnCopies: the functions that the law reaches, each as a plain Lean function, and that a call does what it says. Made by a program of this work (wip/mp.py) out of the kit's print. No condition. -/
import Derived.Test.YtjkhjfladhppkaaProg
import Derived.Below
import Derived.Deep.Draws
import Derived.Deep.AppendLies
import Derived.Maps.AppendAt
import Derived.OwnWalk
import Derived.Laws.BytesArg
import Derived.Laws.MakeOwn
import Derived.Laws.OwnMore
import Derived.Deep.OwnRows
import Derived.Tactics
import Derived.Lib.ConvBytes
import Derived.Laws.Slices
import Derived.WalkKit
import Derived.KernelRfl
import Derived.RowKit3
import Derived.Deep.LoopGhost
import Derived.Deep.QuietTactic
import Derived.BigQuiet
import Derived.WideLaws
import Derived.Deep.DeepCutAuto
import Derived.Deep.CutBlock
import Derived.Deep.RegionHeld3
import Derived.Laws.Rows
import Derived.Lib.AppendStr
import Derived.ArgAppend
import Derived.Laws.IdiomCopy
import Derived.OrdersHeld
import Derived.Laws.BitsLemmas
import Derived.RowKit
import Derived.Test.YtjkhjfladhppkaaWWords
import Derived.Test.YtjkhjfladhppkaaWLast
import Derived.Test.YtjkhjfladhppkaaWTab
import Derived.Test.YtjkhjfladhppkaaWFour
import Derived.Test.YtjkhjfladhppkaaWQPut
import Derived.Test.YtjkhjfladhppkaaWApart
import Derived.Test.YtjkhjfladhppkaaWArr
import Derived.Test.YtjkhjfladhppkaaWZeros
import Derived.Test.YtjkhjfladhppkaaWFoot
import Derived.Test.YtjkhjfladhppkaaWKept
import Derived.Test.YtjkhjfladhppkaaWShare
import Derived.Test.YtjkhjfladhppkaaWN
import Derived.Test.YtjkhjfladhppkaaWFootNe
import Derived.Test.YtjkhjfladhppkaaWAt
import Derived.Test.YtjkhjfladhppkaaWEqStruct
import Derived.Test.YtjkhjfladhppkaaWRepsOne
import Derived.Test.YtjkhjfladhppkaaWInv
import Derived.Test.YtjkhjfladhppkaaWInvWords
import Derived.Test.YtjkhjfladhppkaaWGuard
import Derived.Test.YtjkhjfladhppkaaWNEv
import Derived.Test.YtjkhjfladhppkaaWMore
import Derived.Test.YtjkhjfladhppkaaFix
namespace Go.Proofs.Ytjkhjfladhppkaa.PFnCopies
open Go.RowKit Go.Proofs.YtjkhjfladhppkaaW.PrintWords Go.Proofs.YtjkhjfladhppkaaW.PrintLast Go.Proofs.YtjkhjfladhppkaaW.PrintMore
attribute [local go_sem] max2_int min2_int max_two min_two max_three min_three max_four min_four
attribute [local go_sem] Fix.isSome_setCell
set_option linter.unusedVariables false
set_option linter.unusedSimpArgs false



def errW : Option Int → Value
  | none => .nilIface
  | some c => .iface 0 (.int .i64 c)
theorem errW_none : errW none = .nilIface := rfl
theorem errW_some (c : Int) : errW (some c) = .iface 0 (.int .i64 c) := rfl

theorem info3 : (Try.prog.info? 3).map (fun i => (i.zero, i.size, i.bytes)) = some (some (.int .i64 0), 1, 8) := by kernel_rfl
-- the values' own types

end Go.Proofs.Ytjkhjfladhppkaa.PFnCopies
