/-
  No cell of these rows narrows 'for every input' (looked for: loops, veiled, ifaces, maps, wideKeys, modest, calm, conditions, laid).
  DERIVED. THE GIVEN ROWS OF THIS SEAT. 12 by the template 'for every input the law returns true; each argument reads behind the call as it read before'; 0 by the template 'total and deterministic' (their statements: YtjkhjfladhppkaaTotals.lean).
  GIVEN WITH THE SEED: the statements are not yours to turn. If you find one false, say at which input.
  Laid BY PROGRAM, IN A SANDBOX (cutbox-rows.mjs): the forced cells as the released guide's own fill.sh prints them over the translation a53bf92ffe851543… (all of the seat's roots in one cut). By AI agents, Wed Nov 11 2026. No macro, syntax, notation, axiom, sorry.
-/
import Derived.Test.YtjkhjfladhppkaaChecked
import GoSem.Claim
import GoSem.ClaimJoined
import GoSem.ClaimMapViews
import Derived.JoinedTies
import Derived.KernelRfl
namespace Go.Proofs.Ytjkhjfladhppkaa
/- THE CELL 'sum', in the pinned program and in every row, IS THE sha256 OF THE DUMP (.gsa) THAT YtjkhjfladhppkaaProg.lean LOADS. Nothing in Lean hashes anything: it is a label: what it is worth is what the hold of that sum in a sandbox is worth. -/
noncomputable def Try.pinned : Pinned := { name := "ytjkhjfladhppkaa", sum := "a53bf92ffe851543d7b09418c54ff2ba8bd96fb8ec5be50309ee9db5e63b22db", checked := Try.checked }
namespace Rows
def none {H : Type} : Left H := { results := [], args := [] }

/-- 'laws.FnExactCountStep': WHATEVER THE INPUT: true; the input reads as it did. -/
def fnExactCountStepSpec : ChangeSpec := { name := "fnExactCountStep", fn := fun _ => fun
  | [d1, d2] => { results := [.lit (.bool true)], args := [d1, d2] }
  | _ => none }
def fnExactCountStepRow : OpenClaim := { program := "ytjkhjfladhppkaa", sum := "a53bf92ffe851543d7b09418c54ff2ba8bd96fb8ec5be50309ee9db5e63b22db", func := "loop.example/g00987/laws.FnExactCountStep", spec := "fnExactCountStep", apart := false }
def FnExactCountStepSaid : Prop := fnExactCountStepRow.holds Try.pinned (OpenSpec.ofChange fnExactCountStepSpec)

/-- ITS FALSE NEIGHBOUR: 'it returns false'. Refute it at one input. -/
def fnExactCountStepWrong : ChangeSpec := { name := "fnExactCountStep", fn := fun _ => fun
  | [d1, d2] => { results := [.lit (.bool false)], args := [d1, d2] }
  | _ => none }
def FnExactCountStepWrongFalsely : Prop := fnExactCountStepRow.holds Try.pinned (OpenSpec.ofChange fnExactCountStepWrong)

/-- 'laws.FnExactCopyOf': WHATEVER THE INPUT: true; the input reads as it did. -/
def fnExactCopyOfSpec : ChangeSpec := { name := "fnExactCopyOf", fn := fun _ => fun
  | [d1, d2] => { results := [.lit (.bool true)], args := [d1, d2] }
  | _ => none }
def fnExactCopyOfRow : OpenClaim := { program := "ytjkhjfladhppkaa", sum := "a53bf92ffe851543d7b09418c54ff2ba8bd96fb8ec5be50309ee9db5e63b22db", func := "loop.example/g00987/laws.FnExactCopyOf", spec := "fnExactCopyOf", apart := false }
def FnExactCopyOfSaid : Prop := fnExactCopyOfRow.holds Try.pinned (OpenSpec.ofChange fnExactCopyOfSpec)

/-- ITS FALSE NEIGHBOUR: 'it returns false'. Refute it at one input. -/
def fnExactCopyOfWrong : ChangeSpec := { name := "fnExactCopyOf", fn := fun _ => fun
  | [d1, d2] => { results := [.lit (.bool false)], args := [d1, d2] }
  | _ => none }
def FnExactCopyOfWrongFalsely : Prop := fnExactCopyOfRow.holds Try.pinned (OpenSpec.ofChange fnExactCopyOfWrong)

/-- 'laws.FnExactSidePlace': WHATEVER THE INPUT: true; the input reads as it did. -/
def fnExactSidePlaceSpec : ChangeSpec := { name := "fnExactSidePlace", fn := fun _ => fun
  | [d1, d2] => { results := [.lit (.bool true)], args := [d1, d2] }
  | _ => none }
def fnExactSidePlaceRow : OpenClaim := { program := "ytjkhjfladhppkaa", sum := "a53bf92ffe851543d7b09418c54ff2ba8bd96fb8ec5be50309ee9db5e63b22db", func := "loop.example/g00987/laws.FnExactSidePlace", spec := "fnExactSidePlace", apart := false }
def FnExactSidePlaceSaid : Prop := fnExactSidePlaceRow.holds Try.pinned (OpenSpec.ofChange fnExactSidePlaceSpec)

/-- ITS FALSE NEIGHBOUR: 'it returns false'. Refute it at one input. -/
def fnExactSidePlaceWrong : ChangeSpec := { name := "fnExactSidePlace", fn := fun _ => fun
  | [d1, d2] => { results := [.lit (.bool false)], args := [d1, d2] }
  | _ => none }
def FnExactSidePlaceWrongFalsely : Prop := fnExactSidePlaceRow.holds Try.pinned (OpenSpec.ofChange fnExactSidePlaceWrong)

/-- 'laws.FnExactSplitCopies': WHATEVER THE INPUT: true; the input reads as it did. -/
def fnExactSplitCopiesSpec : ChangeSpec := { name := "fnExactSplitCopies", fn := fun _ => fun
  | [d] => { results := [.lit (.bool true)], args := [d] }
  | _ => none }
def fnExactSplitCopiesRow : OpenClaim := { program := "ytjkhjfladhppkaa", sum := "a53bf92ffe851543d7b09418c54ff2ba8bd96fb8ec5be50309ee9db5e63b22db", func := "loop.example/g00987/laws.FnExactSplitCopies", spec := "fnExactSplitCopies", apart := false }
def FnExactSplitCopiesSaid : Prop := fnExactSplitCopiesRow.holds Try.pinned (OpenSpec.ofChange fnExactSplitCopiesSpec)

/-- ITS FALSE NEIGHBOUR: 'it returns false'. Refute it at one input. -/
def fnExactSplitCopiesWrong : ChangeSpec := { name := "fnExactSplitCopies", fn := fun _ => fun
  | [d] => { results := [.lit (.bool false)], args := [d] }
  | _ => none }
def FnExactSplitCopiesWrongFalsely : Prop := fnExactSplitCopiesRow.holds Try.pinned (OpenSpec.ofChange fnExactSplitCopiesWrong)

/-- 'laws.FnExactFinishSteps': WHATEVER THE INPUT: true; the input reads as it did. -/
def fnExactFinishStepsSpec : ChangeSpec := { name := "fnExactFinishSteps", fn := fun _ => fun
  | [d1, d2, d3] => { results := [.lit (.bool true)], args := [d1, d2, d3] }
  | _ => none }
def fnExactFinishStepsRow : OpenClaim := { program := "ytjkhjfladhppkaa", sum := "a53bf92ffe851543d7b09418c54ff2ba8bd96fb8ec5be50309ee9db5e63b22db", func := "loop.example/g00987/laws.FnExactFinishSteps", spec := "fnExactFinishSteps", apart := false }
def FnExactFinishStepsSaid : Prop := fnExactFinishStepsRow.holds Try.pinned (OpenSpec.ofChange fnExactFinishStepsSpec)

/-- ITS FALSE NEIGHBOUR: 'it returns false'. Refute it at one input. -/
def fnExactFinishStepsWrong : ChangeSpec := { name := "fnExactFinishSteps", fn := fun _ => fun
  | [d1, d2, d3] => { results := [.lit (.bool false)], args := [d1, d2, d3] }
  | _ => none }
def FnExactFinishStepsWrongFalsely : Prop := fnExactFinishStepsRow.holds Try.pinned (OpenSpec.ofChange fnExactFinishStepsWrong)

/-- 'laws.FnExactLongestLoop': WHATEVER THE INPUT: true; the input reads as it did. -/
def fnExactLongestLoopSpec : ChangeSpec := { name := "fnExactLongestLoop", fn := fun _ => fun
  | [d] => { results := [.lit (.bool true)], args := [d] }
  | _ => none }
def fnExactLongestLoopRow : OpenClaim := { program := "ytjkhjfladhppkaa", sum := "a53bf92ffe851543d7b09418c54ff2ba8bd96fb8ec5be50309ee9db5e63b22db", func := "loop.example/g00987/laws.FnExactLongestLoop", spec := "fnExactLongestLoop", apart := false }
def FnExactLongestLoopSaid : Prop := fnExactLongestLoopRow.holds Try.pinned (OpenSpec.ofChange fnExactLongestLoopSpec)

/-- ITS FALSE NEIGHBOUR: 'it returns false'. Refute it at one input. -/
def fnExactLongestLoopWrong : ChangeSpec := { name := "fnExactLongestLoop", fn := fun _ => fun
  | [d] => { results := [.lit (.bool false)], args := [d] }
  | _ => none }
def FnExactLongestLoopWrongFalsely : Prop := fnExactLongestLoopRow.holds Try.pinned (OpenSpec.ofChange fnExactLongestLoopWrong)

/-- 'laws.FnCopies': WHATEVER THE INPUT: true; the input reads as it did. -/
def fnCopiesSpec : ChangeSpec := { name := "fnCopies", fn := fun _ => fun
  | [d] => { results := [.lit (.bool true)], args := [d] }
  | _ => none }
def fnCopiesRow : OpenClaim := { program := "ytjkhjfladhppkaa", sum := "a53bf92ffe851543d7b09418c54ff2ba8bd96fb8ec5be50309ee9db5e63b22db", func := "loop.example/g00987/laws.FnCopies", spec := "fnCopies", apart := false }
def FnCopiesSaid : Prop := fnCopiesRow.holds Try.pinned (OpenSpec.ofChange fnCopiesSpec)

/-- ITS FALSE NEIGHBOUR: 'it returns false'. Refute it at one input. -/
def fnCopiesWrong : ChangeSpec := { name := "fnCopies", fn := fun _ => fun
  | [d] => { results := [.lit (.bool false)], args := [d] }
  | _ => none }
def FnCopiesWrongFalsely : Prop := fnCopiesRow.holds Try.pinned (OpenSpec.ofChange fnCopiesWrong)

/-- 'laws.FnExactLoopOrder': WHATEVER THE INPUT: true; the input reads as it did. -/
def fnExactLoopOrderSpec : ChangeSpec := { name := "fnExactLoopOrder", fn := fun _ => fun
  | [d1, d2] => { results := [.lit (.bool true)], args := [d1, d2] }
  | _ => none }
def fnExactLoopOrderRow : OpenClaim := { program := "ytjkhjfladhppkaa", sum := "a53bf92ffe851543d7b09418c54ff2ba8bd96fb8ec5be50309ee9db5e63b22db", func := "loop.example/g00987/laws.FnExactLoopOrder", spec := "fnExactLoopOrder", apart := false }
def FnExactLoopOrderSaid : Prop := fnExactLoopOrderRow.holds Try.pinned (OpenSpec.ofChange fnExactLoopOrderSpec)

/-- ITS FALSE NEIGHBOUR: 'it returns false'. Refute it at one input. -/
def fnExactLoopOrderWrong : ChangeSpec := { name := "fnExactLoopOrder", fn := fun _ => fun
  | [d1, d2] => { results := [.lit (.bool false)], args := [d1, d2] }
  | _ => none }
def FnExactLoopOrderWrongFalsely : Prop := fnExactLoopOrderRow.holds Try.pinned (OpenSpec.ofChange fnExactLoopOrderWrong)

/-- 'laws.FnFinishes': WHATEVER THE INPUT: true; the input reads as it did. -/
def fnFinishesSpec : ChangeSpec := { name := "fnFinishes", fn := fun _ => fun
  | [d] => { results := [.lit (.bool true)], args := [d] }
  | _ => none }
def fnFinishesRow : OpenClaim := { program := "ytjkhjfladhppkaa", sum := "a53bf92ffe851543d7b09418c54ff2ba8bd96fb8ec5be50309ee9db5e63b22db", func := "loop.example/g00987/laws.FnFinishes", spec := "fnFinishes", apart := false }
def FnFinishesSaid : Prop := fnFinishesRow.holds Try.pinned (OpenSpec.ofChange fnFinishesSpec)

/-- ITS FALSE NEIGHBOUR: 'it returns false'. Refute it at one input. -/
def fnFinishesWrong : ChangeSpec := { name := "fnFinishes", fn := fun _ => fun
  | [d] => { results := [.lit (.bool false)], args := [d] }
  | _ => none }
def FnFinishesWrongFalsely : Prop := fnFinishesRow.holds Try.pinned (OpenSpec.ofChange fnFinishesWrong)

/-- 'laws.FnLoops': WHATEVER THE INPUT: true; the input reads as it did. -/
def fnLoopsSpec : ChangeSpec := { name := "fnLoops", fn := fun _ => fun
  | [d] => { results := [.lit (.bool true)], args := [d] }
  | _ => none }
def fnLoopsRow : OpenClaim := { program := "ytjkhjfladhppkaa", sum := "a53bf92ffe851543d7b09418c54ff2ba8bd96fb8ec5be50309ee9db5e63b22db", func := "loop.example/g00987/laws.FnLoops", spec := "fnLoops", apart := false }
def FnLoopsSaid : Prop := fnLoopsRow.holds Try.pinned (OpenSpec.ofChange fnLoopsSpec)

/-- ITS FALSE NEIGHBOUR: 'it returns false'. Refute it at one input. -/
def fnLoopsWrong : ChangeSpec := { name := "fnLoops", fn := fun _ => fun
  | [d] => { results := [.lit (.bool false)], args := [d] }
  | _ => none }
def FnLoopsWrongFalsely : Prop := fnLoopsRow.holds Try.pinned (OpenSpec.ofChange fnLoopsWrong)

/-- 'laws.FnExactPlanArrivals': WHATEVER THE INPUT: true; the input reads as it did. -/
def fnExactPlanArrivalsSpec : ChangeSpec := { name := "fnExactPlanArrivals", fn := fun _ => fun
  | [d1, d2, d3, d4] => { results := [.lit (.bool true)], args := [d1, d2, d3, d4] }
  | _ => none }
def fnExactPlanArrivalsRow : OpenClaim := { program := "ytjkhjfladhppkaa", sum := "a53bf92ffe851543d7b09418c54ff2ba8bd96fb8ec5be50309ee9db5e63b22db", func := "loop.example/g00987/laws.FnExactPlanArrivals", spec := "fnExactPlanArrivals", apart := false }
def FnExactPlanArrivalsSaid : Prop := fnExactPlanArrivalsRow.holds Try.pinned (OpenSpec.ofChange fnExactPlanArrivalsSpec)

/-- ITS FALSE NEIGHBOUR: 'it returns false'. Refute it at one input. -/
def fnExactPlanArrivalsWrong : ChangeSpec := { name := "fnExactPlanArrivals", fn := fun _ => fun
  | [d1, d2, d3, d4] => { results := [.lit (.bool false)], args := [d1, d2, d3, d4] }
  | _ => none }
def FnExactPlanArrivalsWrongFalsely : Prop := fnExactPlanArrivalsRow.holds Try.pinned (OpenSpec.ofChange fnExactPlanArrivalsWrong)

/-- 'laws.FnExactActOk': WHATEVER THE INPUT: true; the input reads as it did. -/
def fnExactActOkSpec : ChangeSpec := { name := "fnExactActOk", fn := fun _ => fun
  | [d] => { results := [.lit (.bool true)], args := [d] }
  | _ => none }
def fnExactActOkRow : OpenClaim := { program := "ytjkhjfladhppkaa", sum := "a53bf92ffe851543d7b09418c54ff2ba8bd96fb8ec5be50309ee9db5e63b22db", func := "loop.example/g00987/laws.FnExactActOk", spec := "fnExactActOk", apart := false }
def FnExactActOkSaid : Prop := fnExactActOkRow.holds Try.pinned (OpenSpec.ofChange fnExactActOkSpec)

/-- ITS FALSE NEIGHBOUR: 'it returns false'. Refute it at one input. -/
def fnExactActOkWrong : ChangeSpec := { name := "fnExactActOk", fn := fun _ => fun
  | [d] => { results := [.lit (.bool false)], args := [d] }
  | _ => none }
def FnExactActOkWrongFalsely : Prop := fnExactActOkRow.holds Try.pinned (OpenSpec.ofChange fnExactActOkWrong)

/- THE SECOND FORM. 'bulk': how many values and letters a reading holds, each counted each time it is reached (what is shared counts as often as it is met; a slice's spare places count too). A statement '..UptoSaid' is the law's where the arguments, and the package variables that the reading takes, are together of bulk at most 1048576: NARROWER than '..Said'. Prove '..Said' where nothing that the law and all that it calls make is longer than what came in: it says more and counts as full. Else prove '..UptoSaid'. A law counts once. -/
mutual
def uptoBulk {H : Type} : DataW H → Nat
  | .lit (.string bytes) => bytes.length + 1
  | .lit _ => 1
  | .nil => 1
  | .ptr d => uptoBulk d + 1
  | .slice elems spare => uptoBulkAll elems + uptoBulkAll spare + 1
  | .agg parts => uptoBulkAll parts + 1
  | .iface _ d => uptoBulk d + 1
  | .map entries => uptoBulkEntries entries + 1
  | .held _ => 1
def uptoBulkAll {H : Type} : List (DataW H) → Nat
  | [] => 0
  | d :: r => uptoBulk d + uptoBulkAll r
def uptoBulkEntries {H : Type} : List (Lit × DataW H) → Nat
  | [] => 0
  | x :: r => uptoBulkEntry x + uptoBulkEntries r
def uptoBulkEntry {H : Type} : Lit × DataW H → Nat
  | (.string bytes, d) => bytes.length + uptoBulk d + 1
  | (_, d) => uptoBulk d + 1
 end
def uptoSmall : (H : Type) → List (DataW H) → Bool := fun _ ds => decide (uptoBulkAll ds ≤ 1048576)
def OpenSpec.upto (s : _root_.Go.ChangeSpec) : _root_.Go.OpenSpec := { _root_.Go.OpenSpec.ofChange s with cond := some uptoSmall }

/-- 'laws.FnExactCountStep', WHERE WHAT IT READS IS OF BULK AT MOST 1048576: true; the input reads as it did. -/
def fnExactCountStepUptoRow : OpenClaim := { program := "ytjkhjfladhppkaa", sum := "a53bf92ffe851543d7b09418c54ff2ba8bd96fb8ec5be50309ee9db5e63b22db", func := "loop.example/g00987/laws.FnExactCountStep", spec := "fnExactCountStep", apart := false, narrowed := true }
def FnExactCountStepUptoSaid : Prop := fnExactCountStepUptoRow.holds Try.pinned (OpenSpec.upto fnExactCountStepSpec)

/-- 'laws.FnExactCopyOf', WHERE WHAT IT READS IS OF BULK AT MOST 1048576: true; the input reads as it did. -/
def fnExactCopyOfUptoRow : OpenClaim := { program := "ytjkhjfladhppkaa", sum := "a53bf92ffe851543d7b09418c54ff2ba8bd96fb8ec5be50309ee9db5e63b22db", func := "loop.example/g00987/laws.FnExactCopyOf", spec := "fnExactCopyOf", apart := false, narrowed := true }
def FnExactCopyOfUptoSaid : Prop := fnExactCopyOfUptoRow.holds Try.pinned (OpenSpec.upto fnExactCopyOfSpec)

/-- 'laws.FnExactSidePlace', WHERE WHAT IT READS IS OF BULK AT MOST 1048576: true; the input reads as it did. -/
def fnExactSidePlaceUptoRow : OpenClaim := { program := "ytjkhjfladhppkaa", sum := "a53bf92ffe851543d7b09418c54ff2ba8bd96fb8ec5be50309ee9db5e63b22db", func := "loop.example/g00987/laws.FnExactSidePlace", spec := "fnExactSidePlace", apart := false, narrowed := true }
def FnExactSidePlaceUptoSaid : Prop := fnExactSidePlaceUptoRow.holds Try.pinned (OpenSpec.upto fnExactSidePlaceSpec)

/-- 'laws.FnExactSplitCopies', WHERE WHAT IT READS IS OF BULK AT MOST 1048576: true; the input reads as it did. -/
def fnExactSplitCopiesUptoRow : OpenClaim := { program := "ytjkhjfladhppkaa", sum := "a53bf92ffe851543d7b09418c54ff2ba8bd96fb8ec5be50309ee9db5e63b22db", func := "loop.example/g00987/laws.FnExactSplitCopies", spec := "fnExactSplitCopies", apart := false, narrowed := true }
def FnExactSplitCopiesUptoSaid : Prop := fnExactSplitCopiesUptoRow.holds Try.pinned (OpenSpec.upto fnExactSplitCopiesSpec)

/-- 'laws.FnExactFinishSteps', WHERE WHAT IT READS IS OF BULK AT MOST 1048576: true; the input reads as it did. -/
def fnExactFinishStepsUptoRow : OpenClaim := { program := "ytjkhjfladhppkaa", sum := "a53bf92ffe851543d7b09418c54ff2ba8bd96fb8ec5be50309ee9db5e63b22db", func := "loop.example/g00987/laws.FnExactFinishSteps", spec := "fnExactFinishSteps", apart := false, narrowed := true }
def FnExactFinishStepsUptoSaid : Prop := fnExactFinishStepsUptoRow.holds Try.pinned (OpenSpec.upto fnExactFinishStepsSpec)

/-- 'laws.FnExactLongestLoop', WHERE WHAT IT READS IS OF BULK AT MOST 1048576: true; the input reads as it did. -/
def fnExactLongestLoopUptoRow : OpenClaim := { program := "ytjkhjfladhppkaa", sum := "a53bf92ffe851543d7b09418c54ff2ba8bd96fb8ec5be50309ee9db5e63b22db", func := "loop.example/g00987/laws.FnExactLongestLoop", spec := "fnExactLongestLoop", apart := false, narrowed := true }
def FnExactLongestLoopUptoSaid : Prop := fnExactLongestLoopUptoRow.holds Try.pinned (OpenSpec.upto fnExactLongestLoopSpec)

/-- 'laws.FnCopies', WHERE WHAT IT READS IS OF BULK AT MOST 1048576: true; the input reads as it did. -/
def fnCopiesUptoRow : OpenClaim := { program := "ytjkhjfladhppkaa", sum := "a53bf92ffe851543d7b09418c54ff2ba8bd96fb8ec5be50309ee9db5e63b22db", func := "loop.example/g00987/laws.FnCopies", spec := "fnCopies", apart := false, narrowed := true }
def FnCopiesUptoSaid : Prop := fnCopiesUptoRow.holds Try.pinned (OpenSpec.upto fnCopiesSpec)

/-- 'laws.FnExactLoopOrder', WHERE WHAT IT READS IS OF BULK AT MOST 1048576: true; the input reads as it did. -/
def fnExactLoopOrderUptoRow : OpenClaim := { program := "ytjkhjfladhppkaa", sum := "a53bf92ffe851543d7b09418c54ff2ba8bd96fb8ec5be50309ee9db5e63b22db", func := "loop.example/g00987/laws.FnExactLoopOrder", spec := "fnExactLoopOrder", apart := false, narrowed := true }
def FnExactLoopOrderUptoSaid : Prop := fnExactLoopOrderUptoRow.holds Try.pinned (OpenSpec.upto fnExactLoopOrderSpec)

/-- 'laws.FnFinishes', WHERE WHAT IT READS IS OF BULK AT MOST 1048576: true; the input reads as it did. -/
def fnFinishesUptoRow : OpenClaim := { program := "ytjkhjfladhppkaa", sum := "a53bf92ffe851543d7b09418c54ff2ba8bd96fb8ec5be50309ee9db5e63b22db", func := "loop.example/g00987/laws.FnFinishes", spec := "fnFinishes", apart := false, narrowed := true }
def FnFinishesUptoSaid : Prop := fnFinishesUptoRow.holds Try.pinned (OpenSpec.upto fnFinishesSpec)

/-- 'laws.FnLoops', WHERE WHAT IT READS IS OF BULK AT MOST 1048576: true; the input reads as it did. -/
def fnLoopsUptoRow : OpenClaim := { program := "ytjkhjfladhppkaa", sum := "a53bf92ffe851543d7b09418c54ff2ba8bd96fb8ec5be50309ee9db5e63b22db", func := "loop.example/g00987/laws.FnLoops", spec := "fnLoops", apart := false, narrowed := true }
def FnLoopsUptoSaid : Prop := fnLoopsUptoRow.holds Try.pinned (OpenSpec.upto fnLoopsSpec)

/-- 'laws.FnExactPlanArrivals', WHERE WHAT IT READS IS OF BULK AT MOST 1048576: true; the input reads as it did. -/
def fnExactPlanArrivalsUptoRow : OpenClaim := { program := "ytjkhjfladhppkaa", sum := "a53bf92ffe851543d7b09418c54ff2ba8bd96fb8ec5be50309ee9db5e63b22db", func := "loop.example/g00987/laws.FnExactPlanArrivals", spec := "fnExactPlanArrivals", apart := false, narrowed := true }
def FnExactPlanArrivalsUptoSaid : Prop := fnExactPlanArrivalsUptoRow.holds Try.pinned (OpenSpec.upto fnExactPlanArrivalsSpec)

/-- 'laws.FnExactActOk', WHERE WHAT IT READS IS OF BULK AT MOST 1048576: true; the input reads as it did. -/
def fnExactActOkUptoRow : OpenClaim := { program := "ytjkhjfladhppkaa", sum := "a53bf92ffe851543d7b09418c54ff2ba8bd96fb8ec5be50309ee9db5e63b22db", func := "loop.example/g00987/laws.FnExactActOk", spec := "fnExactActOk", apart := false, narrowed := true }
def FnExactActOkUptoSaid : Prop := fnExactActOkUptoRow.holds Try.pinned (OpenSpec.upto fnExactActOkSpec)

end Rows
end Go.Proofs.Ytjkhjfladhppkaa
