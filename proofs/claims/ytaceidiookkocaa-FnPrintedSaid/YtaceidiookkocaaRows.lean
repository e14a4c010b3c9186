/-
  No cell of these rows narrows 'for every input' (looked for: loops, veiled, ifaces, maps, wideKeys, modest, calm, conditions, laid).
  DERIVED. THE GIVEN ROWS OF THIS SEAT. 5 by the template 'for every input the law returns true; each argument reads behind the call as it read before'; 0 by the template 'total and deterministic' (their statements: YtaceidiookkocaaTotals.lean).
  GIVEN WITH THE SEED: the statements are not yours to turn. If you find one false, say at which input.
  Laid BY PROGRAM, IN A SANDBOX (cutbox-rows.mjs): the forced cells as the released guide's own fill.sh prints them over the translation 2f3c2253335bfe8b… (all of the seat's roots in one cut). By AI agents, Wed Nov 11 2026. No macro, syntax, notation, axiom, sorry.
-/
import Derived.Test.YtaceidiookkocaaChecked
import GoSem.Claim
import GoSem.ClaimJoined
import GoSem.ClaimMapViews
import Derived.JoinedTies
import Derived.KernelRfl
namespace Go.Proofs.Ytaceidiookkocaa
/- THE CELL 'sum', in the pinned program and in every row, IS THE sha256 OF THE DUMP (.gsa) THAT YtaceidiookkocaaProg.lean LOADS. Nothing in Lean hashes anything: it is a label: what it is worth is what the hold of that sum in a sandbox is worth. -/
noncomputable def Try.pinned : Pinned := { name := "ytaceidiookkocaa", sum := "2f3c2253335bfe8bca59a86106c2f2cb3881da46046de9dbe3aa54713f88e244", checked := Try.checked }
namespace Rows
def none {H : Type} : Left H := { results := [], args := [] }

/-- 'laws.FnExactInkCoverage': WHATEVER THE INPUT: true; the input reads as it did. -/
def fnExactInkCoverageSpec : ChangeSpec := { name := "fnExactInkCoverage", fn := fun _ => fun
  | [d] => { results := [.lit (.bool true)], args := [d] }
  | _ => none }
def fnExactInkCoverageRow : OpenClaim := { program := "ytaceidiookkocaa", sum := "2f3c2253335bfe8bca59a86106c2f2cb3881da46046de9dbe3aa54713f88e244", func := "loop.example/g00987/laws.FnExactInkCoverage", spec := "fnExactInkCoverage", apart := false }
def FnExactInkCoverageSaid : Prop := fnExactInkCoverageRow.holds Try.pinned (OpenSpec.ofChange fnExactInkCoverageSpec)

/-- ITS FALSE NEIGHBOUR: 'it returns false'. Refute it at one input. -/
def fnExactInkCoverageWrong : ChangeSpec := { name := "fnExactInkCoverage", fn := fun _ => fun
  | [d] => { results := [.lit (.bool false)], args := [d] }
  | _ => none }
def FnExactInkCoverageWrongFalsely : Prop := fnExactInkCoverageRow.holds Try.pinned (OpenSpec.ofChange fnExactInkCoverageWrong)

/-- 'laws.FnExactSamePrints': WHATEVER THE INPUT: true; the input reads as it did. -/
def fnExactSamePrintsSpec : ChangeSpec := { name := "fnExactSamePrints", fn := fun _ => fun
  | [d1, d2] => { results := [.lit (.bool true)], args := [d1, d2] }
  | _ => none }
def fnExactSamePrintsRow : OpenClaim := { program := "ytaceidiookkocaa", sum := "2f3c2253335bfe8bca59a86106c2f2cb3881da46046de9dbe3aa54713f88e244", func := "loop.example/g00987/laws.FnExactSamePrints", spec := "fnExactSamePrints", unfollowed := true, recurses := true, apart := false }
def FnExactSamePrintsSaid : Prop := fnExactSamePrintsRow.holds Try.pinned (OpenSpec.ofChange fnExactSamePrintsSpec)

/-- ITS FALSE NEIGHBOUR: 'it returns false'. Refute it at one input. -/
def fnExactSamePrintsWrong : ChangeSpec := { name := "fnExactSamePrints", fn := fun _ => fun
  | [d1, d2] => { results := [.lit (.bool false)], args := [d1, d2] }
  | _ => none }
def FnExactSamePrintsWrongFalsely : Prop := fnExactSamePrintsRow.holds Try.pinned (OpenSpec.ofChange fnExactSamePrintsWrong)

/-- 'laws.FnHalftones': WHATEVER THE INPUT: true; the input reads as it did. -/
def fnHalftonesSpec : ChangeSpec := { name := "fnHalftones", fn := fun _ => fun
  | [d] => { results := [.lit (.bool true)], args := [d] }
  | _ => none }
def fnHalftonesRow : OpenClaim := { program := "ytaceidiookkocaa", sum := "2f3c2253335bfe8bca59a86106c2f2cb3881da46046de9dbe3aa54713f88e244", func := "loop.example/g00987/laws.FnHalftones", spec := "fnHalftones", apart := false }
def FnHalftonesSaid : Prop := fnHalftonesRow.holds Try.pinned (OpenSpec.ofChange fnHalftonesSpec)

/-- ITS FALSE NEIGHBOUR: 'it returns false'. Refute it at one input. -/
def fnHalftonesWrong : ChangeSpec := { name := "fnHalftones", fn := fun _ => fun
  | [d] => { results := [.lit (.bool false)], args := [d] }
  | _ => none }
def FnHalftonesWrongFalsely : Prop := fnHalftonesRow.holds Try.pinned (OpenSpec.ofChange fnHalftonesWrong)

/-- 'laws.FnExactHalftonePage': WHATEVER THE INPUT: true; the input reads as it did. -/
def fnExactHalftonePageSpec : ChangeSpec := { name := "fnExactHalftonePage", fn := fun _ => fun
  | [d1, d2] => { results := [.lit (.bool true)], args := [d1, d2] }
  | _ => none }
def fnExactHalftonePageRow : OpenClaim := { program := "ytaceidiookkocaa", sum := "2f3c2253335bfe8bca59a86106c2f2cb3881da46046de9dbe3aa54713f88e244", func := "loop.example/g00987/laws.FnExactHalftonePage", spec := "fnExactHalftonePage", apart := false }
def FnExactHalftonePageSaid : Prop := fnExactHalftonePageRow.holds Try.pinned (OpenSpec.ofChange fnExactHalftonePageSpec)

/-- ITS FALSE NEIGHBOUR: 'it returns false'. Refute it at one input. -/
def fnExactHalftonePageWrong : ChangeSpec := { name := "fnExactHalftonePage", fn := fun _ => fun
  | [d1, d2] => { results := [.lit (.bool false)], args := [d1, d2] }
  | _ => none }
def FnExactHalftonePageWrongFalsely : Prop := fnExactHalftonePageRow.holds Try.pinned (OpenSpec.ofChange fnExactHalftonePageWrong)

/-- 'laws.FnPrinted': WHATEVER THE INPUT: true; the input reads as it did. -/
def fnPrintedSpec : ChangeSpec := { name := "fnPrinted", fn := fun _ => fun
  | [d] => { results := [.lit (.bool true)], args := [d] }
  | _ => none }
def fnPrintedRow : OpenClaim := { program := "ytaceidiookkocaa", sum := "2f3c2253335bfe8bca59a86106c2f2cb3881da46046de9dbe3aa54713f88e244", func := "loop.example/g00987/laws.FnPrinted", spec := "fnPrinted", unfollowed := true, recurses := true, apart := false }
def FnPrintedSaid : Prop := fnPrintedRow.holds Try.pinned (OpenSpec.ofChange fnPrintedSpec)

/-- ITS FALSE NEIGHBOUR: 'it returns false'. Refute it at one input. -/
def fnPrintedWrong : ChangeSpec := { name := "fnPrinted", fn := fun _ => fun
  | [d] => { results := [.lit (.bool false)], args := [d] }
  | _ => none }
def FnPrintedWrongFalsely : Prop := fnPrintedRow.holds Try.pinned (OpenSpec.ofChange fnPrintedWrong)

/- THE SECOND FORM. 'bulk': how many values and letters a reading holds, each counted each time it is reached (what is shared counts as often as it is met; a slice's spare places count too). A statement '..UptoSaid' is the law's where the arguments, and the package variables that the reading takes, are together of bulk at most 1048576: NARROWER than '..Said'. Prove '..Said' where nothing that the law and all that it calls make is longer than what came in: it says more and counts as full. Else prove '..UptoSaid'. A law counts once. -/
mutual
def uptoBulk {H : Type} : DataW H → Nat
  | .lit (.string bytes) => bytes.length + 1
  | .lit _ => 1
  | .nil => 1
  | .ptr d => uptoBulk d + 1
  | .slice elems spare => uptoBulkAll elems + uptoBulkAll spare + 1
  | .agg parts => uptoBulkAll parts + 1
  | .iface _ d => uptoBulk d + 1
  | .map entries => uptoBulkEntries entries + 1
  | .held _ => 1
def uptoBulkAll {H : Type} : List (DataW H) → Nat
  | [] => 0
  | d :: r => uptoBulk d + uptoBulkAll r
def uptoBulkEntries {H : Type} : List (Lit × DataW H) → Nat
  | [] => 0
  | x :: r => uptoBulkEntry x + uptoBulkEntries r
def uptoBulkEntry {H : Type} : Lit × DataW H → Nat
  | (.string bytes, d) => bytes.length + uptoBulk d + 1
  | (_, d) => uptoBulk d + 1
 end
def uptoSmall : (H : Type) → List (DataW H) → Bool := fun _ ds => decide (uptoBulkAll ds ≤ 1048576)
def OpenSpec.upto (s : _root_.Go.ChangeSpec) : _root_.Go.OpenSpec := { _root_.Go.OpenSpec.ofChange s with cond := some uptoSmall }

/-- 'laws.FnExactInkCoverage', WHERE WHAT IT READS IS OF BULK AT MOST 1048576: true; the input reads as it did. -/
def fnExactInkCoverageUptoRow : OpenClaim := { program := "ytaceidiookkocaa", sum := "2f3c2253335bfe8bca59a86106c2f2cb3881da46046de9dbe3aa54713f88e244", func := "loop.example/g00987/laws.FnExactInkCoverage", spec := "fnExactInkCoverage", apart := false, narrowed := true }
def FnExactInkCoverageUptoSaid : Prop := fnExactInkCoverageUptoRow.holds Try.pinned (OpenSpec.upto fnExactInkCoverageSpec)

/-- 'laws.FnExactSamePrints', WHERE WHAT IT READS IS OF BULK AT MOST 1048576: true; the input reads as it did. -/
def fnExactSamePrintsUptoRow : OpenClaim := { program := "ytaceidiookkocaa", sum := "2f3c2253335bfe8bca59a86106c2f2cb3881da46046de9dbe3aa54713f88e244", func := "loop.example/g00987/laws.FnExactSamePrints", spec := "fnExactSamePrints", unfollowed := true, recurses := true, apart := false, narrowed := true }
def FnExactSamePrintsUptoSaid : Prop := fnExactSamePrintsUptoRow.holds Try.pinned (OpenSpec.upto fnExactSamePrintsSpec)

/-- 'laws.FnHalftones', WHERE WHAT IT READS IS OF BULK AT MOST 1048576: true; the input reads as it did. -/
def fnHalftonesUptoRow : OpenClaim := { program := "ytaceidiookkocaa", sum := "2f3c2253335bfe8bca59a86106c2f2cb3881da46046de9dbe3aa54713f88e244", func := "loop.example/g00987/laws.FnHalftones", spec := "fnHalftones", apart := false, narrowed := true }
def FnHalftonesUptoSaid : Prop := fnHalftonesUptoRow.holds Try.pinned (OpenSpec.upto fnHalftonesSpec)

/-- 'laws.FnExactHalftonePage', WHERE WHAT IT READS IS OF BULK AT MOST 1048576: true; the input reads as it did. -/
def fnExactHalftonePageUptoRow : OpenClaim := { program := "ytaceidiookkocaa", sum := "2f3c2253335bfe8bca59a86106c2f2cb3881da46046de9dbe3aa54713f88e244", func := "loop.example/g00987/laws.FnExactHalftonePage", spec := "fnExactHalftonePage", apart := false, narrowed := true }
def FnExactHalftonePageUptoSaid : Prop := fnExactHalftonePageUptoRow.holds Try.pinned (OpenSpec.upto fnExactHalftonePageSpec)

/-- 'laws.FnPrinted', WHERE WHAT IT READS IS OF BULK AT MOST 1048576: true; the input reads as it did. -/
def fnPrintedUptoRow : OpenClaim := { program := "ytaceidiookkocaa", sum := "2f3c2253335bfe8bca59a86106c2f2cb3881da46046de9dbe3aa54713f88e244", func := "loop.example/g00987/laws.FnPrinted", spec := "fnPrinted", unfollowed := true, recurses := true, apart := false, narrowed := true }
def FnPrintedUptoSaid : Prop := fnPrintedUptoRow.holds Try.pinned (OpenSpec.upto fnPrintedSpec)

end Rows
end Go.Proofs.Ytaceidiookkocaa
