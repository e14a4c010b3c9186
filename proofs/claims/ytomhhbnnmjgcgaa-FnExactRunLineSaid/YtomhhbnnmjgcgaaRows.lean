/-
  No cell of these rows narrows 'for every input' (looked for: loops, veiled, ifaces, maps, wideKeys, modest, calm, conditions, laid).
  DERIVED. THE GIVEN ROWS OF THIS SEAT. 8 by the template 'for every input the law returns true; each argument reads behind the call as it read before'; 0 by the template 'total and deterministic' (their statements: YtomhhbnnmjgcgaaTotals.lean).
  GIVEN WITH THE SEED: the statements are not yours to turn. If you find one false, say at which input.
  Laid BY PROGRAM, IN A SANDBOX (cutbox-rows.mjs): the forced cells as the released guide's own fill.sh prints them over the translation dee67b3e69307748… (all of the seat's roots in one cut). By AI agents, Wed Nov 11 2026. No macro, syntax, notation, axiom, sorry.
-/
import Derived.Test.YtomhhbnnmjgcgaaChecked
import GoSem.Claim
import GoSem.ClaimJoined
import GoSem.ClaimMapViews
import Derived.JoinedTies
import Derived.KernelRfl
namespace Go.Proofs.Ytomhhbnnmjgcgaa
/- THE CELL 'sum', in the pinned program and in every row, IS THE sha256 OF THE DUMP (.gsa) THAT YtomhhbnnmjgcgaaProg.lean LOADS. Nothing in Lean hashes anything: it is a label: what it is worth is what the hold of that sum in a sandbox is worth. -/
noncomputable def Try.pinned : Pinned := { name := "ytomhhbnnmjgcgaa", sum := "dee67b3e69307748dd46c457942a4747614e885bb5c98d8b97afd584a005ad9f", checked := Try.checked }
namespace Rows
def none {H : Type} : Left H := { results := [], args := [] }

/-- 'laws.FnDelivered': WHATEVER THE INPUT: true; the input reads as it did. -/
def fnDeliveredSpec : ChangeSpec := { name := "fnDelivered", fn := fun _ => fun
  | [d] => { results := [.lit (.bool true)], args := [d] }
  | _ => none }
def fnDeliveredRow : OpenClaim := { program := "ytomhhbnnmjgcgaa", sum := "dee67b3e69307748dd46c457942a4747614e885bb5c98d8b97afd584a005ad9f", func := "loop.example/g00987/laws.FnDelivered", spec := "fnDelivered", apart := false }
def FnDeliveredSaid : Prop := fnDeliveredRow.holds Try.pinned (OpenSpec.ofChange fnDeliveredSpec)

/-- ITS FALSE NEIGHBOUR: 'it returns false'. Refute it at one input. -/
def fnDeliveredWrong : ChangeSpec := { name := "fnDelivered", fn := fun _ => fun
  | [d] => { results := [.lit (.bool false)], args := [d] }
  | _ => none }
def FnDeliveredWrongFalsely : Prop := fnDeliveredRow.holds Try.pinned (OpenSpec.ofChange fnDeliveredWrong)

/-- 'laws.FnExactNewLine': WHATEVER THE INPUT: true; the input reads as it did. -/
def fnExactNewLineSpec : ChangeSpec := { name := "fnExactNewLine", fn := fun _ => fun
  | [d] => { results := [.lit (.bool true)], args := [d] }
  | _ => none }
def fnExactNewLineRow : OpenClaim := { program := "ytomhhbnnmjgcgaa", sum := "dee67b3e69307748dd46c457942a4747614e885bb5c98d8b97afd584a005ad9f", func := "loop.example/g00987/laws.FnExactNewLine", spec := "fnExactNewLine", apart := false }
def FnExactNewLineSaid : Prop := fnExactNewLineRow.holds Try.pinned (OpenSpec.ofChange fnExactNewLineSpec)

/-- ITS FALSE NEIGHBOUR: 'it returns false'. Refute it at one input. -/
def fnExactNewLineWrong : ChangeSpec := { name := "fnExactNewLine", fn := fun _ => fun
  | [d] => { results := [.lit (.bool false)], args := [d] }
  | _ => none }
def FnExactNewLineWrongFalsely : Prop := fnExactNewLineRow.holds Try.pinned (OpenSpec.ofChange fnExactNewLineWrong)

/-- 'laws.FnExactLineOk': WHATEVER THE INPUT: true; the input reads as it did. -/
def fnExactLineOkSpec : ChangeSpec := { name := "fnExactLineOk", fn := fun _ => fun
  | [d] => { results := [.lit (.bool true)], args := [d] }
  | _ => none }
def fnExactLineOkRow : OpenClaim := { program := "ytomhhbnnmjgcgaa", sum := "dee67b3e69307748dd46c457942a4747614e885bb5c98d8b97afd584a005ad9f", func := "loop.example/g00987/laws.FnExactLineOk", spec := "fnExactLineOk", apart := false }
def FnExactLineOkSaid : Prop := fnExactLineOkRow.holds Try.pinned (OpenSpec.ofChange fnExactLineOkSpec)

/-- ITS FALSE NEIGHBOUR: 'it returns false'. Refute it at one input. -/
def fnExactLineOkWrong : ChangeSpec := { name := "fnExactLineOk", fn := fun _ => fun
  | [d] => { results := [.lit (.bool false)], args := [d] }
  | _ => none }
def FnExactLineOkWrongFalsely : Prop := fnExactLineOkRow.holds Try.pinned (OpenSpec.ofChange fnExactLineOkWrong)

/-- 'laws.FnExactIsDone': WHATEVER THE INPUT: true; the input reads as it did. -/
def fnExactIsDoneSpec : ChangeSpec := { name := "fnExactIsDone", fn := fun _ => fun
  | [d] => { results := [.lit (.bool true)], args := [d] }
  | _ => none }
def fnExactIsDoneRow : OpenClaim := { program := "ytomhhbnnmjgcgaa", sum := "dee67b3e69307748dd46c457942a4747614e885bb5c98d8b97afd584a005ad9f", func := "loop.example/g00987/laws.FnExactIsDone", spec := "fnExactIsDone", apart := false }
def FnExactIsDoneSaid : Prop := fnExactIsDoneRow.holds Try.pinned (OpenSpec.ofChange fnExactIsDoneSpec)

/-- ITS FALSE NEIGHBOUR: 'it returns false'. Refute it at one input. -/
def fnExactIsDoneWrong : ChangeSpec := { name := "fnExactIsDone", fn := fun _ => fun
  | [d] => { results := [.lit (.bool false)], args := [d] }
  | _ => none }
def FnExactIsDoneWrongFalsely : Prop := fnExactIsDoneRow.holds Try.pinned (OpenSpec.ofChange fnExactIsDoneWrong)

/-- 'laws.FnJams': WHATEVER THE INPUT: true; the input reads as it did. -/
def fnJamsSpec : ChangeSpec := { name := "fnJams", fn := fun _ => fun
  | [d] => { results := [.lit (.bool true)], args := [d] }
  | _ => none }
def fnJamsRow : OpenClaim := { program := "ytomhhbnnmjgcgaa", sum := "dee67b3e69307748dd46c457942a4747614e885bb5c98d8b97afd584a005ad9f", func := "loop.example/g00987/laws.FnJams", spec := "fnJams", apart := false }
def FnJamsSaid : Prop := fnJamsRow.holds Try.pinned (OpenSpec.ofChange fnJamsSpec)

/-- ITS FALSE NEIGHBOUR: 'it returns false'. Refute it at one input. -/
def fnJamsWrong : ChangeSpec := { name := "fnJams", fn := fun _ => fun
  | [d] => { results := [.lit (.bool false)], args := [d] }
  | _ => none }
def FnJamsWrongFalsely : Prop := fnJamsRow.holds Try.pinned (OpenSpec.ofChange fnJamsWrong)

/-- 'laws.FnExactLineStep': WHATEVER THE INPUT: true; the input reads as it did. -/
def fnExactLineStepSpec : ChangeSpec := { name := "fnExactLineStep", fn := fun _ => fun
  | [d1, d2] => { results := [.lit (.bool true)], args := [d1, d2] }
  | _ => none }
def fnExactLineStepRow : OpenClaim := { program := "ytomhhbnnmjgcgaa", sum := "dee67b3e69307748dd46c457942a4747614e885bb5c98d8b97afd584a005ad9f", func := "loop.example/g00987/laws.FnExactLineStep", spec := "fnExactLineStep", apart := false }
def FnExactLineStepSaid : Prop := fnExactLineStepRow.holds Try.pinned (OpenSpec.ofChange fnExactLineStepSpec)

/-- ITS FALSE NEIGHBOUR: 'it returns false'. Refute it at one input. -/
def fnExactLineStepWrong : ChangeSpec := { name := "fnExactLineStep", fn := fun _ => fun
  | [d1, d2] => { results := [.lit (.bool false)], args := [d1, d2] }
  | _ => none }
def FnExactLineStepWrongFalsely : Prop := fnExactLineStepRow.holds Try.pinned (OpenSpec.ofChange fnExactLineStepWrong)

/-- 'laws.FnExactRunLine': WHATEVER THE INPUT: true; the input reads as it did. -/
def fnExactRunLineSpec : ChangeSpec := { name := "fnExactRunLine", fn := fun _ => fun
  | [d1, d2] => { results := [.lit (.bool true)], args := [d1, d2] }
  | _ => none }
def fnExactRunLineRow : OpenClaim := { program := "ytomhhbnnmjgcgaa", sum := "dee67b3e69307748dd46c457942a4747614e885bb5c98d8b97afd584a005ad9f", func := "loop.example/g00987/laws.FnExactRunLine", spec := "fnExactRunLine", apart := false }
def FnExactRunLineSaid : Prop := fnExactRunLineRow.holds Try.pinned (OpenSpec.ofChange fnExactRunLineSpec)

/-- ITS FALSE NEIGHBOUR: 'it returns false'. Refute it at one input. -/
def fnExactRunLineWrong : ChangeSpec := { name := "fnExactRunLine", fn := fun _ => fun
  | [d1, d2] => { results := [.lit (.bool false)], args := [d1, d2] }
  | _ => none }
def FnExactRunLineWrongFalsely : Prop := fnExactRunLineRow.holds Try.pinned (OpenSpec.ofChange fnExactRunLineWrong)

/-- 'laws.FnExactFinishLine': WHATEVER THE INPUT: true; the input reads as it did. -/
def fnExactFinishLineSpec : ChangeSpec := { name := "fnExactFinishLine", fn := fun _ => fun
  | [d] => { results := [.lit (.bool true)], args := [d] }
  | _ => none }
def fnExactFinishLineRow : OpenClaim := { program := "ytomhhbnnmjgcgaa", sum := "dee67b3e69307748dd46c457942a4747614e885bb5c98d8b97afd584a005ad9f", func := "loop.example/g00987/laws.FnExactFinishLine", spec := "fnExactFinishLine", apart := false }
def FnExactFinishLineSaid : Prop := fnExactFinishLineRow.holds Try.pinned (OpenSpec.ofChange fnExactFinishLineSpec)

/-- ITS FALSE NEIGHBOUR: 'it returns false'. Refute it at one input. -/
def fnExactFinishLineWrong : ChangeSpec := { name := "fnExactFinishLine", fn := fun _ => fun
  | [d] => { results := [.lit (.bool false)], args := [d] }
  | _ => none }
def FnExactFinishLineWrongFalsely : Prop := fnExactFinishLineRow.holds Try.pinned (OpenSpec.ofChange fnExactFinishLineWrong)

/- THE SECOND FORM. 'bulk': how many values and letters a reading holds, each counted each time it is reached (what is shared counts as often as it is met; a slice's spare places count too). A statement '..UptoSaid' is the law's where the arguments, and the package variables that the reading takes, are together of bulk at most 1048576: NARROWER than '..Said'. Prove '..Said' where nothing that the law and all that it calls make is longer than what came in: it says more and counts as full. Else prove '..UptoSaid'. A law counts once. -/
mutual
def uptoBulk {H : Type} : DataW H → Nat
  | .lit (.string bytes) => bytes.length + 1
  | .lit _ => 1
  | .nil => 1
  | .ptr d => uptoBulk d + 1
  | .slice elems spare => uptoBulkAll elems + uptoBulkAll spare + 1
  | .agg parts => uptoBulkAll parts + 1
  | .iface _ d => uptoBulk d + 1
  | .map entries => uptoBulkEntries entries + 1
  | .held _ => 1
def uptoBulkAll {H : Type} : List (DataW H) → Nat
  | [] => 0
  | d :: r => uptoBulk d + uptoBulkAll r
def uptoBulkEntries {H : Type} : List (Lit × DataW H) → Nat
  | [] => 0
  | x :: r => uptoBulkEntry x + uptoBulkEntries r
def uptoBulkEntry {H : Type} : Lit × DataW H → Nat
  | (.string bytes, d) => bytes.length + uptoBulk d + 1
  | (_, d) => uptoBulk d + 1
 end
def uptoSmall : (H : Type) → List (DataW H) → Bool := fun _ ds => decide (uptoBulkAll ds ≤ 1048576)
def OpenSpec.upto (s : _root_.Go.ChangeSpec) : _root_.Go.OpenSpec := { _root_.Go.OpenSpec.ofChange s with cond := some uptoSmall }

/-- 'laws.FnDelivered', WHERE WHAT IT READS IS OF BULK AT MOST 1048576: true; the input reads as it did. -/
def fnDeliveredUptoRow : OpenClaim := { program := "ytomhhbnnmjgcgaa", sum := "dee67b3e69307748dd46c457942a4747614e885bb5c98d8b97afd584a005ad9f", func := "loop.example/g00987/laws.FnDelivered", spec := "fnDelivered", apart := false, narrowed := true }
def FnDeliveredUptoSaid : Prop := fnDeliveredUptoRow.holds Try.pinned (OpenSpec.upto fnDeliveredSpec)

/-- 'laws.FnExactNewLine', WHERE WHAT IT READS IS OF BULK AT MOST 1048576: true; the input reads as it did. -/
def fnExactNewLineUptoRow : OpenClaim := { program := "ytomhhbnnmjgcgaa", sum := "dee67b3e69307748dd46c457942a4747614e885bb5c98d8b97afd584a005ad9f", func := "loop.example/g00987/laws.FnExactNewLine", spec := "fnExactNewLine", apart := false, narrowed := true }
def FnExactNewLineUptoSaid : Prop := fnExactNewLineUptoRow.holds Try.pinned (OpenSpec.upto fnExactNewLineSpec)

/-- 'laws.FnExactLineOk', WHERE WHAT IT READS IS OF BULK AT MOST 1048576: true; the input reads as it did. -/
def fnExactLineOkUptoRow : OpenClaim := { program := "ytomhhbnnmjgcgaa", sum := "dee67b3e69307748dd46c457942a4747614e885bb5c98d8b97afd584a005ad9f", func := "loop.example/g00987/laws.FnExactLineOk", spec := "fnExactLineOk", apart := false, narrowed := true }
def FnExactLineOkUptoSaid : Prop := fnExactLineOkUptoRow.holds Try.pinned (OpenSpec.upto fnExactLineOkSpec)

/-- 'laws.FnExactIsDone', WHERE WHAT IT READS IS OF BULK AT MOST 1048576: true; the input reads as it did. -/
def fnExactIsDoneUptoRow : OpenClaim := { program := "ytomhhbnnmjgcgaa", sum := "dee67b3e69307748dd46c457942a4747614e885bb5c98d8b97afd584a005ad9f", func := "loop.example/g00987/laws.FnExactIsDone", spec := "fnExactIsDone", apart := false, narrowed := true }
def FnExactIsDoneUptoSaid : Prop := fnExactIsDoneUptoRow.holds Try.pinned (OpenSpec.upto fnExactIsDoneSpec)

/-- 'laws.FnJams', WHERE WHAT IT READS IS OF BULK AT MOST 1048576: true; the input reads as it did. -/
def fnJamsUptoRow : OpenClaim := { program := "ytomhhbnnmjgcgaa", sum := "dee67b3e69307748dd46c457942a4747614e885bb5c98d8b97afd584a005ad9f", func := "loop.example/g00987/laws.FnJams", spec := "fnJams", apart := false, narrowed := true }
def FnJamsUptoSaid : Prop := fnJamsUptoRow.holds Try.pinned (OpenSpec.upto fnJamsSpec)

/-- 'laws.FnExactLineStep', WHERE WHAT IT READS IS OF BULK AT MOST 1048576: true; the input reads as it did. -/
def fnExactLineStepUptoRow : OpenClaim := { program := "ytomhhbnnmjgcgaa", sum := "dee67b3e69307748dd46c457942a4747614e885bb5c98d8b97afd584a005ad9f", func := "loop.example/g00987/laws.FnExactLineStep", spec := "fnExactLineStep", apart := false, narrowed := true }
def FnExactLineStepUptoSaid : Prop := fnExactLineStepUptoRow.holds Try.pinned (OpenSpec.upto fnExactLineStepSpec)

/-- 'laws.FnExactRunLine', WHERE WHAT IT READS IS OF BULK AT MOST 1048576: true; the input reads as it did. -/
def fnExactRunLineUptoRow : OpenClaim := { program := "ytomhhbnnmjgcgaa", sum := "dee67b3e69307748dd46c457942a4747614e885bb5c98d8b97afd584a005ad9f", func := "loop.example/g00987/laws.FnExactRunLine", spec := "fnExactRunLine", apart := false, narrowed := true }
def FnExactRunLineUptoSaid : Prop := fnExactRunLineUptoRow.holds Try.pinned (OpenSpec.upto fnExactRunLineSpec)

/-- 'laws.FnExactFinishLine', WHERE WHAT IT READS IS OF BULK AT MOST 1048576: true; the input reads as it did. -/
def fnExactFinishLineUptoRow : OpenClaim := { program := "ytomhhbnnmjgcgaa", sum := "dee67b3e69307748dd46c457942a4747614e885bb5c98d8b97afd584a005ad9f", func := "loop.example/g00987/laws.FnExactFinishLine", spec := "fnExactFinishLine", apart := false, narrowed := true }
def FnExactFinishLineUptoSaid : Prop := fnExactFinishLineUptoRow.holds Try.pinned (OpenSpec.upto fnExactFinishLineSpec)

end Rows
end Go.Proofs.Ytomhhbnnmjgcgaa
