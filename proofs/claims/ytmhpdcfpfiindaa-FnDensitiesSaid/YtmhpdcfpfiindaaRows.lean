/-
  No cell of these rows narrows 'for every input' (looked for: loops, veiled, ifaces, maps, wideKeys, modest, calm, conditions, laid).
  DERIVED. THE GIVEN ROWS OF THIS SEAT. 12 by the template 'for every input the law returns true; each argument reads behind the call as it read before'; 0 by the template 'total and deterministic' (their statements: YtmhpdcfpfiindaaTotals.lean).
  GIVEN WITH THE SEED: the statements are not yours to turn. If you find one false, say at which input.
  Laid BY PROGRAM, IN A SANDBOX (cutbox-rows.mjs): the forced cells as the released guide's own fill.sh prints them over the translation 38d0d1ea65f35505… (all of the seat's roots in one cut). By AI agents, Wed Nov 11 2026. No macro, syntax, notation, axiom, sorry.
-/
import Derived.Test.YtmhpdcfpfiindaaChecked
import GoSem.Claim
import GoSem.ClaimJoined
import GoSem.ClaimMapViews
import Derived.JoinedTies
import Derived.KernelRfl
namespace Go.Proofs.Ytmhpdcfpfiindaa
/- THE CELL 'sum', in the pinned program and in every row, IS THE sha256 OF THE DUMP (.gsa) THAT YtmhpdcfpfiindaaProg.lean LOADS. Nothing in Lean hashes anything: it is a label: what it is worth is what the hold of that sum in a sandbox is worth. -/
noncomputable def Try.pinned : Pinned := { name := "ytmhpdcfpfiindaa", sum := "38d0d1ea65f35505a3c947b7854374580b1f84b223e1eb2cca843abeb5c61155", checked := Try.checked }
namespace Rows
def none {H : Type} : Left H := { results := [], args := [] }

/-- 'laws.FnExactDensityOk': WHATEVER THE INPUT: true; the input reads as it did. -/
def fnExactDensityOkSpec : ChangeSpec := { name := "fnExactDensityOk", fn := fun _ => fun
  | [d] => { results := [.lit (.bool true)], args := [d] }
  | _ => none }
def fnExactDensityOkRow : OpenClaim := { program := "ytmhpdcfpfiindaa", sum := "38d0d1ea65f35505a3c947b7854374580b1f84b223e1eb2cca843abeb5c61155", func := "loop.example/g00987/laws.FnExactDensityOk", spec := "fnExactDensityOk", apart := false }
def FnExactDensityOkSaid : Prop := fnExactDensityOkRow.holds Try.pinned (OpenSpec.ofChange fnExactDensityOkSpec)

/-- ITS FALSE NEIGHBOUR: 'it returns false'. Refute it at one input. -/
def fnExactDensityOkWrong : ChangeSpec := { name := "fnExactDensityOk", fn := fun _ => fun
  | [d] => { results := [.lit (.bool false)], args := [d] }
  | _ => none }
def FnExactDensityOkWrongFalsely : Prop := fnExactDensityOkRow.holds Try.pinned (OpenSpec.ofChange fnExactDensityOkWrong)

/-- 'laws.FnExactFuserOk': WHATEVER THE INPUT: true; the input reads as it did. -/
def fnExactFuserOkSpec : ChangeSpec := { name := "fnExactFuserOk", fn := fun _ => fun
  | [d] => { results := [.lit (.bool true)], args := [d] }
  | _ => none }
def fnExactFuserOkRow : OpenClaim := { program := "ytmhpdcfpfiindaa", sum := "38d0d1ea65f35505a3c947b7854374580b1f84b223e1eb2cca843abeb5c61155", func := "loop.example/g00987/laws.FnExactFuserOk", spec := "fnExactFuserOk", apart := false }
def FnExactFuserOkSaid : Prop := fnExactFuserOkRow.holds Try.pinned (OpenSpec.ofChange fnExactFuserOkSpec)

/-- ITS FALSE NEIGHBOUR: 'it returns false'. Refute it at one input. -/
def fnExactFuserOkWrong : ChangeSpec := { name := "fnExactFuserOk", fn := fun _ => fun
  | [d] => { results := [.lit (.bool false)], args := [d] }
  | _ => none }
def FnExactFuserOkWrongFalsely : Prop := fnExactFuserOkRow.holds Try.pinned (OpenSpec.ofChange fnExactFuserOkWrong)

/-- 'laws.FnExactIsHot': WHATEVER THE INPUT: true; the input reads as it did. -/
def fnExactIsHotSpec : ChangeSpec := { name := "fnExactIsHot", fn := fun _ => fun
  | [d] => { results := [.lit (.bool true)], args := [d] }
  | _ => none }
def fnExactIsHotRow : OpenClaim := { program := "ytmhpdcfpfiindaa", sum := "38d0d1ea65f35505a3c947b7854374580b1f84b223e1eb2cca843abeb5c61155", func := "loop.example/g00987/laws.FnExactIsHot", spec := "fnExactIsHot", apart := false }
def FnExactIsHotSaid : Prop := fnExactIsHotRow.holds Try.pinned (OpenSpec.ofChange fnExactIsHotSpec)

/-- ITS FALSE NEIGHBOUR: 'it returns false'. Refute it at one input. -/
def fnExactIsHotWrong : ChangeSpec := { name := "fnExactIsHot", fn := fun _ => fun
  | [d] => { results := [.lit (.bool false)], args := [d] }
  | _ => none }
def FnExactIsHotWrongFalsely : Prop := fnExactIsHotRow.holds Try.pinned (OpenSpec.ofChange fnExactIsHotWrong)

/-- 'laws.FnExactReadPatch': WHATEVER THE INPUT: true; the input reads as it did. -/
def fnExactReadPatchSpec : ChangeSpec := { name := "fnExactReadPatch", fn := fun _ => fun
  | [d] => { results := [.lit (.bool true)], args := [d] }
  | _ => none }
def fnExactReadPatchRow : OpenClaim := { program := "ytmhpdcfpfiindaa", sum := "38d0d1ea65f35505a3c947b7854374580b1f84b223e1eb2cca843abeb5c61155", func := "loop.example/g00987/laws.FnExactReadPatch", spec := "fnExactReadPatch", apart := false }
def FnExactReadPatchSaid : Prop := fnExactReadPatchRow.holds Try.pinned (OpenSpec.ofChange fnExactReadPatchSpec)

/-- ITS FALSE NEIGHBOUR: 'it returns false'. Refute it at one input. -/
def fnExactReadPatchWrong : ChangeSpec := { name := "fnExactReadPatch", fn := fun _ => fun
  | [d] => { results := [.lit (.bool false)], args := [d] }
  | _ => none }
def FnExactReadPatchWrongFalsely : Prop := fnExactReadPatchRow.holds Try.pinned (OpenSpec.ofChange fnExactReadPatchWrong)

/-- 'laws.FnExactDensityError': WHATEVER THE INPUT: true; the input reads as it did. -/
def fnExactDensityErrorSpec : ChangeSpec := { name := "fnExactDensityError", fn := fun _ => fun
  | [d] => { results := [.lit (.bool true)], args := [d] }
  | _ => none }
def fnExactDensityErrorRow : OpenClaim := { program := "ytmhpdcfpfiindaa", sum := "38d0d1ea65f35505a3c947b7854374580b1f84b223e1eb2cca843abeb5c61155", func := "loop.example/g00987/laws.FnExactDensityError", spec := "fnExactDensityError", apart := false }
def FnExactDensityErrorSaid : Prop := fnExactDensityErrorRow.holds Try.pinned (OpenSpec.ofChange fnExactDensityErrorSpec)

/-- ITS FALSE NEIGHBOUR: 'it returns false'. Refute it at one input. -/
def fnExactDensityErrorWrong : ChangeSpec := { name := "fnExactDensityError", fn := fun _ => fun
  | [d] => { results := [.lit (.bool false)], args := [d] }
  | _ => none }
def FnExactDensityErrorWrongFalsely : Prop := fnExactDensityErrorRow.holds Try.pinned (OpenSpec.ofChange fnExactDensityErrorWrong)

/-- 'laws.FnFusers': WHATEVER THE INPUT: true; the input reads as it did. -/
def fnFusersSpec : ChangeSpec := { name := "fnFusers", fn := fun _ => fun
  | [d] => { results := [.lit (.bool true)], args := [d] }
  | _ => none }
def fnFusersRow : OpenClaim := { program := "ytmhpdcfpfiindaa", sum := "38d0d1ea65f35505a3c947b7854374580b1f84b223e1eb2cca843abeb5c61155", func := "loop.example/g00987/laws.FnFusers", spec := "fnFusers", apart := false }
def FnFusersSaid : Prop := fnFusersRow.holds Try.pinned (OpenSpec.ofChange fnFusersSpec)

/-- ITS FALSE NEIGHBOUR: 'it returns false'. Refute it at one input. -/
def fnFusersWrong : ChangeSpec := { name := "fnFusers", fn := fun _ => fun
  | [d] => { results := [.lit (.bool false)], args := [d] }
  | _ => none }
def FnFusersWrongFalsely : Prop := fnFusersRow.holds Try.pinned (OpenSpec.ofChange fnFusersWrong)

/-- 'laws.FnExactAdjustCharge': WHATEVER THE INPUT: true; the input reads as it did. -/
def fnExactAdjustChargeSpec : ChangeSpec := { name := "fnExactAdjustCharge", fn := fun _ => fun
  | [d] => { results := [.lit (.bool true)], args := [d] }
  | _ => none }
def fnExactAdjustChargeRow : OpenClaim := { program := "ytmhpdcfpfiindaa", sum := "38d0d1ea65f35505a3c947b7854374580b1f84b223e1eb2cca843abeb5c61155", func := "loop.example/g00987/laws.FnExactAdjustCharge", spec := "fnExactAdjustCharge", apart := false }
def FnExactAdjustChargeSaid : Prop := fnExactAdjustChargeRow.holds Try.pinned (OpenSpec.ofChange fnExactAdjustChargeSpec)

/-- ITS FALSE NEIGHBOUR: 'it returns false'. Refute it at one input. -/
def fnExactAdjustChargeWrong : ChangeSpec := { name := "fnExactAdjustCharge", fn := fun _ => fun
  | [d] => { results := [.lit (.bool false)], args := [d] }
  | _ => none }
def FnExactAdjustChargeWrongFalsely : Prop := fnExactAdjustChargeRow.holds Try.pinned (OpenSpec.ofChange fnExactAdjustChargeWrong)

/-- 'laws.FnExactStepFuser': WHATEVER THE INPUT: true; the input reads as it did. -/
def fnExactStepFuserSpec : ChangeSpec := { name := "fnExactStepFuser", fn := fun _ => fun
  | [d1, d2] => { results := [.lit (.bool true)], args := [d1, d2] }
  | _ => none }
def fnExactStepFuserRow : OpenClaim := { program := "ytmhpdcfpfiindaa", sum := "38d0d1ea65f35505a3c947b7854374580b1f84b223e1eb2cca843abeb5c61155", func := "loop.example/g00987/laws.FnExactStepFuser", spec := "fnExactStepFuser", apart := false }
def FnExactStepFuserSaid : Prop := fnExactStepFuserRow.holds Try.pinned (OpenSpec.ofChange fnExactStepFuserSpec)

/-- ITS FALSE NEIGHBOUR: 'it returns false'. Refute it at one input. -/
def fnExactStepFuserWrong : ChangeSpec := { name := "fnExactStepFuser", fn := fun _ => fun
  | [d1, d2] => { results := [.lit (.bool false)], args := [d1, d2] }
  | _ => none }
def FnExactStepFuserWrongFalsely : Prop := fnExactStepFuserRow.holds Try.pinned (OpenSpec.ofChange fnExactStepFuserWrong)

/-- 'laws.FnExactWarmUp': WHATEVER THE INPUT: true; the input reads as it did. -/
def fnExactWarmUpSpec : ChangeSpec := { name := "fnExactWarmUp", fn := fun _ => fun
  | [d] => { results := [.lit (.bool true)], args := [d] }
  | _ => none }
def fnExactWarmUpRow : OpenClaim := { program := "ytmhpdcfpfiindaa", sum := "38d0d1ea65f35505a3c947b7854374580b1f84b223e1eb2cca843abeb5c61155", func := "loop.example/g00987/laws.FnExactWarmUp", spec := "fnExactWarmUp", apart := false }
def FnExactWarmUpSaid : Prop := fnExactWarmUpRow.holds Try.pinned (OpenSpec.ofChange fnExactWarmUpSpec)

/-- ITS FALSE NEIGHBOUR: 'it returns false'. Refute it at one input. -/
def fnExactWarmUpWrong : ChangeSpec := { name := "fnExactWarmUp", fn := fun _ => fun
  | [d] => { results := [.lit (.bool false)], args := [d] }
  | _ => none }
def FnExactWarmUpWrongFalsely : Prop := fnExactWarmUpRow.holds Try.pinned (OpenSpec.ofChange fnExactWarmUpWrong)

/-- 'laws.FnDensities': WHATEVER THE INPUT: true; the input reads as it did. -/
def fnDensitiesSpec : ChangeSpec := { name := "fnDensities", fn := fun _ => fun
  | [d] => { results := [.lit (.bool true)], args := [d] }
  | _ => none }
def fnDensitiesRow : OpenClaim := { program := "ytmhpdcfpfiindaa", sum := "38d0d1ea65f35505a3c947b7854374580b1f84b223e1eb2cca843abeb5c61155", func := "loop.example/g00987/laws.FnDensities", spec := "fnDensities", apart := false }
def FnDensitiesSaid : Prop := fnDensitiesRow.holds Try.pinned (OpenSpec.ofChange fnDensitiesSpec)

/-- ITS FALSE NEIGHBOUR: 'it returns false'. Refute it at one input. -/
def fnDensitiesWrong : ChangeSpec := { name := "fnDensities", fn := fun _ => fun
  | [d] => { results := [.lit (.bool false)], args := [d] }
  | _ => none }
def FnDensitiesWrongFalsely : Prop := fnDensitiesRow.holds Try.pinned (OpenSpec.ofChange fnDensitiesWrong)

/-- 'laws.FnExactSettleDensity': WHATEVER THE INPUT: true; the input reads as it did. -/
def fnExactSettleDensitySpec : ChangeSpec := { name := "fnExactSettleDensity", fn := fun _ => fun
  | [d1, d2] => { results := [.lit (.bool true)], args := [d1, d2] }
  | _ => none }
def fnExactSettleDensityRow : OpenClaim := { program := "ytmhpdcfpfiindaa", sum := "38d0d1ea65f35505a3c947b7854374580b1f84b223e1eb2cca843abeb5c61155", func := "loop.example/g00987/laws.FnExactSettleDensity", spec := "fnExactSettleDensity", apart := false }
def FnExactSettleDensitySaid : Prop := fnExactSettleDensityRow.holds Try.pinned (OpenSpec.ofChange fnExactSettleDensitySpec)

/-- ITS FALSE NEIGHBOUR: 'it returns false'. Refute it at one input. -/
def fnExactSettleDensityWrong : ChangeSpec := { name := "fnExactSettleDensity", fn := fun _ => fun
  | [d1, d2] => { results := [.lit (.bool false)], args := [d1, d2] }
  | _ => none }
def FnExactSettleDensityWrongFalsely : Prop := fnExactSettleDensityRow.holds Try.pinned (OpenSpec.ofChange fnExactSettleDensityWrong)

/-- 'laws.FnExactRunFuser': WHATEVER THE INPUT: true; the input reads as it did. -/
def fnExactRunFuserSpec : ChangeSpec := { name := "fnExactRunFuser", fn := fun _ => fun
  | [d1, d2] => { results := [.lit (.bool true)], args := [d1, d2] }
  | _ => none }
def fnExactRunFuserRow : OpenClaim := { program := "ytmhpdcfpfiindaa", sum := "38d0d1ea65f35505a3c947b7854374580b1f84b223e1eb2cca843abeb5c61155", func := "loop.example/g00987/laws.FnExactRunFuser", spec := "fnExactRunFuser", apart := false }
def FnExactRunFuserSaid : Prop := fnExactRunFuserRow.holds Try.pinned (OpenSpec.ofChange fnExactRunFuserSpec)

/-- ITS FALSE NEIGHBOUR: 'it returns false'. Refute it at one input. -/
def fnExactRunFuserWrong : ChangeSpec := { name := "fnExactRunFuser", fn := fun _ => fun
  | [d1, d2] => { results := [.lit (.bool false)], args := [d1, d2] }
  | _ => none }
def FnExactRunFuserWrongFalsely : Prop := fnExactRunFuserRow.holds Try.pinned (OpenSpec.ofChange fnExactRunFuserWrong)

/- THE SECOND FORM. 'bulk': how many values and letters a reading holds, each counted each time it is reached (what is shared counts as often as it is met; a slice's spare places count too). A statement '..UptoSaid' is the law's where the arguments, and the package variables that the reading takes, are together of bulk at most 1048576: NARROWER than '..Said'. Prove '..Said' where nothing that the law and all that it calls make is longer than what came in: it says more and counts as full. Else prove '..UptoSaid'. A law counts once. -/
mutual
def uptoBulk {H : Type} : DataW H → Nat
  | .lit (.string bytes) => bytes.length + 1
  | .lit _ => 1
  | .nil => 1
  | .ptr d => uptoBulk d + 1
  | .slice elems spare => uptoBulkAll elems + uptoBulkAll spare + 1
  | .agg parts => uptoBulkAll parts + 1
  | .iface _ d => uptoBulk d + 1
  | .map entries => uptoBulkEntries entries + 1
  | .held _ => 1
def uptoBulkAll {H : Type} : List (DataW H) → Nat
  | [] => 0
  | d :: r => uptoBulk d + uptoBulkAll r
def uptoBulkEntries {H : Type} : List (Lit × DataW H) → Nat
  | [] => 0
  | x :: r => uptoBulkEntry x + uptoBulkEntries r
def uptoBulkEntry {H : Type} : Lit × DataW H → Nat
  | (.string bytes, d) => bytes.length + uptoBulk d + 1
  | (_, d) => uptoBulk d + 1
 end
def uptoSmall : (H : Type) → List (DataW H) → Bool := fun _ ds => decide (uptoBulkAll ds ≤ 1048576)
def OpenSpec.upto (s : _root_.Go.ChangeSpec) : _root_.Go.OpenSpec := { _root_.Go.OpenSpec.ofChange s with cond := some uptoSmall }

/-- 'laws.FnExactDensityOk', WHERE WHAT IT READS IS OF BULK AT MOST 1048576: true; the input reads as it did. -/
def fnExactDensityOkUptoRow : OpenClaim := { program := "ytmhpdcfpfiindaa", sum := "38d0d1ea65f35505a3c947b7854374580b1f84b223e1eb2cca843abeb5c61155", func := "loop.example/g00987/laws.FnExactDensityOk", spec := "fnExactDensityOk", apart := false, narrowed := true }
def FnExactDensityOkUptoSaid : Prop := fnExactDensityOkUptoRow.holds Try.pinned (OpenSpec.upto fnExactDensityOkSpec)

/-- 'laws.FnExactFuserOk', WHERE WHAT IT READS IS OF BULK AT MOST 1048576: true; the input reads as it did. -/
def fnExactFuserOkUptoRow : OpenClaim := { program := "ytmhpdcfpfiindaa", sum := "38d0d1ea65f35505a3c947b7854374580b1f84b223e1eb2cca843abeb5c61155", func := "loop.example/g00987/laws.FnExactFuserOk", spec := "fnExactFuserOk", apart := false, narrowed := true }
def FnExactFuserOkUptoSaid : Prop := fnExactFuserOkUptoRow.holds Try.pinned (OpenSpec.upto fnExactFuserOkSpec)

/-- 'laws.FnExactIsHot', WHERE WHAT IT READS IS OF BULK AT MOST 1048576: true; the input reads as it did. -/
def fnExactIsHotUptoRow : OpenClaim := { program := "ytmhpdcfpfiindaa", sum := "38d0d1ea65f35505a3c947b7854374580b1f84b223e1eb2cca843abeb5c61155", func := "loop.example/g00987/laws.FnExactIsHot", spec := "fnExactIsHot", apart := false, narrowed := true }
def FnExactIsHotUptoSaid : Prop := fnExactIsHotUptoRow.holds Try.pinned (OpenSpec.upto fnExactIsHotSpec)

/-- 'laws.FnExactReadPatch', WHERE WHAT IT READS IS OF BULK AT MOST 1048576: true; the input reads as it did. -/
def fnExactReadPatchUptoRow : OpenClaim := { program := "ytmhpdcfpfiindaa", sum := "38d0d1ea65f35505a3c947b7854374580b1f84b223e1eb2cca843abeb5c61155", func := "loop.example/g00987/laws.FnExactReadPatch", spec := "fnExactReadPatch", apart := false, narrowed := true }
def FnExactReadPatchUptoSaid : Prop := fnExactReadPatchUptoRow.holds Try.pinned (OpenSpec.upto fnExactReadPatchSpec)

/-- 'laws.FnExactDensityError', WHERE WHAT IT READS IS OF BULK AT MOST 1048576: true; the input reads as it did. -/
def fnExactDensityErrorUptoRow : OpenClaim := { program := "ytmhpdcfpfiindaa", sum := "38d0d1ea65f35505a3c947b7854374580b1f84b223e1eb2cca843abeb5c61155", func := "loop.example/g00987/laws.FnExactDensityError", spec := "fnExactDensityError", apart := false, narrowed := true }
def FnExactDensityErrorUptoSaid : Prop := fnExactDensityErrorUptoRow.holds Try.pinned (OpenSpec.upto fnExactDensityErrorSpec)

/-- 'laws.FnFusers', WHERE WHAT IT READS IS OF BULK AT MOST 1048576: true; the input reads as it did. -/
def fnFusersUptoRow : OpenClaim := { program := "ytmhpdcfpfiindaa", sum := "38d0d1ea65f35505a3c947b7854374580b1f84b223e1eb2cca843abeb5c61155", func := "loop.example/g00987/laws.FnFusers", spec := "fnFusers", apart := false, narrowed := true }
def FnFusersUptoSaid : Prop := fnFusersUptoRow.holds Try.pinned (OpenSpec.upto fnFusersSpec)

/-- 'laws.FnExactAdjustCharge', WHERE WHAT IT READS IS OF BULK AT MOST 1048576: true; the input reads as it did. -/
def fnExactAdjustChargeUptoRow : OpenClaim := { program := "ytmhpdcfpfiindaa", sum := "38d0d1ea65f35505a3c947b7854374580b1f84b223e1eb2cca843abeb5c61155", func := "loop.example/g00987/laws.FnExactAdjustCharge", spec := "fnExactAdjustCharge", apart := false, narrowed := true }
def FnExactAdjustChargeUptoSaid : Prop := fnExactAdjustChargeUptoRow.holds Try.pinned (OpenSpec.upto fnExactAdjustChargeSpec)

/-- 'laws.FnExactStepFuser', WHERE WHAT IT READS IS OF BULK AT MOST 1048576: true; the input reads as it did. -/
def fnExactStepFuserUptoRow : OpenClaim := { program := "ytmhpdcfpfiindaa", sum := "38d0d1ea65f35505a3c947b7854374580b1f84b223e1eb2cca843abeb5c61155", func := "loop.example/g00987/laws.FnExactStepFuser", spec := "fnExactStepFuser", apart := false, narrowed := true }
def FnExactStepFuserUptoSaid : Prop := fnExactStepFuserUptoRow.holds Try.pinned (OpenSpec.upto fnExactStepFuserSpec)

/-- 'laws.FnExactWarmUp', WHERE WHAT IT READS IS OF BULK AT MOST 1048576: true; the input reads as it did. -/
def fnExactWarmUpUptoRow : OpenClaim := { program := "ytmhpdcfpfiindaa", sum := "38d0d1ea65f35505a3c947b7854374580b1f84b223e1eb2cca843abeb5c61155", func := "loop.example/g00987/laws.FnExactWarmUp", spec := "fnExactWarmUp", apart := false, narrowed := true }
def FnExactWarmUpUptoSaid : Prop := fnExactWarmUpUptoRow.holds Try.pinned (OpenSpec.upto fnExactWarmUpSpec)

/-- 'laws.FnDensities', WHERE WHAT IT READS IS OF BULK AT MOST 1048576: true; the input reads as it did. -/
def fnDensitiesUptoRow : OpenClaim := { program := "ytmhpdcfpfiindaa", sum := "38d0d1ea65f35505a3c947b7854374580b1f84b223e1eb2cca843abeb5c61155", func := "loop.example/g00987/laws.FnDensities", spec := "fnDensities", apart := false, narrowed := true }
def FnDensitiesUptoSaid : Prop := fnDensitiesUptoRow.holds Try.pinned (OpenSpec.upto fnDensitiesSpec)

/-- 'laws.FnExactSettleDensity', WHERE WHAT IT READS IS OF BULK AT MOST 1048576: true; the input reads as it did. -/
def fnExactSettleDensityUptoRow : OpenClaim := { program := "ytmhpdcfpfiindaa", sum := "38d0d1ea65f35505a3c947b7854374580b1f84b223e1eb2cca843abeb5c61155", func := "loop.example/g00987/laws.FnExactSettleDensity", spec := "fnExactSettleDensity", apart := false, narrowed := true }
def FnExactSettleDensityUptoSaid : Prop := fnExactSettleDensityUptoRow.holds Try.pinned (OpenSpec.upto fnExactSettleDensitySpec)

/-- 'laws.FnExactRunFuser', WHERE WHAT IT READS IS OF BULK AT MOST 1048576: true; the input reads as it did. -/
def fnExactRunFuserUptoRow : OpenClaim := { program := "ytmhpdcfpfiindaa", sum := "38d0d1ea65f35505a3c947b7854374580b1f84b223e1eb2cca843abeb5c61155", func := "loop.example/g00987/laws.FnExactRunFuser", spec := "fnExactRunFuser", apart := false, narrowed := true }
def FnExactRunFuserUptoSaid : Prop := fnExactRunFuserUptoRow.holds Try.pinned (OpenSpec.upto fnExactRunFuserSpec)

end Rows
end Go.Proofs.Ytmhpdcfpfiindaa
