/-
  DERIVED. GIVEN WITH THE SEED: THE CARDS: each row of YtblceimapaenlaaDoorRows.lean that lists a variable, with what it lists TIED to the program's text (the seventh form; the later family's looks); each row that meets fmt, with fmt's text TOLD by the authors' own Lean function (tested against real Go, not proved from fmt's source: count such statements apart). THE CARD IS WHAT COUNTS. Prove the row's statement (the work); the ties are given (YtblceimapaenlaaDoorTie.lean); close each card by the builder's one call (the guide's Derived/Test/ToyasCard.lean, 'card_holds'). Laid BY PROGRAM, IN A SANDBOX (cutbox-door.mjs). By AI agents, Wed Nov 11 2026. No macro, syntax, notation, axiom, sorry.
-/
import Derived.Test.YtblceimapaenlaaDoorRows
import GoSem.ClaimSeven
namespace Go.Proofs.YtblceimapaenlaaDoor
namespace Rows

/-- THE TIED CARD OF 'laws.FnExactFormatAct'. -/
def fnExactFormatActCard : Claim7 := { stood := { row := fnExactFormatActRow, standIns := [], harness := (true, "cfa7602e3b7ae49c4f0d0ff2f3f9571eb8b100f25dfa82f7b2a0c6c180371c45"), looks := false }, kinds := [], alts := [], laidByText := true, laidKinds := [.data, .data, .data], laidTests := true, laidLooks := .later }
def FnExactFormatActCardSaid : Prop := Claim7.holds Tryd.pinned (.plain (OpenSpec.ofChange fnExactFormatActSpec)) fnExactFormatActCard

/-- THE TIED CARD OF 'laws.FnExactScriptText'. -/
def fnExactScriptTextCard : Claim7 := { stood := { row := fnExactScriptTextRow, standIns := [], harness := (true, "cfa7602e3b7ae49c4f0d0ff2f3f9571eb8b100f25dfa82f7b2a0c6c180371c45"), looks := false }, kinds := [], alts := [], laidByText := true, laidKinds := [.data, .data, .data], laidTests := true, laidLooks := .later }
def FnExactScriptTextCardSaid : Prop := Claim7.holds Tryd.pinned (.plain (OpenSpec.ofChange fnExactScriptTextSpec)) fnExactScriptTextCard

/-- THE TIED CARD OF 'laws.FnReports'. -/
def fnReportsCard : Claim7 := { stood := { row := fnReportsRow, standIns := [], harness := (true, "cfa7602e3b7ae49c4f0d0ff2f3f9571eb8b100f25dfa82f7b2a0c6c180371c45"), looks := false }, kinds := [], alts := [], laidByText := true, laidKinds := [.data, .data, .data], laidTests := true, laidLooks := .later }
def FnReportsCardSaid : Prop := Claim7.holds Tryd.pinned (.plain (OpenSpec.ofChange fnReportsSpec)) fnReportsCard

/-- THE TIED CARD OF 'laws.FnExactFormatMachine'. -/
def fnExactFormatMachineCard : Claim7 := { stood := { row := fnExactFormatMachineRow, standIns := [], harness := (true, "cfa7602e3b7ae49c4f0d0ff2f3f9571eb8b100f25dfa82f7b2a0c6c180371c45"), looks := false }, kinds := [], alts := [], laidByText := true, laidKinds := [.data, .data, .data], laidTests := true, laidLooks := .later }
def FnExactFormatMachineCardSaid : Prop := Claim7.holds Tryd.pinned (.plain (OpenSpec.ofChange fnExactFormatMachineSpec)) fnExactFormatMachineCard

/-- THE TIED CARD OF 'laws.FnActParts'. -/
def fnActPartsCard : Claim7 := { stood := { row := fnActPartsRow, standIns := [], harness := (true, "cfa7602e3b7ae49c4f0d0ff2f3f9571eb8b100f25dfa82f7b2a0c6c180371c45"), looks := false }, kinds := [], alts := [], laidByText := true, laidKinds := [.data, .data, .data], laidTests := true, laidLooks := .later }
def FnActPartsCardSaid : Prop := Claim7.holds Tryd.pinned (.plain (OpenSpec.ofChange fnActPartsSpec)) fnActPartsCard

/-- THE SECOND FORM's CARD OF 'laws.FnExactFormatAct'. -/
def fnExactFormatActUptoCard : Claim7 := { stood := { row := fnExactFormatActUptoRow, standIns := [], harness := (true, "cfa7602e3b7ae49c4f0d0ff2f3f9571eb8b100f25dfa82f7b2a0c6c180371c45"), looks := false }, kinds := [], alts := [], laidByText := true, laidKinds := [.data, .data, .data], laidTests := true, laidLooks := .later }
def FnExactFormatActUptoCardSaid : Prop := Claim7.holds Tryd.pinned (.plain (OpenSpec.upto fnExactFormatActSpec)) fnExactFormatActUptoCard

/-- THE SECOND FORM's CARD OF 'laws.FnExactScriptText'. -/
def fnExactScriptTextUptoCard : Claim7 := { stood := { row := fnExactScriptTextUptoRow, standIns := [], harness := (true, "cfa7602e3b7ae49c4f0d0ff2f3f9571eb8b100f25dfa82f7b2a0c6c180371c45"), looks := false }, kinds := [], alts := [], laidByText := true, laidKinds := [.data, .data, .data], laidTests := true, laidLooks := .later }
def FnExactScriptTextUptoCardSaid : Prop := Claim7.holds Tryd.pinned (.plain (OpenSpec.upto fnExactScriptTextSpec)) fnExactScriptTextUptoCard

/-- THE SECOND FORM's CARD OF 'laws.FnReports'. -/
def fnReportsUptoCard : Claim7 := { stood := { row := fnReportsUptoRow, standIns := [], harness := (true, "cfa7602e3b7ae49c4f0d0ff2f3f9571eb8b100f25dfa82f7b2a0c6c180371c45"), looks := false }, kinds := [], alts := [], laidByText := true, laidKinds := [.data, .data, .data], laidTests := true, laidLooks := .later }
def FnReportsUptoCardSaid : Prop := Claim7.holds Tryd.pinned (.plain (OpenSpec.upto fnReportsSpec)) fnReportsUptoCard

/-- THE SECOND FORM's CARD OF 'laws.FnExactFormatMachine'. -/
def fnExactFormatMachineUptoCard : Claim7 := { stood := { row := fnExactFormatMachineUptoRow, standIns := [], harness := (true, "cfa7602e3b7ae49c4f0d0ff2f3f9571eb8b100f25dfa82f7b2a0c6c180371c45"), looks := false }, kinds := [], alts := [], laidByText := true, laidKinds := [.data, .data, .data], laidTests := true, laidLooks := .later }
def FnExactFormatMachineUptoCardSaid : Prop := Claim7.holds Tryd.pinned (.plain (OpenSpec.upto fnExactFormatMachineSpec)) fnExactFormatMachineUptoCard

/-- THE SECOND FORM's CARD OF 'laws.FnActParts'. -/
def fnActPartsUptoCard : Claim7 := { stood := { row := fnActPartsUptoRow, standIns := [], harness := (true, "cfa7602e3b7ae49c4f0d0ff2f3f9571eb8b100f25dfa82f7b2a0c6c180371c45"), looks := false }, kinds := [], alts := [], laidByText := true, laidKinds := [.data, .data, .data], laidTests := true, laidLooks := .later }
def FnActPartsUptoCardSaid : Prop := Claim7.holds Tryd.pinned (.plain (OpenSpec.upto fnActPartsSpec)) fnActPartsUptoCard
end Rows
end Go.Proofs.YtblceimapaenlaaDoor
