/-
  DERIVED. GIVEN WITH THE SEED: THE CARDS: each row of YtjlphfallimbgaaGreatDoorRows.lean that lists a variable, with what it lists TIED to the program's text (the seventh form; the later family's looks); each row that meets fmt, with fmt's text TOLD by the authors' own Lean function (tested against real Go, not proved from fmt's source: count such statements apart). THE CARD IS WHAT COUNTS. Prove the row's statement (the work); the ties are given (YtjlphfallimbgaaGreatDoorTie.lean); close each card by the builder's one call (the guide's Derived/Test/ToyasCard.lean, 'card_holds'). Laid BY PROGRAM, IN A SANDBOX (cutbox-door.mjs). By AI agents, Wed Nov 11 2026. No macro, syntax, notation, axiom, sorry.
-/
import Derived.Test.YtjlphfallimbgaaGreatDoorRows
import GoSem.ClaimSeven
namespace Go.Proofs.YtjlphfallimbgaaGreatDoor
namespace Rows

/-- THE TIED CARD OF 'laws.FnExactValidProgram'. -/
def fnExactValidProgramCard : Claim7 := { stood := { row := fnExactValidProgramRow, standIns := [], harness := (true, "d7ec0cee4b19b05e31831d12af193348c6aaa485b79dfe5a40ab5b1b44b4a248"), looks := true }, kinds := [], alts := [], laidByText := true, laidKinds := [.data, .data, .data, .sentinel, .sentinel], laidTests := true, laidLooks := .later }
def FnExactValidProgramCardSaid : Prop := Claim7.holds Tryz.pinned (.plain (OpenSpec.ofChange fnExactValidProgramSpec)) fnExactValidProgramCard

/-- THE TIED CARD OF 'laws.FnExactLabelIndex'. -/
def fnExactLabelIndexCard : Claim7 := { stood := { row := fnExactLabelIndexRow, standIns := [], harness := (true, "d7ec0cee4b19b05e31831d12af193348c6aaa485b79dfe5a40ab5b1b44b4a248"), looks := true }, kinds := [], alts := [], laidByText := true, laidKinds := [.data, .data, .data, .sentinel, .sentinel], laidTests := true, laidLooks := .later }
def FnExactLabelIndexCardSaid : Prop := Claim7.holds Tryz.pinned (.plain (OpenSpec.ofChange fnExactLabelIndexSpec)) fnExactLabelIndexCard

/-- THE TIED CARD OF 'laws.FnExactPrintProgram'. -/
def fnExactPrintProgramCard : Claim7 := { stood := { row := fnExactPrintProgramRow, standIns := [], harness := (true, "d7ec0cee4b19b05e31831d12af193348c6aaa485b79dfe5a40ab5b1b44b4a248"), looks := true }, kinds := [], alts := [], laidByText := true, laidKinds := [.data, .data, .data, .sentinel, .sentinel], laidTests := true, laidLooks := .later }
def FnExactPrintProgramCardSaid : Prop := Claim7.holds Tryz.pinned (.plain (OpenSpec.ofChange fnExactPrintProgramSpec)) fnExactPrintProgramCard

/-- THE SECOND FORM's CARD OF 'laws.FnExactValidProgram'. -/
def fnExactValidProgramUptoCard : Claim7 := { stood := { row := fnExactValidProgramUptoRow, standIns := [], harness := (true, "d7ec0cee4b19b05e31831d12af193348c6aaa485b79dfe5a40ab5b1b44b4a248"), looks := true }, kinds := [], alts := [], laidByText := true, laidKinds := [.data, .data, .data, .sentinel, .sentinel], laidTests := true, laidLooks := .later }
def FnExactValidProgramUptoCardSaid : Prop := Claim7.holds Tryz.pinned (.plain (OpenSpec.upto fnExactValidProgramSpec)) fnExactValidProgramUptoCard

/-- THE SECOND FORM's CARD OF 'laws.FnExactLabelIndex'. -/
def fnExactLabelIndexUptoCard : Claim7 := { stood := { row := fnExactLabelIndexUptoRow, standIns := [], harness := (true, "d7ec0cee4b19b05e31831d12af193348c6aaa485b79dfe5a40ab5b1b44b4a248"), looks := true }, kinds := [], alts := [], laidByText := true, laidKinds := [.data, .data, .data, .sentinel, .sentinel], laidTests := true, laidLooks := .later }
def FnExactLabelIndexUptoCardSaid : Prop := Claim7.holds Tryz.pinned (.plain (OpenSpec.upto fnExactLabelIndexSpec)) fnExactLabelIndexUptoCard

/-- THE SECOND FORM's CARD OF 'laws.FnExactPrintProgram'. -/
def fnExactPrintProgramUptoCard : Claim7 := { stood := { row := fnExactPrintProgramUptoRow, standIns := [], harness := (true, "d7ec0cee4b19b05e31831d12af193348c6aaa485b79dfe5a40ab5b1b44b4a248"), looks := true }, kinds := [], alts := [], laidByText := true, laidKinds := [.data, .data, .data, .sentinel, .sentinel], laidTests := true, laidLooks := .later }
def FnExactPrintProgramUptoCardSaid : Prop := Claim7.holds Tryz.pinned (.plain (OpenSpec.upto fnExactPrintProgramSpec)) fnExactPrintProgramUptoCard
end Rows
end Go.Proofs.YtjlphfallimbgaaGreatDoor
