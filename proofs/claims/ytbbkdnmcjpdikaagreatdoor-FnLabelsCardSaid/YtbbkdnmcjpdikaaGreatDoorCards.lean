/-
  DERIVED. GIVEN WITH THE SEED: THE CARDS: each row of YtbbkdnmcjpdikaaGreatDoorRows.lean that lists a variable, with what it lists TIED to the program's text (the seventh form; the later family's looks); each row that meets fmt, with fmt's text TOLD by the authors' own Lean function (tested against real Go, not proved from fmt's source: count such statements apart). THE CARD IS WHAT COUNTS. Prove the row's statement (the work); the ties are given (YtbbkdnmcjpdikaaGreatDoorTie.lean); close each card by the builder's one call (the guide's Derived/Test/ToyasCard.lean, 'card_holds'). Laid BY PROGRAM, IN A SANDBOX (cutbox-door.mjs). By AI agents, Wed Nov 11 2026. No macro, syntax, notation, axiom, sorry.
-/
import Derived.Test.YtbbkdnmcjpdikaaGreatDoorRows
import GoSem.ClaimSeven
namespace Go.Proofs.YtbbkdnmcjpdikaaGreatDoor
namespace Rows

/-- THE TIED CARD OF 'laws.FnExprRound'. -/
def fnExprRoundCard : Claim7 := { stood := { row := fnExprRoundRow, standIns := [], harness := (true, "339c3f55fa67c72c1f68b342c7e30cf9efd981c94e49dec28f4e2bf69fa84ecf"), looks := true }, kinds := [], alts := [], laidByText := true, laidKinds := [.data, .data, .data, .sentinel, .sentinel], laidTests := true, laidLooks := .later }
def FnExprRoundCardSaid : Prop := Claim7.holds Tryz.pinned (.plain (OpenSpec.ofChange fnExprRoundSpec)) fnExprRoundCard

/-- THE TIED CARD OF 'laws.FnStmtRound'. -/
def fnStmtRoundCard : Claim7 := { stood := { row := fnStmtRoundRow, standIns := [], harness := (true, "339c3f55fa67c72c1f68b342c7e30cf9efd981c94e49dec28f4e2bf69fa84ecf"), looks := true }, kinds := [], alts := [], laidByText := true, laidKinds := [.data, .data, .data, .sentinel, .sentinel], laidTests := true, laidLooks := .later }
def FnStmtRoundCardSaid : Prop := Claim7.holds Tryz.pinned (.plain (OpenSpec.ofChange fnStmtRoundSpec)) fnStmtRoundCard

/-- THE TIED CARD OF 'laws.FnProgramRound'. -/
def fnProgramRoundCard : Claim7 := { stood := { row := fnProgramRoundRow, standIns := [], harness := (true, "339c3f55fa67c72c1f68b342c7e30cf9efd981c94e49dec28f4e2bf69fa84ecf"), looks := true }, kinds := [], alts := [], laidByText := true, laidKinds := [.data, .data, .data, .data, .sentinel, .sentinel, .pinned], laidTests := true, laidLooks := .later }
def FnProgramRoundCardSaid : Prop := Claim7.holds Tryz.pinned (.plain (OpenSpec.ofChange fnProgramRoundSpec)) fnProgramRoundCard

/-- THE TIED CARD OF 'laws.FnExactParseStatement'. -/
def fnExactParseStatementCard : Claim7 := { stood := { row := fnExactParseStatementRow, standIns := [], harness := (true, "339c3f55fa67c72c1f68b342c7e30cf9efd981c94e49dec28f4e2bf69fa84ecf"), looks := true }, kinds := [], alts := [], laidByText := true, laidKinds := [.data, .data, .data, .sentinel, .sentinel], laidTests := true, laidLooks := .later }
def FnExactParseStatementCardSaid : Prop := Claim7.holds Tryz.pinned (.plain (OpenSpec.ofChange fnExactParseStatementSpec)) fnExactParseStatementCard

/-- THE TIED CARD OF 'laws.FnExactParseProgram'. -/
def fnExactParseProgramCard : Claim7 := { stood := { row := fnExactParseProgramRow, standIns := [], harness := (true, "339c3f55fa67c72c1f68b342c7e30cf9efd981c94e49dec28f4e2bf69fa84ecf"), looks := true }, kinds := [], alts := [], laidByText := true, laidKinds := [.data, .data, .data, .data, .sentinel, .sentinel, .pinned], laidTests := true, laidLooks := .later }
def FnExactParseProgramCardSaid : Prop := Claim7.holds Tryz.pinned (.plain (OpenSpec.ofChange fnExactParseProgramSpec)) fnExactParseProgramCard

/-- THE TIED CARD OF 'laws.FnLabels'. -/
def fnLabelsCard : Claim7 := { stood := { row := fnLabelsRow, standIns := [], harness := (true, "339c3f55fa67c72c1f68b342c7e30cf9efd981c94e49dec28f4e2bf69fa84ecf"), looks := true }, kinds := [], alts := [], laidByText := true, laidKinds := [.data, .data, .data, .sentinel, .sentinel], laidTests := true, laidLooks := .later }
def FnLabelsCardSaid : Prop := Claim7.holds Tryz.pinned (.plain (OpenSpec.ofChange fnLabelsSpec)) fnLabelsCard

/-- THE SECOND FORM's CARD OF 'laws.FnExprRound'. -/
def fnExprRoundUptoCard : Claim7 := { stood := { row := fnExprRoundUptoRow, standIns := [], harness := (true, "339c3f55fa67c72c1f68b342c7e30cf9efd981c94e49dec28f4e2bf69fa84ecf"), looks := true }, kinds := [], alts := [], laidByText := true, laidKinds := [.data, .data, .data, .sentinel, .sentinel], laidTests := true, laidLooks := .later }
def FnExprRoundUptoCardSaid : Prop := Claim7.holds Tryz.pinned (.plain (OpenSpec.upto fnExprRoundSpec)) fnExprRoundUptoCard

/-- THE SECOND FORM's CARD OF 'laws.FnStmtRound'. -/
def fnStmtRoundUptoCard : Claim7 := { stood := { row := fnStmtRoundUptoRow, standIns := [], harness := (true, "339c3f55fa67c72c1f68b342c7e30cf9efd981c94e49dec28f4e2bf69fa84ecf"), looks := true }, kinds := [], alts := [], laidByText := true, laidKinds := [.data, .data, .data, .sentinel, .sentinel], laidTests := true, laidLooks := .later }
def FnStmtRoundUptoCardSaid : Prop := Claim7.holds Tryz.pinned (.plain (OpenSpec.upto fnStmtRoundSpec)) fnStmtRoundUptoCard

/-- THE SECOND FORM's CARD OF 'laws.FnProgramRound'. -/
def fnProgramRoundUptoCard : Claim7 := { stood := { row := fnProgramRoundUptoRow, standIns := [], harness := (true, "339c3f55fa67c72c1f68b342c7e30cf9efd981c94e49dec28f4e2bf69fa84ecf"), looks := true }, kinds := [], alts := [], laidByText := true, laidKinds := [.data, .data, .data, .data, .sentinel, .sentinel, .pinned], laidTests := true, laidLooks := .later }
def FnProgramRoundUptoCardSaid : Prop := Claim7.holds Tryz.pinned (.plain (OpenSpec.upto fnProgramRoundSpec)) fnProgramRoundUptoCard

/-- THE SECOND FORM's CARD OF 'laws.FnExactParseStatement'. -/
def fnExactParseStatementUptoCard : Claim7 := { stood := { row := fnExactParseStatementUptoRow, standIns := [], harness := (true, "339c3f55fa67c72c1f68b342c7e30cf9efd981c94e49dec28f4e2bf69fa84ecf"), looks := true }, kinds := [], alts := [], laidByText := true, laidKinds := [.data, .data, .data, .sentinel, .sentinel], laidTests := true, laidLooks := .later }
def FnExactParseStatementUptoCardSaid : Prop := Claim7.holds Tryz.pinned (.plain (OpenSpec.upto fnExactParseStatementSpec)) fnExactParseStatementUptoCard

/-- THE SECOND FORM's CARD OF 'laws.FnExactParseProgram'. -/
def fnExactParseProgramUptoCard : Claim7 := { stood := { row := fnExactParseProgramUptoRow, standIns := [], harness := (true, "339c3f55fa67c72c1f68b342c7e30cf9efd981c94e49dec28f4e2bf69fa84ecf"), looks := true }, kinds := [], alts := [], laidByText := true, laidKinds := [.data, .data, .data, .data, .sentinel, .sentinel, .pinned], laidTests := true, laidLooks := .later }
def FnExactParseProgramUptoCardSaid : Prop := Claim7.holds Tryz.pinned (.plain (OpenSpec.upto fnExactParseProgramSpec)) fnExactParseProgramUptoCard

/-- THE SECOND FORM's CARD OF 'laws.FnLabels'. -/
def fnLabelsUptoCard : Claim7 := { stood := { row := fnLabelsUptoRow, standIns := [], harness := (true, "339c3f55fa67c72c1f68b342c7e30cf9efd981c94e49dec28f4e2bf69fa84ecf"), looks := true }, kinds := [], alts := [], laidByText := true, laidKinds := [.data, .data, .data, .sentinel, .sentinel], laidTests := true, laidLooks := .later }
def FnLabelsUptoCardSaid : Prop := Claim7.holds Tryz.pinned (.plain (OpenSpec.upto fnLabelsSpec)) fnLabelsUptoCard
end Rows
end Go.Proofs.YtbbkdnmcjpdikaaGreatDoor
