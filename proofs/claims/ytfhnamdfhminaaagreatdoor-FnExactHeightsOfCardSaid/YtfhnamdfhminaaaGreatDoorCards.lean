/-
  DERIVED. GIVEN WITH THE SEED: THE CARDS: each row of YtfhnamdfhminaaaGreatDoorRows.lean that lists a variable, with what it lists TIED to the program's text (the seventh form; the later family's looks); each row that meets fmt, with fmt's text TOLD by the authors' own Lean function (tested against real Go, not proved from fmt's source: count such statements apart). THE CARD IS WHAT COUNTS. Prove the row's statement (the work); the ties are given (YtfhnamdfhminaaaGreatDoorTie.lean); close each card by the builder's one call (the guide's Derived/Test/ToyasCard.lean, 'card_holds'). Laid BY PROGRAM, IN A SANDBOX (cutbox-door.mjs). By AI agents, Wed Nov 11 2026. No macro, syntax, notation, axiom, sorry.
-/
import Derived.Test.YtfhnamdfhminaaaGreatDoorRows
import GoSem.ClaimSeven
namespace Go.Proofs.YtfhnamdfhminaaaGreatDoor
namespace Rows

/-- THE TIED CARD OF 'laws.FnExactCompileStatement'. -/
def fnExactCompileStatementCard : Claim7 := { stood := { row := fnExactCompileStatementRow, standIns := [], harness := (true, "30d6ccfbca3dfb9afc01e104047314e8c792d5ab97ed0e795e2c34946297b77d"), looks := true }, kinds := [], alts := [], laidByText := true, laidKinds := [.data, .data, .data, .sentinel, .sentinel], laidTests := true, laidLooks := .later }
def FnExactCompileStatementCardSaid : Prop := Claim7.holds Tryz.pinned (.plain (OpenSpec.ofChange fnExactCompileStatementSpec)) fnExactCompileStatementCard

/-- THE TIED CARD OF 'laws.FnExactCompileProgram'. -/
def fnExactCompileProgramCard : Claim7 := { stood := { row := fnExactCompileProgramRow, standIns := [], harness := (true, "30d6ccfbca3dfb9afc01e104047314e8c792d5ab97ed0e795e2c34946297b77d"), looks := true }, kinds := [], alts := [], laidByText := true, laidKinds := [.data, .data, .data, .sentinel, .sentinel], laidTests := true, laidLooks := .later }
def FnExactCompileProgramCardSaid : Prop := Claim7.holds Tryz.pinned (.plain (OpenSpec.ofChange fnExactCompileProgramSpec)) fnExactCompileProgramCard

/-- THE TIED CARD OF 'laws.FnExactHeightsOf'. -/
def fnExactHeightsOfCard : Claim7 := { stood := { row := fnExactHeightsOfRow, standIns := [], harness := (true, "30d6ccfbca3dfb9afc01e104047314e8c792d5ab97ed0e795e2c34946297b77d"), looks := true }, kinds := [], alts := [], laidByText := true, laidKinds := [.data, .data, .data, .sentinel, .sentinel], laidTests := true, laidLooks := .later }
def FnExactHeightsOfCardSaid : Prop := Claim7.holds Tryz.pinned (.plain (OpenSpec.ofChange fnExactHeightsOfSpec)) fnExactHeightsOfCard

/-- THE TIED CARD OF 'laws.FnExactStatementAt'. -/
def fnExactStatementAtCard : Claim7 := { stood := { row := fnExactStatementAtRow, standIns := [], harness := (true, "30d6ccfbca3dfb9afc01e104047314e8c792d5ab97ed0e795e2c34946297b77d"), looks := true }, kinds := [], alts := [], laidByText := true, laidKinds := [.data, .data, .data, .sentinel, .sentinel], laidTests := true, laidLooks := .later }
def FnExactStatementAtCardSaid : Prop := Claim7.holds Tryz.pinned (.plain (OpenSpec.ofChange fnExactStatementAtSpec)) fnExactStatementAtCard

/-- THE TIED CARD OF 'laws.FnExactCodeListing'. -/
def fnExactCodeListingCard : Claim7 := { stood := { row := fnExactCodeListingRow, standIns := [], harness := (true, "30d6ccfbca3dfb9afc01e104047314e8c792d5ab97ed0e795e2c34946297b77d"), looks := true }, kinds := [], alts := [], laidByText := true, laidKinds := [.data, .data, .data, .data, .pinned], laidTests := true, laidLooks := .later }
def FnExactCodeListingCardSaid : Prop := Claim7.holds Tryz.pinned (.plain (OpenSpec.ofChange fnExactCodeListingSpec)) fnExactCodeListingCard

/-- THE TIED CARD OF 'laws.FnCodeOk'. -/
def fnCodeOkCard : Claim7 := { stood := { row := fnCodeOkRow, standIns := [], harness := (true, "30d6ccfbca3dfb9afc01e104047314e8c792d5ab97ed0e795e2c34946297b77d"), looks := true }, kinds := [], alts := [], laidByText := true, laidKinds := [.data, .data, .data, .sentinel, .sentinel], laidTests := true, laidLooks := .later }
def FnCodeOkCardSaid : Prop := Claim7.holds Tryz.pinned (.plain (OpenSpec.ofChange fnCodeOkSpec)) fnCodeOkCard

/-- THE SECOND FORM's CARD OF 'laws.FnExactCompileStatement'. -/
def fnExactCompileStatementUptoCard : Claim7 := { stood := { row := fnExactCompileStatementUptoRow, standIns := [], harness := (true, "30d6ccfbca3dfb9afc01e104047314e8c792d5ab97ed0e795e2c34946297b77d"), looks := true }, kinds := [], alts := [], laidByText := true, laidKinds := [.data, .data, .data, .sentinel, .sentinel], laidTests := true, laidLooks := .later }
def FnExactCompileStatementUptoCardSaid : Prop := Claim7.holds Tryz.pinned (.plain (OpenSpec.upto fnExactCompileStatementSpec)) fnExactCompileStatementUptoCard

/-- THE SECOND FORM's CARD OF 'laws.FnExactCompileProgram'. -/
def fnExactCompileProgramUptoCard : Claim7 := { stood := { row := fnExactCompileProgramUptoRow, standIns := [], harness := (true, "30d6ccfbca3dfb9afc01e104047314e8c792d5ab97ed0e795e2c34946297b77d"), looks := true }, kinds := [], alts := [], laidByText := true, laidKinds := [.data, .data, .data, .sentinel, .sentinel], laidTests := true, laidLooks := .later }
def FnExactCompileProgramUptoCardSaid : Prop := Claim7.holds Tryz.pinned (.plain (OpenSpec.upto fnExactCompileProgramSpec)) fnExactCompileProgramUptoCard

/-- THE SECOND FORM's CARD OF 'laws.FnExactHeightsOf'. -/
def fnExactHeightsOfUptoCard : Claim7 := { stood := { row := fnExactHeightsOfUptoRow, standIns := [], harness := (true, "30d6ccfbca3dfb9afc01e104047314e8c792d5ab97ed0e795e2c34946297b77d"), looks := true }, kinds := [], alts := [], laidByText := true, laidKinds := [.data, .data, .data, .sentinel, .sentinel], laidTests := true, laidLooks := .later }
def FnExactHeightsOfUptoCardSaid : Prop := Claim7.holds Tryz.pinned (.plain (OpenSpec.upto fnExactHeightsOfSpec)) fnExactHeightsOfUptoCard

/-- THE SECOND FORM's CARD OF 'laws.FnExactStatementAt'. -/
def fnExactStatementAtUptoCard : Claim7 := { stood := { row := fnExactStatementAtUptoRow, standIns := [], harness := (true, "30d6ccfbca3dfb9afc01e104047314e8c792d5ab97ed0e795e2c34946297b77d"), looks := true }, kinds := [], alts := [], laidByText := true, laidKinds := [.data, .data, .data, .sentinel, .sentinel], laidTests := true, laidLooks := .later }
def FnExactStatementAtUptoCardSaid : Prop := Claim7.holds Tryz.pinned (.plain (OpenSpec.upto fnExactStatementAtSpec)) fnExactStatementAtUptoCard

/-- THE SECOND FORM's CARD OF 'laws.FnExactCodeListing'. -/
def fnExactCodeListingUptoCard : Claim7 := { stood := { row := fnExactCodeListingUptoRow, standIns := [], harness := (true, "30d6ccfbca3dfb9afc01e104047314e8c792d5ab97ed0e795e2c34946297b77d"), looks := true }, kinds := [], alts := [], laidByText := true, laidKinds := [.data, .data, .data, .data, .pinned], laidTests := true, laidLooks := .later }
def FnExactCodeListingUptoCardSaid : Prop := Claim7.holds Tryz.pinned (.plain (OpenSpec.upto fnExactCodeListingSpec)) fnExactCodeListingUptoCard

/-- THE SECOND FORM's CARD OF 'laws.FnCodeOk'. -/
def fnCodeOkUptoCard : Claim7 := { stood := { row := fnCodeOkUptoRow, standIns := [], harness := (true, "30d6ccfbca3dfb9afc01e104047314e8c792d5ab97ed0e795e2c34946297b77d"), looks := true }, kinds := [], alts := [], laidByText := true, laidKinds := [.data, .data, .data, .sentinel, .sentinel], laidTests := true, laidLooks := .later }
def FnCodeOkUptoCardSaid : Prop := Claim7.holds Tryz.pinned (.plain (OpenSpec.upto fnCodeOkSpec)) fnCodeOkUptoCard
end Rows
end Go.Proofs.YtfhnamdfhminaaaGreatDoor
