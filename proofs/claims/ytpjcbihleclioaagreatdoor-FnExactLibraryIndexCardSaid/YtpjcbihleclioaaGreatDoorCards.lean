/-
  DERIVED. GIVEN WITH THE SEED: THE CARDS: each row of YtpjcbihleclioaaGreatDoorRows.lean that lists a variable, with what it lists TIED to the program's text (the seventh form; the later family's looks); each row that meets fmt, with fmt's text TOLD by the authors' own Lean function (tested against real Go, not proved from fmt's source: count such statements apart). THE CARD IS WHAT COUNTS. Prove the row's statement (the work); the ties are given (YtpjcbihleclioaaGreatDoorTie.lean); close each card by the builder's one call (the guide's Derived/Test/ToyasCard.lean, 'card_holds'). Laid BY PROGRAM, IN A SANDBOX (cutbox-door.mjs). By AI agents, Wed Nov 11 2026. No macro, syntax, notation, axiom, sorry.
-/
import Derived.Test.YtpjcbihleclioaaGreatDoorRows
import GoSem.ClaimSeven
namespace Go.Proofs.YtpjcbihleclioaaGreatDoor
namespace Rows

/-- THE TIED CARD OF 'laws.FnStmtRound'. -/
def fnStmtRoundCard : Claim7 := { stood := { row := fnStmtRoundRow, standIns := [], harness := (true, "1fc332962915b3d160f440d6443c7fcaa1f85d3032dc3f2055047e69c44e5a4c"), looks := true }, kinds := [], alts := [], laidByText := true, laidKinds := [.data, .data, .data, .sentinel, .sentinel], laidTests := true, laidLooks := .later }
def FnStmtRoundCardSaid : Prop := Claim7.holds Tryz.pinned (.plain (OpenSpec.ofChange fnStmtRoundSpec)) fnStmtRoundCard

/-- THE TIED CARD OF 'laws.FnProgramRound'. -/
def fnProgramRoundCard : Claim7 := { stood := { row := fnProgramRoundRow, standIns := [], harness := (true, "1fc332962915b3d160f440d6443c7fcaa1f85d3032dc3f2055047e69c44e5a4c"), looks := true }, kinds := [], alts := [], laidByText := true, laidKinds := [.data, .data, .data, .data, .sentinel, .sentinel, .pinned], laidTests := true, laidLooks := .later }
def FnProgramRoundCardSaid : Prop := Claim7.holds Tryz.pinned (.plain (OpenSpec.ofChange fnProgramRoundSpec)) fnProgramRoundCard

/-- THE TIED CARD OF 'laws.FnExactLibraryIndex'. -/
def fnExactLibraryIndexCard : Claim7 := { stood := { row := fnExactLibraryIndexRow, standIns := [], harness := (true, "1fc332962915b3d160f440d6443c7fcaa1f85d3032dc3f2055047e69c44e5a4c"), looks := true }, kinds := [], alts := [], laidByText := true, laidKinds := [.data, .data, .data, .data, .sentinel, .sentinel, .pinned], laidTests := true, laidLooks := .later }
def FnExactLibraryIndexCardSaid : Prop := Claim7.holds Tryz.pinned (.plain (OpenSpec.ofChange fnExactLibraryIndexSpec)) fnExactLibraryIndexCard

/-- THE SECOND FORM's CARD OF 'laws.FnStmtRound'. -/
def fnStmtRoundUptoCard : Claim7 := { stood := { row := fnStmtRoundUptoRow, standIns := [], harness := (true, "1fc332962915b3d160f440d6443c7fcaa1f85d3032dc3f2055047e69c44e5a4c"), looks := true }, kinds := [], alts := [], laidByText := true, laidKinds := [.data, .data, .data, .sentinel, .sentinel], laidTests := true, laidLooks := .later }
def FnStmtRoundUptoCardSaid : Prop := Claim7.holds Tryz.pinned (.plain (OpenSpec.upto fnStmtRoundSpec)) fnStmtRoundUptoCard

/-- THE SECOND FORM's CARD OF 'laws.FnProgramRound'. -/
def fnProgramRoundUptoCard : Claim7 := { stood := { row := fnProgramRoundUptoRow, standIns := [], harness := (true, "1fc332962915b3d160f440d6443c7fcaa1f85d3032dc3f2055047e69c44e5a4c"), looks := true }, kinds := [], alts := [], laidByText := true, laidKinds := [.data, .data, .data, .data, .sentinel, .sentinel, .pinned], laidTests := true, laidLooks := .later }
def FnProgramRoundUptoCardSaid : Prop := Claim7.holds Tryz.pinned (.plain (OpenSpec.upto fnProgramRoundSpec)) fnProgramRoundUptoCard

/-- THE SECOND FORM's CARD OF 'laws.FnExactLibraryIndex'. -/
def fnExactLibraryIndexUptoCard : Claim7 := { stood := { row := fnExactLibraryIndexUptoRow, standIns := [], harness := (true, "1fc332962915b3d160f440d6443c7fcaa1f85d3032dc3f2055047e69c44e5a4c"), looks := true }, kinds := [], alts := [], laidByText := true, laidKinds := [.data, .data, .data, .data, .sentinel, .sentinel, .pinned], laidTests := true, laidLooks := .later }
def FnExactLibraryIndexUptoCardSaid : Prop := Claim7.holds Tryz.pinned (.plain (OpenSpec.upto fnExactLibraryIndexSpec)) fnExactLibraryIndexUptoCard
end Rows
end Go.Proofs.YtpjcbihleclioaaGreatDoor
