/-
  DERIVED. GIVEN WITH THE SEED: THE CARDS: each row of YtjnoagknobnjlaaGreatDoorRows.lean that lists a variable, with what it lists TIED to the program's text (the seventh form; the later family's looks); each row that meets fmt, with fmt's text TOLD by the authors' own Lean function (tested against real Go, not proved from fmt's source: count such statements apart). THE CARD IS WHAT COUNTS. Prove the row's statement (the work); the ties are given (YtjnoagknobnjlaaGreatDoorTie.lean); close each card by the builder's one call (the guide's Derived/Test/ToyasCard.lean, 'card_holds'). Laid BY PROGRAM, IN A SANDBOX (cutbox-door.mjs). By AI agents, Wed Nov 11 2026. No macro, syntax, notation, axiom, sorry.
-/
import Derived.Test.YtjnoagknobnjlaaGreatDoorRows
import GoSem.ClaimSeven
namespace Go.Proofs.YtjnoagknobnjlaaGreatDoor
namespace Rows

/-- THE TIED CARD OF 'laws.FnExactValidStatement'. -/
def fnExactValidStatementCard : Claim7 := { stood := { row := fnExactValidStatementRow, standIns := [], harness := (true, "68a551cde5c0b4d12b58fe6f14fb7f3b371c8955a6661f27b58d2fd8da00e5a2"), looks := true }, kinds := [], alts := [], laidByText := true, laidKinds := [.data, .data, .data, .sentinel, .sentinel], laidTests := true, laidLooks := .later }
def FnExactValidStatementCardSaid : Prop := Claim7.holds Tryz.pinned (.plain (OpenSpec.ofChange fnExactValidStatementSpec)) fnExactValidStatementCard

/-- THE TIED CARD OF 'laws.FnExactPrintStatement'. -/
def fnExactPrintStatementCard : Claim7 := { stood := { row := fnExactPrintStatementRow, standIns := [], harness := (true, "68a551cde5c0b4d12b58fe6f14fb7f3b371c8955a6661f27b58d2fd8da00e5a2"), looks := true }, kinds := [], alts := [], laidByText := true, laidKinds := [.data, .data, .data, .sentinel, .sentinel], laidTests := true, laidLooks := .later }
def FnExactPrintStatementCardSaid : Prop := Claim7.holds Tryz.pinned (.plain (OpenSpec.ofChange fnExactPrintStatementSpec)) fnExactPrintStatementCard

/-- THE SECOND FORM's CARD OF 'laws.FnExactValidStatement'. -/
def fnExactValidStatementUptoCard : Claim7 := { stood := { row := fnExactValidStatementUptoRow, standIns := [], harness := (true, "68a551cde5c0b4d12b58fe6f14fb7f3b371c8955a6661f27b58d2fd8da00e5a2"), looks := true }, kinds := [], alts := [], laidByText := true, laidKinds := [.data, .data, .data, .sentinel, .sentinel], laidTests := true, laidLooks := .later }
def FnExactValidStatementUptoCardSaid : Prop := Claim7.holds Tryz.pinned (.plain (OpenSpec.upto fnExactValidStatementSpec)) fnExactValidStatementUptoCard

/-- THE SECOND FORM's CARD OF 'laws.FnExactPrintStatement'. -/
def fnExactPrintStatementUptoCard : Claim7 := { stood := { row := fnExactPrintStatementUptoRow, standIns := [], harness := (true, "68a551cde5c0b4d12b58fe6f14fb7f3b371c8955a6661f27b58d2fd8da00e5a2"), looks := true }, kinds := [], alts := [], laidByText := true, laidKinds := [.data, .data, .data, .sentinel, .sentinel], laidTests := true, laidLooks := .later }
def FnExactPrintStatementUptoCardSaid : Prop := Claim7.holds Tryz.pinned (.plain (OpenSpec.upto fnExactPrintStatementSpec)) fnExactPrintStatementUptoCard
end Rows
end Go.Proofs.YtjnoagknobnjlaaGreatDoor
