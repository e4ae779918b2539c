/-
  DERIVED. GIVEN WITH THE SEED: THE CARDS: each row of YtikhhcienngnbaaGreatDoorRows.lean that lists a variable, with what it lists TIED to the program's text (the seventh form; the later family's looks); each row that meets fmt, with fmt's text TOLD by the authors' own Lean function (tested against real Go, not proved from fmt's source: count such statements apart). THE CARD IS WHAT COUNTS. Prove the row's statement (the work); the ties are given (YtikhhcienngnbaaGreatDoorTie.lean); close each card by the builder's one call (the guide's Derived/Test/ToyasCard.lean, 'card_holds'). Laid BY PROGRAM, IN A SANDBOX (cutbox-door.mjs). By AI agents, Wed Nov 11 2026. No macro, syntax, notation, axiom, sorry.
-/
import Derived.Test.YtikhhcienngnbaaGreatDoorRows
import GoSem.ClaimSeven
namespace Go.Proofs.YtikhhcienngnbaaGreatDoor
namespace Rows

/-- THE TIED CARD OF 'laws.FnExactValidMachine'. -/
def fnExactValidMachineCard : Claim7 := { stood := { row := fnExactValidMachineRow, standIns := [], harness := (true, "a4cf81a557ae49bd3054e6b13e69f3c2ef8547498b12866c1318322b847772de"), looks := true }, kinds := [], alts := [], laidByText := true, laidKinds := [.data, .data, .data, .sentinel, .sentinel], laidTests := true, laidLooks := .later }
def FnExactValidMachineCardSaid : Prop := Claim7.holds Tryz.pinned (.plain (OpenSpec.ofChange fnExactValidMachineSpec)) fnExactValidMachineCard

/-- THE SECOND FORM's CARD OF 'laws.FnExactValidMachine'. -/
def fnExactValidMachineUptoCard : Claim7 := { stood := { row := fnExactValidMachineUptoRow, standIns := [], harness := (true, "a4cf81a557ae49bd3054e6b13e69f3c2ef8547498b12866c1318322b847772de"), looks := true }, kinds := [], alts := [], laidByText := true, laidKinds := [.data, .data, .data, .sentinel, .sentinel], laidTests := true, laidLooks := .later }
def FnExactValidMachineUptoCardSaid : Prop := Claim7.holds Tryz.pinned (.plain (OpenSpec.upto fnExactValidMachineSpec)) fnExactValidMachineUptoCard
end Rows
end Go.Proofs.YtikhhcienngnbaaGreatDoor
