/-
  DERIVED. GIVEN WITH THE SEED: THE CARDS: each row of YtohlmmpchllelaaGreatDoorRows.lean that lists a variable, with what it lists TIED to the program's text (the seventh form; the later family's looks); each row that meets fmt, with fmt's text TOLD by the authors' own Lean function (tested against real Go, not proved from fmt's source: count such statements apart). THE CARD IS WHAT COUNTS. Prove the row's statement (the work); the ties are given (YtohlmmpchllelaaGreatDoorTie.lean); close each card by the builder's one call (the guide's Derived/Test/ToyasCard.lean, 'card_holds'). Laid BY PROGRAM, IN A SANDBOX (cutbox-door.mjs). By AI agents, Wed Nov 11 2026. No macro, syntax, notation, axiom, sorry.
-/
import Derived.Test.YtohlmmpchllelaaGreatDoorRows
import GoSem.ClaimSeven
namespace Go.Proofs.YtohlmmpchllelaaGreatDoor
namespace Rows

/-- THE TIED CARD OF 'laws.FnExprRound'. -/
def fnExprRoundCard : Claim7 := { stood := { row := fnExprRoundRow, standIns := [], harness := (true, "8603e53765cac34bdbdaf093baa8b209e6d9847ab507950a98bf16c4fd885dab"), looks := true }, kinds := [], alts := [], laidByText := true, laidKinds := [.data, .data, .data, .sentinel, .sentinel], laidTests := true, laidLooks := .later }
def FnExprRoundCardSaid : Prop := Claim7.holds Tryz.pinned (.plain (OpenSpec.ofChange fnExprRoundSpec)) fnExprRoundCard

/-- THE SECOND FORM's CARD OF 'laws.FnExprRound'. -/
def fnExprRoundUptoCard : Claim7 := { stood := { row := fnExprRoundUptoRow, standIns := [], harness := (true, "8603e53765cac34bdbdaf093baa8b209e6d9847ab507950a98bf16c4fd885dab"), looks := true }, kinds := [], alts := [], laidByText := true, laidKinds := [.data, .data, .data, .sentinel, .sentinel], laidTests := true, laidLooks := .later }
def FnExprRoundUptoCardSaid : Prop := Claim7.holds Tryz.pinned (.plain (OpenSpec.upto fnExprRoundSpec)) fnExprRoundUptoCard
end Rows
end Go.Proofs.YtohlmmpchllelaaGreatDoor
