/-
  DERIVED. GIVEN WITH THE SEED: THE CARDS: each row of YtnglcnoofkibkaaGreatDoorRows.lean that lists a variable, with what it lists TIED to the program's text (the seventh form; the later family's looks); each row that meets fmt, with fmt's text TOLD by the authors' own Lean function (tested against real Go, not proved from fmt's source: count such statements apart). THE CARD IS WHAT COUNTS. Prove the row's statement (the work); the ties are given (YtnglcnoofkibkaaGreatDoorTie.lean); close each card by the builder's one call (the guide's Derived/Test/ToyasCard.lean, 'card_holds'). Laid BY PROGRAM, IN A SANDBOX (cutbox-door.mjs). By AI agents, Wed Nov 11 2026. No macro, syntax, notation, axiom, sorry.
-/
import Derived.Test.YtnglcnoofkibkaaGreatDoorRows
import GoSem.ClaimSeven
namespace Go.Proofs.YtnglcnoofkibkaaGreatDoor
namespace Rows

/-- THE TIED CARD OF 'laws.FnExactLabelsOf'. -/
def fnExactLabelsOfCard : Claim7 := { stood := { row := fnExactLabelsOfRow, standIns := [], harness := (true, "eecab512a523f7cc4bcd52755c4da4cd57f741208b5a8e4dc163634630e915f8"), looks := true }, kinds := [], alts := [], laidByText := true, laidKinds := [.data, .data, .data, .sentinel, .sentinel], laidTests := true, laidLooks := .later }
def FnExactLabelsOfCardSaid : Prop := Claim7.holds Tryz.pinned (.plain (OpenSpec.ofChange fnExactLabelsOfSpec)) fnExactLabelsOfCard

/-- THE TIED CARD OF 'laws.FnExactMissingLabels'. -/
def fnExactMissingLabelsCard : Claim7 := { stood := { row := fnExactMissingLabelsRow, standIns := [], harness := (true, "eecab512a523f7cc4bcd52755c4da4cd57f741208b5a8e4dc163634630e915f8"), looks := true }, kinds := [], alts := [], laidByText := true, laidKinds := [.data, .data, .data, .sentinel, .sentinel], laidTests := true, laidLooks := .later }
def FnExactMissingLabelsCardSaid : Prop := Claim7.holds Tryz.pinned (.plain (OpenSpec.ofChange fnExactMissingLabelsSpec)) fnExactMissingLabelsCard

/-- THE TIED CARD OF 'laws.FnExactProgramNames'. -/
def fnExactProgramNamesCard : Claim7 := { stood := { row := fnExactProgramNamesRow, standIns := [], harness := (true, "eecab512a523f7cc4bcd52755c4da4cd57f741208b5a8e4dc163634630e915f8"), looks := true }, kinds := [], alts := [], laidByText := true, laidKinds := [.data, .data, .data, .sentinel, .sentinel], laidTests := true, laidLooks := .later }
def FnExactProgramNamesCardSaid : Prop := Claim7.holds Tryz.pinned (.plain (OpenSpec.ofChange fnExactProgramNamesSpec)) fnExactProgramNamesCard

/-- THE TIED CARD OF 'laws.FnExactNextStatement'. -/
def fnExactNextStatementCard : Claim7 := { stood := { row := fnExactNextStatementRow, standIns := [], harness := (true, "eecab512a523f7cc4bcd52755c4da4cd57f741208b5a8e4dc163634630e915f8"), looks := true }, kinds := [], alts := [], laidByText := true, laidKinds := [.data, .data, .data, .sentinel, .sentinel], laidTests := true, laidLooks := .later }
def FnExactNextStatementCardSaid : Prop := Claim7.holds Tryz.pinned (.plain (OpenSpec.ofChange fnExactNextStatementSpec)) fnExactNextStatementCard

/-- THE TIED CARD OF 'laws.FnLabels'. -/
def fnLabelsCard : Claim7 := { stood := { row := fnLabelsRow, standIns := [], harness := (true, "eecab512a523f7cc4bcd52755c4da4cd57f741208b5a8e4dc163634630e915f8"), looks := true }, kinds := [], alts := [], laidByText := true, laidKinds := [.data, .data, .data, .sentinel, .sentinel], laidTests := true, laidLooks := .later }
def FnLabelsCardSaid : Prop := Claim7.holds Tryz.pinned (.plain (OpenSpec.ofChange fnLabelsSpec)) fnLabelsCard

/-- THE SECOND FORM's CARD OF 'laws.FnExactLabelsOf'. -/
def fnExactLabelsOfUptoCard : Claim7 := { stood := { row := fnExactLabelsOfUptoRow, standIns := [], harness := (true, "eecab512a523f7cc4bcd52755c4da4cd57f741208b5a8e4dc163634630e915f8"), looks := true }, kinds := [], alts := [], laidByText := true, laidKinds := [.data, .data, .data, .sentinel, .sentinel], laidTests := true, laidLooks := .later }
def FnExactLabelsOfUptoCardSaid : Prop := Claim7.holds Tryz.pinned (.plain (OpenSpec.upto fnExactLabelsOfSpec)) fnExactLabelsOfUptoCard

/-- THE SECOND FORM's CARD OF 'laws.FnExactMissingLabels'. -/
def fnExactMissingLabelsUptoCard : Claim7 := { stood := { row := fnExactMissingLabelsUptoRow, standIns := [], harness := (true, "eecab512a523f7cc4bcd52755c4da4cd57f741208b5a8e4dc163634630e915f8"), looks := true }, kinds := [], alts := [], laidByText := true, laidKinds := [.data, .data, .data, .sentinel, .sentinel], laidTests := true, laidLooks := .later }
def FnExactMissingLabelsUptoCardSaid : Prop := Claim7.holds Tryz.pinned (.plain (OpenSpec.upto fnExactMissingLabelsSpec)) fnExactMissingLabelsUptoCard

/-- THE SECOND FORM's CARD OF 'laws.FnExactProgramNames'. -/
def fnExactProgramNamesUptoCard : Claim7 := { stood := { row := fnExactProgramNamesUptoRow, standIns := [], harness := (true, "eecab512a523f7cc4bcd52755c4da4cd57f741208b5a8e4dc163634630e915f8"), looks := true }, kinds := [], alts := [], laidByText := true, laidKinds := [.data, .data, .data, .sentinel, .sentinel], laidTests := true, laidLooks := .later }
def FnExactProgramNamesUptoCardSaid : Prop := Claim7.holds Tryz.pinned (.plain (OpenSpec.upto fnExactProgramNamesSpec)) fnExactProgramNamesUptoCard

/-- THE SECOND FORM's CARD OF 'laws.FnExactNextStatement'. -/
def fnExactNextStatementUptoCard : Claim7 := { stood := { row := fnExactNextStatementUptoRow, standIns := [], harness := (true, "eecab512a523f7cc4bcd52755c4da4cd57f741208b5a8e4dc163634630e915f8"), looks := true }, kinds := [], alts := [], laidByText := true, laidKinds := [.data, .data, .data, .sentinel, .sentinel], laidTests := true, laidLooks := .later }
def FnExactNextStatementUptoCardSaid : Prop := Claim7.holds Tryz.pinned (.plain (OpenSpec.upto fnExactNextStatementSpec)) fnExactNextStatementUptoCard

/-- THE SECOND FORM's CARD OF 'laws.FnLabels'. -/
def fnLabelsUptoCard : Claim7 := { stood := { row := fnLabelsUptoRow, standIns := [], harness := (true, "eecab512a523f7cc4bcd52755c4da4cd57f741208b5a8e4dc163634630e915f8"), looks := true }, kinds := [], alts := [], laidByText := true, laidKinds := [.data, .data, .data, .sentinel, .sentinel], laidTests := true, laidLooks := .later }
def FnLabelsUptoCardSaid : Prop := Claim7.holds Tryz.pinned (.plain (OpenSpec.upto fnLabelsSpec)) fnLabelsUptoCard
end Rows
end Go.Proofs.YtnglcnoofkibkaaGreatDoor
