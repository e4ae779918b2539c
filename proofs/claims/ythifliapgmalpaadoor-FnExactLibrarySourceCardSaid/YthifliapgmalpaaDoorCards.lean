/-
  DERIVED. GIVEN WITH THE SEED: THE CARDS: each row of YthifliapgmalpaaDoorRows.lean that lists a variable, with what it lists TIED to the program's text (the seventh form; the later family's looks); each row that meets fmt, with fmt's text TOLD by the authors' own Lean function (tested against real Go, not proved from fmt's source: count such statements apart). THE CARD IS WHAT COUNTS. Prove the row's statement (the work); the ties are given (YthifliapgmalpaaDoorTie.lean); close each card by the builder's one call (the guide's Derived/Test/ToyasCard.lean, 'card_holds'). Laid BY PROGRAM, IN A SANDBOX (cutbox-door.mjs). By AI agents, Wed Nov 11 2026. No macro, syntax, notation, axiom, sorry.
-/
import Derived.Test.YthifliapgmalpaaDoorRows
import GoSem.ClaimSeven
namespace Go.Proofs.YthifliapgmalpaaDoor
namespace Rows

/-- THE TIED CARD OF 'laws.FnExactLibraryCount'. -/
def fnExactLibraryCountCard : Claim7 := { stood := { row := fnExactLibraryCountRow, standIns := [], harness := (true, "164fc4f777741f48e9e992c141a16fcf14308d7c36e1537de391adcd0d6a0b5a"), looks := false }, kinds := [], alts := [], laidByText := true, laidKinds := [.data, .pinned], laidTests := true, laidLooks := .later }
def FnExactLibraryCountCardSaid : Prop := Claim7.holds Tryd.pinned (.plain (OpenSpec.ofChange fnExactLibraryCountSpec)) fnExactLibraryCountCard

/-- THE TIED CARD OF 'laws.FnExactLibraryFind'. -/
def fnExactLibraryFindCard : Claim7 := { stood := { row := fnExactLibraryFindRow, standIns := [], harness := (true, "164fc4f777741f48e9e992c141a16fcf14308d7c36e1537de391adcd0d6a0b5a"), looks := false }, kinds := [], alts := [], laidByText := true, laidKinds := [.data, .pinned], laidTests := true, laidLooks := .later }
def FnExactLibraryFindCardSaid : Prop := Claim7.holds Tryd.pinned (.plain (OpenSpec.ofChange fnExactLibraryFindSpec)) fnExactLibraryFindCard

/-- THE TIED CARD OF 'laws.FnExactLibraryName'. -/
def fnExactLibraryNameCard : Claim7 := { stood := { row := fnExactLibraryNameRow, standIns := [], harness := (true, "164fc4f777741f48e9e992c141a16fcf14308d7c36e1537de391adcd0d6a0b5a"), looks := false }, kinds := [], alts := [], laidByText := true, laidKinds := [.data, .pinned], laidTests := true, laidLooks := .later }
def FnExactLibraryNameCardSaid : Prop := Claim7.holds Tryd.pinned (.plain (OpenSpec.ofChange fnExactLibraryNameSpec)) fnExactLibraryNameCard

/-- THE TIED CARD OF 'laws.FnExactLibraryInput'. -/
def fnExactLibraryInputCard : Claim7 := { stood := { row := fnExactLibraryInputRow, standIns := [], harness := (true, "164fc4f777741f48e9e992c141a16fcf14308d7c36e1537de391adcd0d6a0b5a"), looks := false }, kinds := [], alts := [], laidByText := true, laidKinds := [.data, .pinned], laidTests := true, laidLooks := .later }
def FnExactLibraryInputCardSaid : Prop := Claim7.holds Tryd.pinned (.plain (OpenSpec.ofChange fnExactLibraryInputSpec)) fnExactLibraryInputCard

/-- THE TIED CARD OF 'laws.FnExactLibraryOutput'. -/
def fnExactLibraryOutputCard : Claim7 := { stood := { row := fnExactLibraryOutputRow, standIns := [], harness := (true, "164fc4f777741f48e9e992c141a16fcf14308d7c36e1537de391adcd0d6a0b5a"), looks := false }, kinds := [], alts := [], laidByText := true, laidKinds := [.data, .pinned], laidTests := true, laidLooks := .later }
def FnExactLibraryOutputCardSaid : Prop := Claim7.holds Tryd.pinned (.plain (OpenSpec.ofChange fnExactLibraryOutputSpec)) fnExactLibraryOutputCard

/-- THE TIED CARD OF 'laws.FnExactLibrarySource'. -/
def fnExactLibrarySourceCard : Claim7 := { stood := { row := fnExactLibrarySourceRow, standIns := [], harness := (true, "164fc4f777741f48e9e992c141a16fcf14308d7c36e1537de391adcd0d6a0b5a"), looks := false }, kinds := [], alts := [], laidByText := true, laidKinds := [.data, .pinned], laidTests := true, laidLooks := .later }
def FnExactLibrarySourceCardSaid : Prop := Claim7.holds Tryd.pinned (.plain (OpenSpec.ofChange fnExactLibrarySourceSpec)) fnExactLibrarySourceCard

/-- THE SECOND FORM's CARD OF 'laws.FnExactLibraryCount'. -/
def fnExactLibraryCountUptoCard : Claim7 := { stood := { row := fnExactLibraryCountUptoRow, standIns := [], harness := (true, "164fc4f777741f48e9e992c141a16fcf14308d7c36e1537de391adcd0d6a0b5a"), looks := false }, kinds := [], alts := [], laidByText := true, laidKinds := [.data, .pinned], laidTests := true, laidLooks := .later }
def FnExactLibraryCountUptoCardSaid : Prop := Claim7.holds Tryd.pinned (.plain (OpenSpec.upto fnExactLibraryCountSpec)) fnExactLibraryCountUptoCard

/-- THE SECOND FORM's CARD OF 'laws.FnExactLibraryFind'. -/
def fnExactLibraryFindUptoCard : Claim7 := { stood := { row := fnExactLibraryFindUptoRow, standIns := [], harness := (true, "164fc4f777741f48e9e992c141a16fcf14308d7c36e1537de391adcd0d6a0b5a"), looks := false }, kinds := [], alts := [], laidByText := true, laidKinds := [.data, .pinned], laidTests := true, laidLooks := .later }
def FnExactLibraryFindUptoCardSaid : Prop := Claim7.holds Tryd.pinned (.plain (OpenSpec.upto fnExactLibraryFindSpec)) fnExactLibraryFindUptoCard

/-- THE SECOND FORM's CARD OF 'laws.FnExactLibraryName'. -/
def fnExactLibraryNameUptoCard : Claim7 := { stood := { row := fnExactLibraryNameUptoRow, standIns := [], harness := (true, "164fc4f777741f48e9e992c141a16fcf14308d7c36e1537de391adcd0d6a0b5a"), looks := false }, kinds := [], alts := [], laidByText := true, laidKinds := [.data, .pinned], laidTests := true, laidLooks := .later }
def FnExactLibraryNameUptoCardSaid : Prop := Claim7.holds Tryd.pinned (.plain (OpenSpec.upto fnExactLibraryNameSpec)) fnExactLibraryNameUptoCard

/-- THE SECOND FORM's CARD OF 'laws.FnExactLibraryInput'. -/
def fnExactLibraryInputUptoCard : Claim7 := { stood := { row := fnExactLibraryInputUptoRow, standIns := [], harness := (true, "164fc4f777741f48e9e992c141a16fcf14308d7c36e1537de391adcd0d6a0b5a"), looks := false }, kinds := [], alts := [], laidByText := true, laidKinds := [.data, .pinned], laidTests := true, laidLooks := .later }
def FnExactLibraryInputUptoCardSaid : Prop := Claim7.holds Tryd.pinned (.plain (OpenSpec.upto fnExactLibraryInputSpec)) fnExactLibraryInputUptoCard

/-- THE SECOND FORM's CARD OF 'laws.FnExactLibraryOutput'. -/
def fnExactLibraryOutputUptoCard : Claim7 := { stood := { row := fnExactLibraryOutputUptoRow, standIns := [], harness := (true, "164fc4f777741f48e9e992c141a16fcf14308d7c36e1537de391adcd0d6a0b5a"), looks := false }, kinds := [], alts := [], laidByText := true, laidKinds := [.data, .pinned], laidTests := true, laidLooks := .later }
def FnExactLibraryOutputUptoCardSaid : Prop := Claim7.holds Tryd.pinned (.plain (OpenSpec.upto fnExactLibraryOutputSpec)) fnExactLibraryOutputUptoCard

/-- THE SECOND FORM's CARD OF 'laws.FnExactLibrarySource'. -/
def fnExactLibrarySourceUptoCard : Claim7 := { stood := { row := fnExactLibrarySourceUptoRow, standIns := [], harness := (true, "164fc4f777741f48e9e992c141a16fcf14308d7c36e1537de391adcd0d6a0b5a"), looks := false }, kinds := [], alts := [], laidByText := true, laidKinds := [.data, .pinned], laidTests := true, laidLooks := .later }
def FnExactLibrarySourceUptoCardSaid : Prop := Claim7.holds Tryd.pinned (.plain (OpenSpec.upto fnExactLibrarySourceSpec)) fnExactLibrarySourceUptoCard
end Rows
end Go.Proofs.YthifliapgmalpaaDoor
