/-
  DERIVED. GIVEN WITH THE SEED: THE CARDS: each row of YtpafmohohdfkgaaDoorRows.lean that lists a variable, with what it lists TIED to the program's text (the seventh form; the later family's looks); each row that meets fmt, with fmt's text TOLD by the authors' own Lean function (tested against real Go, not proved from fmt's source: count such statements apart). THE CARD IS WHAT COUNTS. Prove the row's statement (the work); the ties are given (YtpafmohohdfkgaaDoorTie.lean); close each card by the builder's one call (the guide's Derived/Test/ToyasCard.lean, 'card_holds'). Laid BY PROGRAM, IN A SANDBOX (cutbox-door.mjs). By AI agents, Wed Nov 11 2026. No macro, syntax, notation, axiom, sorry.
-/
import Derived.Test.YtpafmohohdfkgaaDoorRows
import GoSem.ClaimSeven
namespace Go.Proofs.YtpafmohohdfkgaaDoor
namespace Rows

/-- THE TIED CARD OF 'laws.FnExactPrintExpr'. -/
def fnExactPrintExprCard : Claim7 := { stood := { row := fnExactPrintExprRow, standIns := [], harness := (true, "222ad7ae0b50be299649b7009789264957ba1d52dcfd86b4f33a64998dbcddec"), looks := false }, kinds := [], alts := [], laidByText := true, laidKinds := [.data, .data, .data], laidTests := true, laidLooks := .later }
def FnExactPrintExprCardSaid : Prop := Claim7.holds Tryd.pinned (.plain (OpenSpec.ofChange fnExactPrintExprSpec)) fnExactPrintExprCard

/-- THE TIED CARD OF 'laws.FnExactPatternText'. -/
def fnExactPatternTextCard : Claim7 := { stood := { row := fnExactPatternTextRow, standIns := [], harness := (true, "222ad7ae0b50be299649b7009789264957ba1d52dcfd86b4f33a64998dbcddec"), looks := false }, kinds := [], alts := [], laidByText := true, laidKinds := [.data, .data, .data, .data, .pinned], laidTests := true, laidLooks := .later }
def FnExactPatternTextCardSaid : Prop := Claim7.holds Tryd.pinned (.plain (OpenSpec.ofChange fnExactPatternTextSpec)) fnExactPatternTextCard

/-- THE TIED CARD OF 'laws.FnExactPatternValue'. -/
def fnExactPatternValueCard : Claim7 := { stood := { row := fnExactPatternValueRow, standIns := [], harness := (true, "222ad7ae0b50be299649b7009789264957ba1d52dcfd86b4f33a64998dbcddec"), looks := false }, kinds := [], alts := [], laidByText := true, laidKinds := [.data, .data, .data, .data, .pinned], laidTests := true, laidLooks := .later }
def FnExactPatternValueCardSaid : Prop := Claim7.holds Tryd.pinned (.plain (OpenSpec.ofChange fnExactPatternValueSpec)) fnExactPatternValueCard

/-- THE TIED CARD OF 'laws.FnExactGenText'. -/
def fnExactGenTextCard : Claim7 := { stood := { row := fnExactGenTextRow, standIns := [], harness := (true, "222ad7ae0b50be299649b7009789264957ba1d52dcfd86b4f33a64998dbcddec"), looks := false }, kinds := [], alts := [], laidByText := true, laidKinds := [.data, .data, .data, .data, .pinned], laidTests := true, laidLooks := .later }
def FnExactGenTextCardSaid : Prop := Claim7.holds Tryd.pinned (.plain (OpenSpec.ofChange fnExactGenTextSpec)) fnExactGenTextCard

/-- THE SECOND FORM's CARD OF 'laws.FnExactPrintExpr'. -/
def fnExactPrintExprUptoCard : Claim7 := { stood := { row := fnExactPrintExprUptoRow, standIns := [], harness := (true, "222ad7ae0b50be299649b7009789264957ba1d52dcfd86b4f33a64998dbcddec"), looks := false }, kinds := [], alts := [], laidByText := true, laidKinds := [.data, .data, .data], laidTests := true, laidLooks := .later }
def FnExactPrintExprUptoCardSaid : Prop := Claim7.holds Tryd.pinned (.plain (OpenSpec.upto fnExactPrintExprSpec)) fnExactPrintExprUptoCard

/-- THE SECOND FORM's CARD OF 'laws.FnExactPatternText'. -/
def fnExactPatternTextUptoCard : Claim7 := { stood := { row := fnExactPatternTextUptoRow, standIns := [], harness := (true, "222ad7ae0b50be299649b7009789264957ba1d52dcfd86b4f33a64998dbcddec"), looks := false }, kinds := [], alts := [], laidByText := true, laidKinds := [.data, .data, .data, .data, .pinned], laidTests := true, laidLooks := .later }
def FnExactPatternTextUptoCardSaid : Prop := Claim7.holds Tryd.pinned (.plain (OpenSpec.upto fnExactPatternTextSpec)) fnExactPatternTextUptoCard

/-- THE SECOND FORM's CARD OF 'laws.FnExactPatternValue'. -/
def fnExactPatternValueUptoCard : Claim7 := { stood := { row := fnExactPatternValueUptoRow, standIns := [], harness := (true, "222ad7ae0b50be299649b7009789264957ba1d52dcfd86b4f33a64998dbcddec"), looks := false }, kinds := [], alts := [], laidByText := true, laidKinds := [.data, .data, .data, .data, .pinned], laidTests := true, laidLooks := .later }
def FnExactPatternValueUptoCardSaid : Prop := Claim7.holds Tryd.pinned (.plain (OpenSpec.upto fnExactPatternValueSpec)) fnExactPatternValueUptoCard

/-- THE SECOND FORM's CARD OF 'laws.FnExactGenText'. -/
def fnExactGenTextUptoCard : Claim7 := { stood := { row := fnExactGenTextUptoRow, standIns := [], harness := (true, "222ad7ae0b50be299649b7009789264957ba1d52dcfd86b4f33a64998dbcddec"), looks := false }, kinds := [], alts := [], laidByText := true, laidKinds := [.data, .data, .data, .data, .pinned], laidTests := true, laidLooks := .later }
def FnExactGenTextUptoCardSaid : Prop := Claim7.holds Tryd.pinned (.plain (OpenSpec.upto fnExactGenTextSpec)) fnExactGenTextUptoCard
end Rows
end Go.Proofs.YtpafmohohdfkgaaDoor
