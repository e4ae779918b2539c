/-
  NARROWER THAN 'FOR EVERY INPUT', by the rows' own cells (each row's printed sentence says how): FnExactLibraryCount: laid · FnExactLibraryFind: laid · FnExactLibraryName: laid · FnExactLibraryInput: laid · FnExactLibraryOutput: laid · FnExactLibrarySource: laid.
  DERIVED. THE GIVEN ROWS OF THIS SEAT. 6 by the template 'for every input the law returns true; each argument reads behind the call as it read before'; 0 by the template 'total and deterministic' (their statements: YthifliapgmalpaaDoorTotals.lean).
  GIVEN WITH THE SEED: the statements are not yours to turn. If you find one false, say at which input.
  Laid BY PROGRAM, IN A SANDBOX (cutbox-rows.mjs): the forced cells as the released guide's own fill.sh prints them over the translation 7b24825b323e5165… (all of the seat's roots in one cut). By AI agents, Wed Nov 11 2026. No macro, syntax, notation, axiom, sorry.
-/
import Derived.Test.YthifliapgmalpaaDoorChecked
import GoSem.PinnedTables
import GoSem.Claim
import GoSem.ClaimJoined
import GoSem.ClaimMapViews
import Derived.JoinedTies
import Derived.KernelRfl
namespace Go.Proofs.YthifliapgmalpaaDoor
/- THE CELL 'sum', in the pinned program and in every row, IS THE sha256 OF THE DUMP (.gsa) THAT YthifliapgmalpaaDoorProg.lean LOADS. Nothing in Lean hashes anything: it is a label: what it is worth is what the hold of that sum in a sandbox is worth. -/
noncomputable def Tryd.pinned : Pinned := { name := "ythifliapgmalpaadoor", sum := "7b24825b323e5165916c653e01a3c486fa2a6fb4aee7c9055308c6ed20bdb02f", checked := Tryd.checked }
namespace Rows
def none {H : Type} : Left H := { results := [], args := [] }

/- WHAT THE LISTED PACKAGE-LEVEL VARIABLES READ AS WHEN THE CALL BEGINS. Each datum BY PROGRAM (the guide's laid-datum.mjs) off the statement by which the dump's own 'gosem.cut.vars' lays the variable. In a bare row this is a premise. The card (YthifliapgmalpaaDoorCards.lean) ties it to the program's text. -/
def laid_unicode_utf8_acceptRanges {H : Type} : DataW H := .agg [.agg [.lit (.int .u8 128), .lit (.int .u8 191)], .agg [.lit (.int .u8 160), .lit (.int .u8 191)], .agg [.lit (.int .u8 128), .lit (.int .u8 159)], .agg [.lit (.int .u8 144), .lit (.int .u8 191)], .agg [.lit (.int .u8 128), .lit (.int .u8 143)], .agg [.lit (.int .u8 0), .lit (.int .u8 0)], .agg [.lit (.int .u8 0), .lit (.int .u8 0)], .agg [.lit (.int .u8 0), .lit (.int .u8 0)], .agg [.lit (.int .u8 0), .lit (.int .u8 0)], .agg [.lit (.int .u8 0), .lit (.int .u8 0)], .agg [.lit (.int .u8 0), .lit (.int .u8 0)], .agg [.lit (.int .u8 0), .lit (.int .u8 0)], .agg [.lit (.int .u8 0), .lit (.int .u8 0)], .agg [.lit (.int .u8 0), .lit (.int .u8 0)], .agg [.lit (.int .u8 0), .lit (.int .u8 0)], .agg [.lit (.int .u8 0), .lit (.int .u8 0)]]
/-- One of Go's own tables, pinned by name: the form's constant. -/
def laid_unicode_utf8_first : DataW Unit := Go.Pinned.utf8First

/-- 'laws.FnExactLibraryCount': WHATEVER THE INPUT: true; the input reads as it did. -/
def fnExactLibraryCountSpec : ChangeSpec := { name := "fnExactLibraryCount", fn := fun _ => fun
  | [] => { results := [.lit (.bool true)], args := [] }
  | _ => none }
def fnExactLibraryCountRow : OpenClaim := { program := "ythifliapgmalpaadoor", sum := "7b24825b323e5165916c653e01a3c486fa2a6fb4aee7c9055308c6ed20bdb02f", func := "loop.example/g00873/laws.FnExactLibraryCount", spec := "fnExactLibraryCount", inPlace := ["internal/bytealg.CountString", "internal/bytealg.IndexByteString", "internal/bytealg.IndexString"], named := ["unicode/utf8.first", "unicode/utf8.acceptRanges", "internal/bytealg.MaxLen"], apart := false, laid := [("unicode/utf8.acceptRanges", laid_unicode_utf8_acceptRanges), ("unicode/utf8.first", laid_unicode_utf8_first)] }
def FnExactLibraryCountSaid : Prop := fnExactLibraryCountRow.holds Tryd.pinned (OpenSpec.ofChange fnExactLibraryCountSpec)

/-- ITS FALSE NEIGHBOUR: 'it returns false'. Refute it at one input. -/
def fnExactLibraryCountWrong : ChangeSpec := { name := "fnExactLibraryCount", fn := fun _ => fun
  | [] => { results := [.lit (.bool false)], args := [] }
  | _ => none }
def FnExactLibraryCountWrongFalsely : Prop := fnExactLibraryCountRow.holds Tryd.pinned (OpenSpec.ofChange fnExactLibraryCountWrong)

/-- 'laws.FnExactLibraryFind': WHATEVER THE INPUT: true; the input reads as it did. -/
def fnExactLibraryFindSpec : ChangeSpec := { name := "fnExactLibraryFind", fn := fun _ => fun
  | [d] => { results := [.lit (.bool true)], args := [d] }
  | _ => none }
def fnExactLibraryFindRow : OpenClaim := { program := "ythifliapgmalpaadoor", sum := "7b24825b323e5165916c653e01a3c486fa2a6fb4aee7c9055308c6ed20bdb02f", func := "loop.example/g00873/laws.FnExactLibraryFind", spec := "fnExactLibraryFind", inPlace := ["internal/bytealg.CountString", "internal/bytealg.IndexByteString", "internal/bytealg.IndexString"], unfollowed := true, recurses := true, named := ["unicode/utf8.first", "unicode/utf8.acceptRanges", "internal/bytealg.MaxLen"], apart := false, laid := [("unicode/utf8.acceptRanges", laid_unicode_utf8_acceptRanges), ("unicode/utf8.first", laid_unicode_utf8_first)] }
def FnExactLibraryFindSaid : Prop := fnExactLibraryFindRow.holds Tryd.pinned (OpenSpec.ofChange fnExactLibraryFindSpec)

/-- ITS FALSE NEIGHBOUR: 'it returns false'. Refute it at one input. -/
def fnExactLibraryFindWrong : ChangeSpec := { name := "fnExactLibraryFind", fn := fun _ => fun
  | [d] => { results := [.lit (.bool false)], args := [d] }
  | _ => none }
def FnExactLibraryFindWrongFalsely : Prop := fnExactLibraryFindRow.holds Tryd.pinned (OpenSpec.ofChange fnExactLibraryFindWrong)

/-- 'laws.FnExactLibraryName': WHATEVER THE INPUT: true; the input reads as it did. -/
def fnExactLibraryNameSpec : ChangeSpec := { name := "fnExactLibraryName", fn := fun _ => fun
  | [d] => { results := [.lit (.bool true)], args := [d] }
  | _ => none }
def fnExactLibraryNameRow : OpenClaim := { program := "ythifliapgmalpaadoor", sum := "7b24825b323e5165916c653e01a3c486fa2a6fb4aee7c9055308c6ed20bdb02f", func := "loop.example/g00873/laws.FnExactLibraryName", spec := "fnExactLibraryName", inPlace := ["internal/bytealg.CountString", "internal/bytealg.IndexByteString", "internal/bytealg.IndexString"], named := ["unicode/utf8.first", "unicode/utf8.acceptRanges", "internal/bytealg.MaxLen"], apart := false, laid := [("unicode/utf8.acceptRanges", laid_unicode_utf8_acceptRanges), ("unicode/utf8.first", laid_unicode_utf8_first)] }
def FnExactLibraryNameSaid : Prop := fnExactLibraryNameRow.holds Tryd.pinned (OpenSpec.ofChange fnExactLibraryNameSpec)

/-- ITS FALSE NEIGHBOUR: 'it returns false'. Refute it at one input. -/
def fnExactLibraryNameWrong : ChangeSpec := { name := "fnExactLibraryName", fn := fun _ => fun
  | [d] => { results := [.lit (.bool false)], args := [d] }
  | _ => none }
def FnExactLibraryNameWrongFalsely : Prop := fnExactLibraryNameRow.holds Tryd.pinned (OpenSpec.ofChange fnExactLibraryNameWrong)

/-- 'laws.FnExactLibraryInput': WHATEVER THE INPUT: true; the input reads as it did. -/
def fnExactLibraryInputSpec : ChangeSpec := { name := "fnExactLibraryInput", fn := fun _ => fun
  | [d] => { results := [.lit (.bool true)], args := [d] }
  | _ => none }
def fnExactLibraryInputRow : OpenClaim := { program := "ythifliapgmalpaadoor", sum := "7b24825b323e5165916c653e01a3c486fa2a6fb4aee7c9055308c6ed20bdb02f", func := "loop.example/g00873/laws.FnExactLibraryInput", spec := "fnExactLibraryInput", inPlace := ["internal/bytealg.CountString", "internal/bytealg.IndexByteString", "internal/bytealg.IndexString"], named := ["unicode/utf8.first", "unicode/utf8.acceptRanges", "internal/bytealg.MaxLen"], apart := false, laid := [("unicode/utf8.acceptRanges", laid_unicode_utf8_acceptRanges), ("unicode/utf8.first", laid_unicode_utf8_first)] }
def FnExactLibraryInputSaid : Prop := fnExactLibraryInputRow.holds Tryd.pinned (OpenSpec.ofChange fnExactLibraryInputSpec)

/-- ITS FALSE NEIGHBOUR: 'it returns false'. Refute it at one input. -/
def fnExactLibraryInputWrong : ChangeSpec := { name := "fnExactLibraryInput", fn := fun _ => fun
  | [d] => { results := [.lit (.bool false)], args := [d] }
  | _ => none }
def FnExactLibraryInputWrongFalsely : Prop := fnExactLibraryInputRow.holds Tryd.pinned (OpenSpec.ofChange fnExactLibraryInputWrong)

/-- 'laws.FnExactLibraryOutput': WHATEVER THE INPUT: true; the input reads as it did. -/
def fnExactLibraryOutputSpec : ChangeSpec := { name := "fnExactLibraryOutput", fn := fun _ => fun
  | [d] => { results := [.lit (.bool true)], args := [d] }
  | _ => none }
def fnExactLibraryOutputRow : OpenClaim := { program := "ythifliapgmalpaadoor", sum := "7b24825b323e5165916c653e01a3c486fa2a6fb4aee7c9055308c6ed20bdb02f", func := "loop.example/g00873/laws.FnExactLibraryOutput", spec := "fnExactLibraryOutput", inPlace := ["internal/bytealg.CountString", "internal/bytealg.IndexByteString", "internal/bytealg.IndexString"], named := ["unicode/utf8.first", "unicode/utf8.acceptRanges", "internal/bytealg.MaxLen"], apart := false, laid := [("unicode/utf8.acceptRanges", laid_unicode_utf8_acceptRanges), ("unicode/utf8.first", laid_unicode_utf8_first)] }
def FnExactLibraryOutputSaid : Prop := fnExactLibraryOutputRow.holds Tryd.pinned (OpenSpec.ofChange fnExactLibraryOutputSpec)

/-- ITS FALSE NEIGHBOUR: 'it returns false'. Refute it at one input. -/
def fnExactLibraryOutputWrong : ChangeSpec := { name := "fnExactLibraryOutput", fn := fun _ => fun
  | [d] => { results := [.lit (.bool false)], args := [d] }
  | _ => none }
def FnExactLibraryOutputWrongFalsely : Prop := fnExactLibraryOutputRow.holds Tryd.pinned (OpenSpec.ofChange fnExactLibraryOutputWrong)

/-- 'laws.FnExactLibrarySource': WHATEVER THE INPUT: true; the input reads as it did. -/
def fnExactLibrarySourceSpec : ChangeSpec := { name := "fnExactLibrarySource", fn := fun _ => fun
  | [d] => { results := [.lit (.bool true)], args := [d] }
  | _ => none }
def fnExactLibrarySourceRow : OpenClaim := { program := "ythifliapgmalpaadoor", sum := "7b24825b323e5165916c653e01a3c486fa2a6fb4aee7c9055308c6ed20bdb02f", func := "loop.example/g00873/laws.FnExactLibrarySource", spec := "fnExactLibrarySource", inPlace := ["internal/bytealg.CountString", "internal/bytealg.IndexByteString", "internal/bytealg.IndexString", "internal/abi.NoEscape"], named := ["unicode/utf8.first", "unicode/utf8.acceptRanges", "internal/bytealg.MaxLen"], apart := false, laid := [("unicode/utf8.acceptRanges", laid_unicode_utf8_acceptRanges), ("unicode/utf8.first", laid_unicode_utf8_first)] }
def FnExactLibrarySourceSaid : Prop := fnExactLibrarySourceRow.holds Tryd.pinned (OpenSpec.ofChange fnExactLibrarySourceSpec)

/-- ITS FALSE NEIGHBOUR: 'it returns false'. Refute it at one input. -/
def fnExactLibrarySourceWrong : ChangeSpec := { name := "fnExactLibrarySource", fn := fun _ => fun
  | [d] => { results := [.lit (.bool false)], args := [d] }
  | _ => none }
def FnExactLibrarySourceWrongFalsely : Prop := fnExactLibrarySourceRow.holds Tryd.pinned (OpenSpec.ofChange fnExactLibrarySourceWrong)

/- THE SECOND FORM. 'bulk': how many values and letters a reading holds, each counted each time it is reached (what is shared counts as often as it is met; a slice's spare places count too). A statement '..UptoSaid' is the law's where the arguments, and the package variables that the reading takes, are together of bulk at most 1048576: NARROWER than '..Said'. Prove '..Said' where nothing that the law and all that it calls make is longer than what came in: it says more and counts as full. Else prove '..UptoSaid'. A law counts once. -/
mutual
def uptoBulk {H : Type} : DataW H → Nat
  | .lit (.string bytes) => bytes.length + 1
  | .lit _ => 1
  | .nil => 1
  | .ptr d => uptoBulk d + 1
  | .slice elems spare => uptoBulkAll elems + uptoBulkAll spare + 1
  | .agg parts => uptoBulkAll parts + 1
  | .iface _ d => uptoBulk d + 1
  | .map entries => uptoBulkEntries entries + 1
  | .held _ => 1
def uptoBulkAll {H : Type} : List (DataW H) → Nat
  | [] => 0
  | d :: r => uptoBulk d + uptoBulkAll r
def uptoBulkEntries {H : Type} : List (Lit × DataW H) → Nat
  | [] => 0
  | x :: r => uptoBulkEntry x + uptoBulkEntries r
def uptoBulkEntry {H : Type} : Lit × DataW H → Nat
  | (.string bytes, d) => bytes.length + uptoBulk d + 1
  | (_, d) => uptoBulk d + 1
 end
def uptoSmall : (H : Type) → List (DataW H) → Bool := fun _ ds => decide (uptoBulkAll ds ≤ 1048576)
def OpenSpec.upto (s : _root_.Go.ChangeSpec) : _root_.Go.OpenSpec := { _root_.Go.OpenSpec.ofChange s with cond := some uptoSmall }

/-- 'laws.FnExactLibraryCount', WHERE WHAT IT READS IS OF BULK AT MOST 1048576: true; the input reads as it did. -/
def fnExactLibraryCountUptoRow : OpenClaim := { program := "ythifliapgmalpaadoor", sum := "7b24825b323e5165916c653e01a3c486fa2a6fb4aee7c9055308c6ed20bdb02f", func := "loop.example/g00873/laws.FnExactLibraryCount", spec := "fnExactLibraryCount", inPlace := ["internal/bytealg.CountString", "internal/bytealg.IndexByteString", "internal/bytealg.IndexString"], named := ["unicode/utf8.first", "unicode/utf8.acceptRanges", "internal/bytealg.MaxLen"], apart := false, laid := [("unicode/utf8.acceptRanges", laid_unicode_utf8_acceptRanges), ("unicode/utf8.first", laid_unicode_utf8_first)], narrowed := true }
def FnExactLibraryCountUptoSaid : Prop := fnExactLibraryCountUptoRow.holds Tryd.pinned (OpenSpec.upto fnExactLibraryCountSpec)

/-- 'laws.FnExactLibraryFind', WHERE WHAT IT READS IS OF BULK AT MOST 1048576: true; the input reads as it did. -/
def fnExactLibraryFindUptoRow : OpenClaim := { program := "ythifliapgmalpaadoor", sum := "7b24825b323e5165916c653e01a3c486fa2a6fb4aee7c9055308c6ed20bdb02f", func := "loop.example/g00873/laws.FnExactLibraryFind", spec := "fnExactLibraryFind", inPlace := ["internal/bytealg.CountString", "internal/bytealg.IndexByteString", "internal/bytealg.IndexString"], unfollowed := true, recurses := true, named := ["unicode/utf8.first", "unicode/utf8.acceptRanges", "internal/bytealg.MaxLen"], apart := false, laid := [("unicode/utf8.acceptRanges", laid_unicode_utf8_acceptRanges), ("unicode/utf8.first", laid_unicode_utf8_first)], narrowed := true }
def FnExactLibraryFindUptoSaid : Prop := fnExactLibraryFindUptoRow.holds Tryd.pinned (OpenSpec.upto fnExactLibraryFindSpec)

/-- 'laws.FnExactLibraryName', WHERE WHAT IT READS IS OF BULK AT MOST 1048576: true; the input reads as it did. -/
def fnExactLibraryNameUptoRow : OpenClaim := { program := "ythifliapgmalpaadoor", sum := "7b24825b323e5165916c653e01a3c486fa2a6fb4aee7c9055308c6ed20bdb02f", func := "loop.example/g00873/laws.FnExactLibraryName", spec := "fnExactLibraryName", inPlace := ["internal/bytealg.CountString", "internal/bytealg.IndexByteString", "internal/bytealg.IndexString"], named := ["unicode/utf8.first", "unicode/utf8.acceptRanges", "internal/bytealg.MaxLen"], apart := false, laid := [("unicode/utf8.acceptRanges", laid_unicode_utf8_acceptRanges), ("unicode/utf8.first", laid_unicode_utf8_first)], narrowed := true }
def FnExactLibraryNameUptoSaid : Prop := fnExactLibraryNameUptoRow.holds Tryd.pinned (OpenSpec.upto fnExactLibraryNameSpec)

/-- 'laws.FnExactLibraryInput', WHERE WHAT IT READS IS OF BULK AT MOST 1048576: true; the input reads as it did. -/
def fnExactLibraryInputUptoRow : OpenClaim := { program := "ythifliapgmalpaadoor", sum := "7b24825b323e5165916c653e01a3c486fa2a6fb4aee7c9055308c6ed20bdb02f", func := "loop.example/g00873/laws.FnExactLibraryInput", spec := "fnExactLibraryInput", inPlace := ["internal/bytealg.CountString", "internal/bytealg.IndexByteString", "internal/bytealg.IndexString"], named := ["unicode/utf8.first", "unicode/utf8.acceptRanges", "internal/bytealg.MaxLen"], apart := false, laid := [("unicode/utf8.acceptRanges", laid_unicode_utf8_acceptRanges), ("unicode/utf8.first", laid_unicode_utf8_first)], narrowed := true }
def FnExactLibraryInputUptoSaid : Prop := fnExactLibraryInputUptoRow.holds Tryd.pinned (OpenSpec.upto fnExactLibraryInputSpec)

/-- 'laws.FnExactLibraryOutput', WHERE WHAT IT READS IS OF BULK AT MOST 1048576: true; the input reads as it did. -/
def fnExactLibraryOutputUptoRow : OpenClaim := { program := "ythifliapgmalpaadoor", sum := "7b24825b323e5165916c653e01a3c486fa2a6fb4aee7c9055308c6ed20bdb02f", func := "loop.example/g00873/laws.FnExactLibraryOutput", spec := "fnExactLibraryOutput", inPlace := ["internal/bytealg.CountString", "internal/bytealg.IndexByteString", "internal/bytealg.IndexString"], named := ["unicode/utf8.first", "unicode/utf8.acceptRanges", "internal/bytealg.MaxLen"], apart := false, laid := [("unicode/utf8.acceptRanges", laid_unicode_utf8_acceptRanges), ("unicode/utf8.first", laid_unicode_utf8_first)], narrowed := true }
def FnExactLibraryOutputUptoSaid : Prop := fnExactLibraryOutputUptoRow.holds Tryd.pinned (OpenSpec.upto fnExactLibraryOutputSpec)

/-- 'laws.FnExactLibrarySource', WHERE WHAT IT READS IS OF BULK AT MOST 1048576: true; the input reads as it did. -/
def fnExactLibrarySourceUptoRow : OpenClaim := { program := "ythifliapgmalpaadoor", sum := "7b24825b323e5165916c653e01a3c486fa2a6fb4aee7c9055308c6ed20bdb02f", func := "loop.example/g00873/laws.FnExactLibrarySource", spec := "fnExactLibrarySource", inPlace := ["internal/bytealg.CountString", "internal/bytealg.IndexByteString", "internal/bytealg.IndexString", "internal/abi.NoEscape"], named := ["unicode/utf8.first", "unicode/utf8.acceptRanges", "internal/bytealg.MaxLen"], apart := false, laid := [("unicode/utf8.acceptRanges", laid_unicode_utf8_acceptRanges), ("unicode/utf8.first", laid_unicode_utf8_first)], narrowed := true }
def FnExactLibrarySourceUptoSaid : Prop := fnExactLibrarySourceUptoRow.holds Tryd.pinned (OpenSpec.upto fnExactLibrarySourceSpec)

end Rows
end Go.Proofs.YthifliapgmalpaaDoor
