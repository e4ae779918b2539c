/- The types of this program and the places where its loops are cut. -/
import Derived.Test.YtfhnamdfhminaaaGreatDoorDvc
import Derived.Test.YtfhnamdfhminaaaGreatDoorChecked
set_option linter.all false
set_option linter.unusedVariables false
set_option linter.unusedSimpArgs false
namespace Go.Dv.U

open Go Go.Dv Go.Proofs

set_option maxRecDepth 100000

structure TRuntime_boundsError where
  fX : Int
  fY : Int
  fSigned : Bool
  fCode : Int

structure TRuntime_errorAddressString where
  fMsg : (List UInt8)
  fAddr : Int

structure TExpr where
  fKind : Int
  fNum : Int
  fText : (List UInt8)
  fKids : (List TExpr)

structure TGoto where
  fAlways : (List UInt8)
  fSuccess : (List UInt8)
  fFailure : (List UInt8)

structure TStatement where
  fLabel : (List UInt8)
  fHasSubject : Bool
  fSubject : TExpr
  fHasPattern : Bool
  fPattern : TExpr
  fHasReplace : Bool
  fReplace : TExpr
  fGoto : TGoto

structure TProgram where
  fStatements : (List TStatement)

structure TInstr where
  fOp : Int
  fA : Int
  fText : (List UInt8)

structure TCode where
  fInstrs : (List TInstr)
  fEntries : (List Int)
  fFails : (List Int)

structure TPatternIns where
  fOp : Int
  fNum : Int
  fText : (List UInt8)

structure TPatternEntry where
  fName : (List UInt8)
  fAt : Int

structure TPatternCode where
  fCode : (List TPatternIns)
  fEntries : (List TPatternEntry)

structure TPattern where
  fKind : Int
  fNum : Int
  fText : (List UInt8)
  fKids : (List TPattern)

structure TSpec_l00Src where
  fCode : (List Int)
  fAt : Int
  fSeed : Int

structure TInstrForm where
  fWord : (List UInt8)
  fHasNumber : Bool
  fLow : Int
  fHigh : Int
  fHasText : Bool
  fNeeds : Int
  fLeaves : Int

structure TToken where
  fKind : Int
  fNum : Int
  fText : (List UInt8)
  fBefore : Bool
  fAfter : Bool

structure TPlace where
  fPrefix : (List TInstr)
  fPeek : TInstr
  fStore : TInstr

structure TLine where
  fNumber : Int
  fText : (List UInt8)

structure TSpec_l04Reader where
  fTokens : (List TToken)
  fAt : Int
  fCode : Int

structure TUtf8_acceptRange where
  fLo : Int
  fHi : Int

structure TSpec_l03Parser where
  fTokens : (List TToken)
  fAt : Int
  fArgs : Bool
  fCode : Int

structure TErrors_errorString where
  fS : (List UInt8)

def SS : Nat → Type
  | 7 => TRuntime_boundsError
  | 13 => TRuntime_errorAddressString
  | 23 => TProgram
  | 39 => TCode
  | 52 => TPatternCode
  | 67 => TInstr
  | 90 => TPatternEntry
  | 94 => TPatternIns
  | 112 => TExpr
  | 114 => TGoto
  | 116 => TStatement
  | 152 => TPattern
  | 163 => TSpec_l00Src
  | 169 => TInstrForm
  | 223 => TToken
  | 229 => TPlace
  | 261 => TLine
  | 293 => TSpec_l04Reader
  | 333 => TUtf8_acceptRange
  | 337 => TSpec_l03Parser
  | 345 => TErrors_errorString
  | _ => Empty

def TRuntime_boundsError.ts : List Ty := [(.int .i64), (.int .i64), .bool, (.int .u8)]

def TRuntime_boundsError.to (x : TRuntime_boundsError) : lDen SS TRuntime_boundsError.ts := (x.fX, x.fY, x.fSigned, x.fCode, ())

def TRuntime_boundsError.of (p : lDen SS TRuntime_boundsError.ts) : TRuntime_boundsError := (⟨p.1, p.2.1, p.2.2.1, p.2.2.2.1⟩ : TRuntime_boundsError)

def TRuntime_errorAddressString.ts : List Ty := [.str, (.int .u64)]

def TRuntime_errorAddressString.to (x : TRuntime_errorAddressString) : lDen SS TRuntime_errorAddressString.ts := (x.fMsg, x.fAddr, ())

def TRuntime_errorAddressString.of (p : lDen SS TRuntime_errorAddressString.ts) : TRuntime_errorAddressString := (⟨p.1, p.2.1⟩ : TRuntime_errorAddressString)

def TProgram.ts : List Ty := [(.sl (.st 116))]

def TProgram.to (x : TProgram) : lDen SS TProgram.ts := (x.fStatements, ())

def TProgram.of (p : lDen SS TProgram.ts) : TProgram := (⟨p.1⟩ : TProgram)

def TCode.ts : List Ty := [(.sl (.st 67)), (.sl (.int .i64)), (.sl (.int .i64))]

def TCode.to (x : TCode) : lDen SS TCode.ts := (x.fInstrs, x.fEntries, x.fFails, ())

def TCode.of (p : lDen SS TCode.ts) : TCode := (⟨p.1, p.2.1, p.2.2.1⟩ : TCode)

def TPatternCode.ts : List Ty := [(.sl (.st 94)), (.sl (.st 90))]

def TPatternCode.to (x : TPatternCode) : lDen SS TPatternCode.ts := (x.fCode, x.fEntries, ())

def TPatternCode.of (p : lDen SS TPatternCode.ts) : TPatternCode := (⟨p.1, p.2.1⟩ : TPatternCode)

def TInstr.ts : List Ty := [(.int .i64), (.int .i64), .str]

def TInstr.to (x : TInstr) : lDen SS TInstr.ts := (x.fOp, x.fA, x.fText, ())

def TInstr.of (p : lDen SS TInstr.ts) : TInstr := (⟨p.1, p.2.1, p.2.2.1⟩ : TInstr)

def TPatternEntry.ts : List Ty := [.str, (.int .i64)]

def TPatternEntry.to (x : TPatternEntry) : lDen SS TPatternEntry.ts := (x.fName, x.fAt, ())

def TPatternEntry.of (p : lDen SS TPatternEntry.ts) : TPatternEntry := (⟨p.1, p.2.1⟩ : TPatternEntry)

def TPatternIns.ts : List Ty := [(.int .i64), (.int .i64), .str]

def TPatternIns.to (x : TPatternIns) : lDen SS TPatternIns.ts := (x.fOp, x.fNum, x.fText, ())

def TPatternIns.of (p : lDen SS TPatternIns.ts) : TPatternIns := (⟨p.1, p.2.1, p.2.2.1⟩ : TPatternIns)

def TExpr.ts : List Ty := [(.int .i64), (.int .i64), .str, (.sl (.st 112))]

def TExpr.to (x : TExpr) : lDen SS TExpr.ts := (x.fKind, x.fNum, x.fText, x.fKids, ())

def TExpr.of (p : lDen SS TExpr.ts) : TExpr := (⟨p.1, p.2.1, p.2.2.1, p.2.2.2.1⟩ : TExpr)

def TGoto.ts : List Ty := [.str, .str, .str]

def TGoto.to (x : TGoto) : lDen SS TGoto.ts := (x.fAlways, x.fSuccess, x.fFailure, ())

def TGoto.of (p : lDen SS TGoto.ts) : TGoto := (⟨p.1, p.2.1, p.2.2.1⟩ : TGoto)

def TStatement.ts : List Ty := [.str, .bool, (.int .i64), (.int .i64), .str, (.sl (.st 112)), .bool, (.int .i64), (.int .i64), .str, (.sl (.st 112)), .bool, (.int .i64), (.int .i64), .str, (.sl (.st 112)), .str, .str, .str]

def TStatement.to (x : TStatement) : lDen SS TStatement.ts := (x.fLabel, x.fHasSubject, x.fSubject.fKind, x.fSubject.fNum, x.fSubject.fText, x.fSubject.fKids, x.fHasPattern, x.fPattern.fKind, x.fPattern.fNum, x.fPattern.fText, x.fPattern.fKids, x.fHasReplace, x.fReplace.fKind, x.fReplace.fNum, x.fReplace.fText, x.fReplace.fKids, x.fGoto.fAlways, x.fGoto.fSuccess, x.fGoto.fFailure, ())

def TStatement.of (p : lDen SS TStatement.ts) : TStatement := (⟨p.1, p.2.1, (⟨p.2.2.1, p.2.2.2.1, p.2.2.2.2.1, p.2.2.2.2.2.1⟩ : TExpr), p.2.2.2.2.2.2.1, (⟨p.2.2.2.2.2.2.2.1, p.2.2.2.2.2.2.2.2.1, p.2.2.2.2.2.2.2.2.2.1, p.2.2.2.2.2.2.2.2.2.2.1⟩ : TExpr), p.2.2.2.2.2.2.2.2.2.2.2.1, (⟨p.2.2.2.2.2.2.2.2.2.2.2.2.1, p.2.2.2.2.2.2.2.2.2.2.2.2.2.1, p.2.2.2.2.2.2.2.2.2.2.2.2.2.2.1, p.2.2.2.2.2.2.2.2.2.2.2.2.2.2.2.1⟩ : TExpr), (⟨p.2.2.2.2.2.2.2.2.2.2.2.2.2.2.2.2.1, p.2.2.2.2.2.2.2.2.2.2.2.2.2.2.2.2.2.1, p.2.2.2.2.2.2.2.2.2.2.2.2.2.2.2.2.2.2.1⟩ : TGoto)⟩ : TStatement)

def TPattern.ts : List Ty := [(.int .i64), (.int .i64), .str, (.sl (.st 152))]

def TPattern.to (x : TPattern) : lDen SS TPattern.ts := (x.fKind, x.fNum, x.fText, x.fKids, ())

def TPattern.of (p : lDen SS TPattern.ts) : TPattern := (⟨p.1, p.2.1, p.2.2.1, p.2.2.2.1⟩ : TPattern)

def TSpec_l00Src.ts : List Ty := [(.sl (.int .u8)), (.int .i64), (.int .u64)]

def TSpec_l00Src.to (x : TSpec_l00Src) : lDen SS TSpec_l00Src.ts := (x.fCode, x.fAt, x.fSeed, ())

def TSpec_l00Src.of (p : lDen SS TSpec_l00Src.ts) : TSpec_l00Src := (⟨p.1, p.2.1, p.2.2.1⟩ : TSpec_l00Src)

def TInstrForm.ts : List Ty := [.str, .bool, (.int .i64), (.int .i64), .bool, (.int .i64), (.int .i64)]

def TInstrForm.to (x : TInstrForm) : lDen SS TInstrForm.ts := (x.fWord, x.fHasNumber, x.fLow, x.fHigh, x.fHasText, x.fNeeds, x.fLeaves, ())

def TInstrForm.of (p : lDen SS TInstrForm.ts) : TInstrForm := (⟨p.1, p.2.1, p.2.2.1, p.2.2.2.1, p.2.2.2.2.1, p.2.2.2.2.2.1, p.2.2.2.2.2.2.1⟩ : TInstrForm)

def TToken.ts : List Ty := [(.int .i64), (.int .i64), .str, .bool, .bool]

def TToken.to (x : TToken) : lDen SS TToken.ts := (x.fKind, x.fNum, x.fText, x.fBefore, x.fAfter, ())

def TToken.of (p : lDen SS TToken.ts) : TToken := (⟨p.1, p.2.1, p.2.2.1, p.2.2.2.1, p.2.2.2.2.1⟩ : TToken)

def TPlace.ts : List Ty := [(.sl (.st 67)), (.int .i64), (.int .i64), .str, (.int .i64), (.int .i64), .str]

def TPlace.to (x : TPlace) : lDen SS TPlace.ts := (x.fPrefix, x.fPeek.fOp, x.fPeek.fA, x.fPeek.fText, x.fStore.fOp, x.fStore.fA, x.fStore.fText, ())

def TPlace.of (p : lDen SS TPlace.ts) : TPlace := (⟨p.1, (⟨p.2.1, p.2.2.1, p.2.2.2.1⟩ : TInstr), (⟨p.2.2.2.2.1, p.2.2.2.2.2.1, p.2.2.2.2.2.2.1⟩ : TInstr)⟩ : TPlace)

def TLine.ts : List Ty := [(.int .i64), .str]

def TLine.to (x : TLine) : lDen SS TLine.ts := (x.fNumber, x.fText, ())

def TLine.of (p : lDen SS TLine.ts) : TLine := (⟨p.1, p.2.1⟩ : TLine)

def TSpec_l04Reader.ts : List Ty := [(.sl (.st 223)), (.int .i64), (.int .i64)]

def TSpec_l04Reader.to (x : TSpec_l04Reader) : lDen SS TSpec_l04Reader.ts := (x.fTokens, x.fAt, x.fCode, ())

def TSpec_l04Reader.of (p : lDen SS TSpec_l04Reader.ts) : TSpec_l04Reader := (⟨p.1, p.2.1, p.2.2.1⟩ : TSpec_l04Reader)

def TUtf8_acceptRange.ts : List Ty := [(.int .u8), (.int .u8)]

def TUtf8_acceptRange.to (x : TUtf8_acceptRange) : lDen SS TUtf8_acceptRange.ts := (x.fLo, x.fHi, ())

def TUtf8_acceptRange.of (p : lDen SS TUtf8_acceptRange.ts) : TUtf8_acceptRange := (⟨p.1, p.2.1⟩ : TUtf8_acceptRange)

def TSpec_l03Parser.ts : List Ty := [(.sl (.st 223)), (.int .i64), .bool, (.int .i64)]

def TSpec_l03Parser.to (x : TSpec_l03Parser) : lDen SS TSpec_l03Parser.ts := (x.fTokens, x.fAt, x.fArgs, x.fCode, ())

def TSpec_l03Parser.of (p : lDen SS TSpec_l03Parser.ts) : TSpec_l03Parser := (⟨p.1, p.2.1, p.2.2.1, p.2.2.2.1⟩ : TSpec_l03Parser)

def TErrors_errorString.ts : List Ty := [.str]

def TErrors_errorString.to (x : TErrors_errorString) : lDen SS TErrors_errorString.ts := (x.fS, ())

def TErrors_errorString.of (p : lDen SS TErrors_errorString.ts) : TErrors_errorString := (⟨p.1⟩ : TErrors_errorString)

def scells : (n : Nat) → SS n → List (V SS)
  | 7, x => cellsL SS TRuntime_boundsError.ts (TRuntime_boundsError.to x)
  | 13, x => cellsL SS TRuntime_errorAddressString.ts (TRuntime_errorAddressString.to x)
  | 23, x => cellsL SS TProgram.ts (TProgram.to x)
  | 39, x => cellsL SS TCode.ts (TCode.to x)
  | 52, x => cellsL SS TPatternCode.ts (TPatternCode.to x)
  | 67, x => cellsL SS TInstr.ts (TInstr.to x)
  | 90, x => cellsL SS TPatternEntry.ts (TPatternEntry.to x)
  | 94, x => cellsL SS TPatternIns.ts (TPatternIns.to x)
  | 112, x => cellsL SS TExpr.ts (TExpr.to x)
  | 114, x => cellsL SS TGoto.ts (TGoto.to x)
  | 116, x => cellsL SS TStatement.ts (TStatement.to x)
  | 152, x => cellsL SS TPattern.ts (TPattern.to x)
  | 163, x => cellsL SS TSpec_l00Src.ts (TSpec_l00Src.to x)
  | 169, x => cellsL SS TInstrForm.ts (TInstrForm.to x)
  | 223, x => cellsL SS TToken.ts (TToken.to x)
  | 229, x => cellsL SS TPlace.ts (TPlace.to x)
  | 261, x => cellsL SS TLine.ts (TLine.to x)
  | 293, x => cellsL SS TSpec_l04Reader.ts (TSpec_l04Reader.to x)
  | 333, x => cellsL SS TUtf8_acceptRange.ts (TUtf8_acceptRange.to x)
  | 337, x => cellsL SS TSpec_l03Parser.ts (TSpec_l03Parser.to x)
  | 345, x => cellsL SS TErrors_errorString.ts (TErrors_errorString.to x)
  | _, _ => []

def smake : (n : Nat) → List (V SS) → Option (SS n)
  | 7, c => (prjL SS TRuntime_boundsError.ts c).map TRuntime_boundsError.of
  | 13, c => (prjL SS TRuntime_errorAddressString.ts c).map TRuntime_errorAddressString.of
  | 23, c => (prjL SS TProgram.ts c).map TProgram.of
  | 39, c => (prjL SS TCode.ts c).map TCode.of
  | 52, c => (prjL SS TPatternCode.ts c).map TPatternCode.of
  | 67, c => (prjL SS TInstr.ts c).map TInstr.of
  | 90, c => (prjL SS TPatternEntry.ts c).map TPatternEntry.of
  | 94, c => (prjL SS TPatternIns.ts c).map TPatternIns.of
  | 112, c => (prjL SS TExpr.ts c).map TExpr.of
  | 114, c => (prjL SS TGoto.ts c).map TGoto.of
  | 116, c => (prjL SS TStatement.ts c).map TStatement.of
  | 152, c => (prjL SS TPattern.ts c).map TPattern.of
  | 163, c => (prjL SS TSpec_l00Src.ts c).map TSpec_l00Src.of
  | 169, c => (prjL SS TInstrForm.ts c).map TInstrForm.of
  | 223, c => (prjL SS TToken.ts c).map TToken.of
  | 229, c => (prjL SS TPlace.ts c).map TPlace.of
  | 261, c => (prjL SS TLine.ts c).map TLine.of
  | 293, c => (prjL SS TSpec_l04Reader.ts c).map TSpec_l04Reader.of
  | 333, c => (prjL SS TUtf8_acceptRange.ts c).map TUtf8_acceptRange.of
  | 337, c => (prjL SS TSpec_l03Parser.ts c).map TSpec_l03Parser.of
  | 345, c => (prjL SS TErrors_errorString.ts c).map TErrors_errorString.of
  | _, _ => none

def scsz : Nat → Nat
  | 7 => 4
  | 13 => 2
  | 23 => 1
  | 39 => 3
  | 52 => 2
  | 67 => 3
  | 90 => 2
  | 94 => 3
  | 112 => 4
  | 114 => 3
  | 116 => 19
  | 152 => 4
  | 163 => 3
  | 169 => 7
  | 223 => 5
  | 229 => 7
  | 261 => 2
  | 293 => 3
  | 333 => 2
  | 337 => 4
  | 345 => 1
  | _ => 0

def scty : Nat → List Ty
  | 7 => TRuntime_boundsError.ts
  | 13 => TRuntime_errorAddressString.ts
  | 23 => TProgram.ts
  | 39 => TCode.ts
  | 52 => TPatternCode.ts
  | 67 => TInstr.ts
  | 90 => TPatternEntry.ts
  | 94 => TPatternIns.ts
  | 112 => TExpr.ts
  | 114 => TGoto.ts
  | 116 => TStatement.ts
  | 152 => TPattern.ts
  | 163 => TSpec_l00Src.ts
  | 169 => TInstrForm.ts
  | 223 => TToken.ts
  | 229 => TPlace.ts
  | 261 => TLine.ts
  | 293 => TSpec_l04Reader.ts
  | 333 => TUtf8_acceptRange.ts
  | 337 => TSpec_l03Parser.ts
  | 345 => TErrors_errorString.ts
  | n => [.st n]

def stys : TypeId → Option Ty
  | 2 => some (.int .i64)
  | 3 => some (.int .i64)
  | 4 => some .bool
  | 5 => some (.int .u8)
  | 6 => some (.int .u8)
  | 7 => some (.st 7)
  | 8 => some (.st 7)
  | 9 => some .str
  | 10 => some .str
  | 11 => some .str
  | 12 => some (.int .u64)
  | 13 => some (.st 13)
  | 14 => some (.st 13)
  | 21 => some (.int .i32)
  | 22 => some (.sl (.st 116))
  | 23 => some (.st 23)
  | 24 => some (.st 23)
  | 26 => some (.sl (.st 67))
  | 29 => some (.sl (.st 116))
  | 30 => some (.st 23)
  | 31 => some (.st 23)
  | 38 => some (.sl (.int .i64))
  | 39 => some (.st 39)
  | 40 => some (.st 39)
  | 50 => some (.sl (.st 94))
  | 51 => some (.sl (.st 90))
  | 52 => some (.st 52)
  | 53 => some (.st 52)
  | 56 => some (.sl (.st 94))
  | 57 => some (.sl (.st 90))
  | 58 => some (.st 52)
  | 59 => some (.st 52)
  | 63 => some (.sl (.int .u8))
  | 67 => some (.st 67)
  | 68 => some (.st 67)
  | 90 => some (.st 90)
  | 91 => some (.st 90)
  | 94 => some (.st 94)
  | 95 => some (.st 94)
  | 109 => some (.ptr (.st 163))
  | 111 => some (.sl (.st 112))
  | 112 => some (.st 112)
  | 113 => some (.st 112)
  | 114 => some (.st 114)
  | 115 => some (.st 114)
  | 116 => some (.st 116)
  | 117 => some (.st 116)
  | 125 => some (.sl (.st 112))
  | 126 => some (.st 112)
  | 127 => some (.st 112)
  | 128 => some (.st 114)
  | 129 => some (.st 116)
  | 130 => some (.st 116)
  | 132 => some (.ptr (.st 116))
  | 145 => some (.st 94)
  | 147 => some (.st 90)
  | 151 => some (.sl (.st 152))
  | 152 => some (.st 152)
  | 153 => some (.st 152)
  | 158 => some (.sl .str)
  | 162 => some (.int .u64)
  | 163 => some (.st 163)
  | 164 => some (.st 163)
  | 166 => some (.sl (.st 223))
  | 169 => some (.st 169)
  | 170 => some (.st 169)
  | 175 => some (.ptr (.st 112))
  | 189 => some (.int .u64)
  | 212 => some (.sl (.st 169))
  | 223 => some (.st 223)
  | 224 => some (.st 223)
  | 229 => some (.st 229)
  | 230 => some (.st 229)
  | 256 => some (.sl (.st 261))
  | 261 => some (.st 261)
  | 262 => some (.st 261)
  | 273 => some (.sl (.sl (.st 67)))
  | 284 => some (.int .u32)
  | 292 => some (.ptr (.st 293))
  | 293 => some (.st 293)
  | 294 => some (.st 293)
  | 316 => some (.sl (.sl .str))
  | 326 => some (.int .i64)
  | 333 => some (.st 333)
  | 334 => some (.st 333)
  | 336 => some (.ptr (.st 337))
  | 337 => some (.st 337)
  | 338 => some (.st 337)
  | 344 => some (.ptr (.st 345))
  | 345 => some (.st 345)
  | 346 => some (.st 345)
  | 354 => some (.int .u8)
  | 355 => some (.int .u8)
  | 357 => some (.int .i32)
  | 358 => some (.int .i32)
  | _ => none

def sel : Ty → TypeId
  | (.int .i64) => 2
  | (.int .u8) => 5
  | (.sl (.st 67)) => 26
  | (.sl .str) => 158
  | (.st 112) => 113
  | (.st 116) => 117
  | (.st 152) => 153
  | (.st 169) => 170
  | (.st 223) => 224
  | (.st 261) => 262
  | (.st 67) => 68
  | (.st 90) => 91
  | (.st 94) => 95
  | .str => 9
  | _ => 0

def sfl : Nat → Bool
  | 7 => true
  | 13 => true
  | 23 => false
  | 39 => false
  | 52 => false
  | 67 => true
  | 90 => true
  | 94 => true
  | 112 => false
  | 114 => true
  | 116 => false
  | 152 => false
  | 163 => false
  | 169 => true
  | 223 => true
  | 229 => false
  | 261 => true
  | 293 => false
  | 333 => true
  | 337 => false
  | 345 => true
  | _ => false

def GG : Sig where
  S := SS
  csz := scsz
  cells := scells
  make := smake
  tyOf := stys
  el := sel
  fl := sfl

theorem TRuntime_boundsError.ok : SOk GG 7 TRuntime_boundsError.ts TRuntime_boundsError.to TRuntime_boundsError.of := ⟨rfl, fun _ => rfl, fun _ => rfl, rfl, fun _ => rfl, rfl⟩

theorem TRuntime_errorAddressString.ok : SOk GG 13 TRuntime_errorAddressString.ts TRuntime_errorAddressString.to TRuntime_errorAddressString.of := ⟨rfl, fun _ => rfl, fun _ => rfl, rfl, fun _ => rfl, rfl⟩

theorem TProgram.ok : SOk GG 23 TProgram.ts TProgram.to TProgram.of := ⟨rfl, fun _ => rfl, fun _ => rfl, rfl, fun _ => rfl, rfl⟩

theorem TCode.ok : SOk GG 39 TCode.ts TCode.to TCode.of := ⟨rfl, fun _ => rfl, fun _ => rfl, rfl, fun _ => rfl, rfl⟩

theorem TPatternCode.ok : SOk GG 52 TPatternCode.ts TPatternCode.to TPatternCode.of := ⟨rfl, fun _ => rfl, fun _ => rfl, rfl, fun _ => rfl, rfl⟩

theorem TInstr.ok : SOk GG 67 TInstr.ts TInstr.to TInstr.of := ⟨rfl, fun _ => rfl, fun _ => rfl, rfl, fun _ => rfl, rfl⟩

theorem TPatternEntry.ok : SOk GG 90 TPatternEntry.ts TPatternEntry.to TPatternEntry.of := ⟨rfl, fun _ => rfl, fun _ => rfl, rfl, fun _ => rfl, rfl⟩

theorem TPatternIns.ok : SOk GG 94 TPatternIns.ts TPatternIns.to TPatternIns.of := ⟨rfl, fun _ => rfl, fun _ => rfl, rfl, fun _ => rfl, rfl⟩

theorem TExpr.ok : SOk GG 112 TExpr.ts TExpr.to TExpr.of := ⟨rfl, fun _ => rfl, fun _ => rfl, rfl, fun _ => rfl, rfl⟩

theorem TGoto.ok : SOk GG 114 TGoto.ts TGoto.to TGoto.of := ⟨rfl, fun _ => rfl, fun _ => rfl, rfl, fun _ => rfl, rfl⟩

theorem TStatement.ok : SOk GG 116 TStatement.ts TStatement.to TStatement.of := ⟨rfl, fun _ => rfl, fun _ => rfl, rfl, fun _ => rfl, rfl⟩

theorem TPattern.ok : SOk GG 152 TPattern.ts TPattern.to TPattern.of := ⟨rfl, fun _ => rfl, fun _ => rfl, rfl, fun _ => rfl, rfl⟩

theorem TSpec_l00Src.ok : SOk GG 163 TSpec_l00Src.ts TSpec_l00Src.to TSpec_l00Src.of := ⟨rfl, fun _ => rfl, fun _ => rfl, rfl, fun _ => rfl, rfl⟩

theorem TInstrForm.ok : SOk GG 169 TInstrForm.ts TInstrForm.to TInstrForm.of := ⟨rfl, fun _ => rfl, fun _ => rfl, rfl, fun _ => rfl, rfl⟩

theorem TToken.ok : SOk GG 223 TToken.ts TToken.to TToken.of := ⟨rfl, fun _ => rfl, fun _ => rfl, rfl, fun _ => rfl, rfl⟩

theorem TPlace.ok : SOk GG 229 TPlace.ts TPlace.to TPlace.of := ⟨rfl, fun _ => rfl, fun _ => rfl, rfl, fun _ => rfl, rfl⟩

theorem TLine.ok : SOk GG 261 TLine.ts TLine.to TLine.of := ⟨rfl, fun _ => rfl, fun _ => rfl, rfl, fun _ => rfl, rfl⟩

theorem TSpec_l04Reader.ok : SOk GG 293 TSpec_l04Reader.ts TSpec_l04Reader.to TSpec_l04Reader.of := ⟨rfl, fun _ => rfl, fun _ => rfl, rfl, fun _ => rfl, rfl⟩

theorem TUtf8_acceptRange.ok : SOk GG 333 TUtf8_acceptRange.ts TUtf8_acceptRange.to TUtf8_acceptRange.of := ⟨rfl, fun _ => rfl, fun _ => rfl, rfl, fun _ => rfl, rfl⟩

theorem TSpec_l03Parser.ok : SOk GG 337 TSpec_l03Parser.ts TSpec_l03Parser.to TSpec_l03Parser.of := ⟨rfl, fun _ => rfl, fun _ => rfl, rfl, fun _ => rfl, rfl⟩

theorem TErrors_errorString.ok : SOk GG 345 TErrors_errorString.ts TErrors_errorString.to TErrors_errorString.of := ⟨rfl, fun _ => rfl, fun _ => rfl, rfl, fun _ => rfl, rfl⟩

def TRuntime_boundsError.re (x : TRuntime_boundsError) : TRuntime_boundsError := TRuntime_boundsError.mk x.fX x.fY x.fSigned x.fCode

@[simp] theorem TRuntime_boundsError.re_eq (x : TRuntime_boundsError) : x.re = x := by cases x; rfl

theorem TRuntime_boundsError.eta (x : TRuntime_boundsError) : TRuntime_boundsError.mk x.fX x.fY x.fSigned x.fCode = x := by cases x; rfl

def TRuntime_errorAddressString.re (x : TRuntime_errorAddressString) : TRuntime_errorAddressString := TRuntime_errorAddressString.mk x.fMsg x.fAddr

@[simp] theorem TRuntime_errorAddressString.re_eq (x : TRuntime_errorAddressString) : x.re = x := by cases x; rfl

theorem TRuntime_errorAddressString.eta (x : TRuntime_errorAddressString) : TRuntime_errorAddressString.mk x.fMsg x.fAddr = x := by cases x; rfl

def TProgram.re (x : TProgram) : TProgram := TProgram.mk x.fStatements

@[simp] theorem TProgram.re_eq (x : TProgram) : x.re = x := by cases x; rfl

theorem TProgram.eta (x : TProgram) : TProgram.mk x.fStatements = x := by cases x; rfl

def TCode.re (x : TCode) : TCode := TCode.mk x.fInstrs x.fEntries x.fFails

@[simp] theorem TCode.re_eq (x : TCode) : x.re = x := by cases x; rfl

theorem TCode.eta (x : TCode) : TCode.mk x.fInstrs x.fEntries x.fFails = x := by cases x; rfl

def TPatternCode.re (x : TPatternCode) : TPatternCode := TPatternCode.mk x.fCode x.fEntries

@[simp] theorem TPatternCode.re_eq (x : TPatternCode) : x.re = x := by cases x; rfl

theorem TPatternCode.eta (x : TPatternCode) : TPatternCode.mk x.fCode x.fEntries = x := by cases x; rfl

def TInstr.re (x : TInstr) : TInstr := TInstr.mk x.fOp x.fA x.fText

@[simp] theorem TInstr.re_eq (x : TInstr) : x.re = x := by cases x; rfl

theorem TInstr.eta (x : TInstr) : TInstr.mk x.fOp x.fA x.fText = x := by cases x; rfl

def TPatternEntry.re (x : TPatternEntry) : TPatternEntry := TPatternEntry.mk x.fName x.fAt

@[simp] theorem TPatternEntry.re_eq (x : TPatternEntry) : x.re = x := by cases x; rfl

theorem TPatternEntry.eta (x : TPatternEntry) : TPatternEntry.mk x.fName x.fAt = x := by cases x; rfl

def TPatternIns.re (x : TPatternIns) : TPatternIns := TPatternIns.mk x.fOp x.fNum x.fText

@[simp] theorem TPatternIns.re_eq (x : TPatternIns) : x.re = x := by cases x; rfl

theorem TPatternIns.eta (x : TPatternIns) : TPatternIns.mk x.fOp x.fNum x.fText = x := by cases x; rfl

def TExpr.re (x : TExpr) : TExpr := TExpr.mk x.fKind x.fNum x.fText x.fKids

@[simp] theorem TExpr.re_eq (x : TExpr) : x.re = x := by cases x; rfl

theorem TExpr.eta (x : TExpr) : TExpr.mk x.fKind x.fNum x.fText x.fKids = x := by cases x; rfl

def TGoto.re (x : TGoto) : TGoto := TGoto.mk x.fAlways x.fSuccess x.fFailure

@[simp] theorem TGoto.re_eq (x : TGoto) : x.re = x := by cases x; rfl

theorem TGoto.eta (x : TGoto) : TGoto.mk x.fAlways x.fSuccess x.fFailure = x := by cases x; rfl

def TStatement.re (x : TStatement) : TStatement := TStatement.mk x.fLabel x.fHasSubject x.fSubject x.fHasPattern x.fPattern x.fHasReplace x.fReplace x.fGoto

@[simp] theorem TStatement.re_eq (x : TStatement) : x.re = x := by cases x; rfl

theorem TStatement.eta (x : TStatement) : TStatement.mk x.fLabel x.fHasSubject x.fSubject x.fHasPattern x.fPattern x.fHasReplace x.fReplace x.fGoto = x := by cases x; rfl

def TPattern.re (x : TPattern) : TPattern := TPattern.mk x.fKind x.fNum x.fText x.fKids

@[simp] theorem TPattern.re_eq (x : TPattern) : x.re = x := by cases x; rfl

theorem TPattern.eta (x : TPattern) : TPattern.mk x.fKind x.fNum x.fText x.fKids = x := by cases x; rfl

def TSpec_l00Src.re (x : TSpec_l00Src) : TSpec_l00Src := TSpec_l00Src.mk x.fCode x.fAt x.fSeed

@[simp] theorem TSpec_l00Src.re_eq (x : TSpec_l00Src) : x.re = x := by cases x; rfl

theorem TSpec_l00Src.eta (x : TSpec_l00Src) : TSpec_l00Src.mk x.fCode x.fAt x.fSeed = x := by cases x; rfl

def TInstrForm.re (x : TInstrForm) : TInstrForm := TInstrForm.mk x.fWord x.fHasNumber x.fLow x.fHigh x.fHasText x.fNeeds x.fLeaves

@[simp] theorem TInstrForm.re_eq (x : TInstrForm) : x.re = x := by cases x; rfl

theorem TInstrForm.eta (x : TInstrForm) : TInstrForm.mk x.fWord x.fHasNumber x.fLow x.fHigh x.fHasText x.fNeeds x.fLeaves = x := by cases x; rfl

def TToken.re (x : TToken) : TToken := TToken.mk x.fKind x.fNum x.fText x.fBefore x.fAfter

@[simp] theorem TToken.re_eq (x : TToken) : x.re = x := by cases x; rfl

theorem TToken.eta (x : TToken) : TToken.mk x.fKind x.fNum x.fText x.fBefore x.fAfter = x := by cases x; rfl

def TPlace.re (x : TPlace) : TPlace := TPlace.mk x.fPrefix x.fPeek x.fStore

@[simp] theorem TPlace.re_eq (x : TPlace) : x.re = x := by cases x; rfl

theorem TPlace.eta (x : TPlace) : TPlace.mk x.fPrefix x.fPeek x.fStore = x := by cases x; rfl

def TLine.re (x : TLine) : TLine := TLine.mk x.fNumber x.fText

@[simp] theorem TLine.re_eq (x : TLine) : x.re = x := by cases x; rfl

theorem TLine.eta (x : TLine) : TLine.mk x.fNumber x.fText = x := by cases x; rfl

def TSpec_l04Reader.re (x : TSpec_l04Reader) : TSpec_l04Reader := TSpec_l04Reader.mk x.fTokens x.fAt x.fCode

@[simp] theorem TSpec_l04Reader.re_eq (x : TSpec_l04Reader) : x.re = x := by cases x; rfl

theorem TSpec_l04Reader.eta (x : TSpec_l04Reader) : TSpec_l04Reader.mk x.fTokens x.fAt x.fCode = x := by cases x; rfl

def TUtf8_acceptRange.re (x : TUtf8_acceptRange) : TUtf8_acceptRange := TUtf8_acceptRange.mk x.fLo x.fHi

@[simp] theorem TUtf8_acceptRange.re_eq (x : TUtf8_acceptRange) : x.re = x := by cases x; rfl

theorem TUtf8_acceptRange.eta (x : TUtf8_acceptRange) : TUtf8_acceptRange.mk x.fLo x.fHi = x := by cases x; rfl

def TSpec_l03Parser.re (x : TSpec_l03Parser) : TSpec_l03Parser := TSpec_l03Parser.mk x.fTokens x.fAt x.fArgs x.fCode

@[simp] theorem TSpec_l03Parser.re_eq (x : TSpec_l03Parser) : x.re = x := by cases x; rfl

theorem TSpec_l03Parser.eta (x : TSpec_l03Parser) : TSpec_l03Parser.mk x.fTokens x.fAt x.fArgs x.fCode = x := by cases x; rfl

def TErrors_errorString.re (x : TErrors_errorString) : TErrors_errorString := TErrors_errorString.mk x.fS

@[simp] theorem TErrors_errorString.re_eq (x : TErrors_errorString) : x.re = x := by cases x; rfl

theorem TErrors_errorString.eta (x : TErrors_errorString) : TErrors_errorString.mk x.fS = x := by cases x; rfl

theorem SS_empty {n : Nat} (h7 : ¬ n = 7) (h13 : ¬ n = 13) (h23 : ¬ n = 23) (h39 : ¬ n = 39) (h52 : ¬ n = 52) (h67 : ¬ n = 67) (h90 : ¬ n = 90) (h94 : ¬ n = 94) (h112 : ¬ n = 112) (h114 : ¬ n = 114) (h116 : ¬ n = 116) (h152 : ¬ n = 152) (h163 : ¬ n = 163) (h169 : ¬ n = 169) (h223 : ¬ n = 223) (h229 : ¬ n = 229) (h261 : ¬ n = 261) (h293 : ¬ n = 293) (h333 : ¬ n = 333) (h337 : ¬ n = 337) (h345 : ¬ n = 345) : SS n = Empty := by
  unfold SS
  split <;> first | rfl | (exfalso; omega)

theorem GG.law (n : Nat) : SLaw GG n := by
  by_cases h7 : n = 7
  · subst h7; exact TRuntime_boundsError.ok.law
  by_cases h13 : n = 13
  · subst h13; exact TRuntime_errorAddressString.ok.law
  by_cases h23 : n = 23
  · subst h23; exact TProgram.ok.law
  by_cases h39 : n = 39
  · subst h39; exact TCode.ok.law
  by_cases h52 : n = 52
  · subst h52; exact TPatternCode.ok.law
  by_cases h67 : n = 67
  · subst h67; exact TInstr.ok.law
  by_cases h90 : n = 90
  · subst h90; exact TPatternEntry.ok.law
  by_cases h94 : n = 94
  · subst h94; exact TPatternIns.ok.law
  by_cases h112 : n = 112
  · subst h112; exact TExpr.ok.law
  by_cases h114 : n = 114
  · subst h114; exact TGoto.ok.law
  by_cases h116 : n = 116
  · subst h116; exact TStatement.ok.law
  by_cases h152 : n = 152
  · subst h152; exact TPattern.ok.law
  by_cases h163 : n = 163
  · subst h163; exact TSpec_l00Src.ok.law
  by_cases h169 : n = 169
  · subst h169; exact TInstrForm.ok.law
  by_cases h223 : n = 223
  · subst h223; exact TToken.ok.law
  by_cases h229 : n = 229
  · subst h229; exact TPlace.ok.law
  by_cases h261 : n = 261
  · subst h261; exact TLine.ok.law
  by_cases h293 : n = 293
  · subst h293; exact TSpec_l04Reader.ok.law
  by_cases h333 : n = 333
  · subst h333; exact TUtf8_acceptRange.ok.law
  by_cases h337 : n = 337
  · subst h337; exact TSpec_l03Parser.ok.law
  by_cases h345 : n = 345
  · subst h345; exact TErrors_errorString.ok.law
  exact .empty fun x => (cast (SS_empty h7 h13 h23 h39 h52 h67 h90 h94 h112 h114 h116 h152 h163 h169 h223 h229 h261 h293 h333 h337 h345) x).elim

theorem GG.ok : SigOk GG := sigOk_of GG.law

noncomputable def OO : Opn GG where
  P := Tryz.prog
  tab := [(2, (.int .i64)), (3, (.int .i64)), (4, .bool), (5, (.int .u8)), (6, (.int .u8)), (7, (.st 7)), (8, (.st 7)), (9, .str), (10, .str), (11, .str), (12, (.int .u64)), (13, (.st 13)), (14, (.st 13)), (21, (.int .i32)), (22, (.sl (.st 116))), (23, (.st 23)), (24, (.st 23)), (26, (.sl (.st 67))), (29, (.sl (.st 116))), (30, (.st 23)), (31, (.st 23)), (38, (.sl (.int .i64))), (39, (.st 39)), (40, (.st 39)), (50, (.sl (.st 94))), (51, (.sl (.st 90))), (52, (.st 52)), (53, (.st 52)), (56, (.sl (.st 94))), (57, (.sl (.st 90))), (58, (.st 52)), (59, (.st 52)), (63, (.sl (.int .u8))), (67, (.st 67)), (68, (.st 67)), (90, (.st 90)), (91, (.st 90)), (94, (.st 94)), (95, (.st 94)), (111, (.sl (.st 112))), (112, (.st 112)), (113, (.st 112)), (114, (.st 114)), (115, (.st 114)), (116, (.st 116)), (117, (.st 116)), (125, (.sl (.st 112))), (126, (.st 112)), (127, (.st 112)), (128, (.st 114)), (129, (.st 116)), (130, (.st 116)), (145, (.st 94)), (147, (.st 90)), (151, (.sl (.st 152))), (152, (.st 152)), (153, (.st 152)), (158, (.sl .str)), (162, (.int .u64)), (163, (.st 163)), (164, (.st 163)), (166, (.sl (.st 223))), (169, (.st 169)), (170, (.st 169)), (189, (.int .u64)), (212, (.sl (.st 169))), (223, (.st 223)), (224, (.st 223)), (229, (.st 229)), (230, (.st 229)), (256, (.sl (.st 261))), (261, (.st 261)), (262, (.st 261)), (273, (.sl (.sl (.st 67)))), (284, (.int .u32)), (293, (.st 293)), (294, (.st 293)), (316, (.sl (.sl .str))), (326, (.int .i64)), (333, (.st 333)), (334, (.st 333)), (337, (.st 337)), (338, (.st 337)), (345, (.st 345)), (346, (.st 345)), (354, (.int .u8)), (355, (.int .u8)), (357, (.int .i32)), (358, (.int .i32))]
  cty := scty

theorem OO.tot (n : Nat) (vs : List (V SS)) (h : Leaves GG (scty n) vs) : ∃ x, smake n vs = some x ∧ scells n x = vs := by
  by_cases h7 : n = 7
  · subst h7; exact TRuntime_boundsError.ok.tot h
  by_cases h13 : n = 13
  · subst h13; exact TRuntime_errorAddressString.ok.tot h
  by_cases h23 : n = 23
  · subst h23; exact TProgram.ok.tot h
  by_cases h39 : n = 39
  · subst h39; exact TCode.ok.tot h
  by_cases h52 : n = 52
  · subst h52; exact TPatternCode.ok.tot h
  by_cases h67 : n = 67
  · subst h67; exact TInstr.ok.tot h
  by_cases h90 : n = 90
  · subst h90; exact TPatternEntry.ok.tot h
  by_cases h94 : n = 94
  · subst h94; exact TPatternIns.ok.tot h
  by_cases h112 : n = 112
  · subst h112; exact TExpr.ok.tot h
  by_cases h114 : n = 114
  · subst h114; exact TGoto.ok.tot h
  by_cases h116 : n = 116
  · subst h116; exact TStatement.ok.tot h
  by_cases h152 : n = 152
  · subst h152; exact TPattern.ok.tot h
  by_cases h163 : n = 163
  · subst h163; exact TSpec_l00Src.ok.tot h
  by_cases h169 : n = 169
  · subst h169; exact TInstrForm.ok.tot h
  by_cases h223 : n = 223
  · subst h223; exact TToken.ok.tot h
  by_cases h229 : n = 229
  · subst h229; exact TPlace.ok.tot h
  by_cases h261 : n = 261
  · subst h261; exact TLine.ok.tot h
  by_cases h293 : n = 293
  · subst h293; exact TSpec_l04Reader.ok.tot h
  by_cases h333 : n = 333
  · subst h333; exact TUtf8_acceptRange.ok.tot h
  by_cases h337 : n = 337
  · subst h337; exact TSpec_l03Parser.ok.tot h
  by_cases h345 : n = 345
  · subst h345; exact TErrors_errorString.ok.tot h
  exfalso
  have e : scty n = [.st n] := by
    unfold scty
    split <;> first | rfl | (exfalso; omega)
  rw [e] at h
  obtain ⟨x⟩ := leaves_st h
  exact (cast (SS_empty h7 h13 h23 h39 h52 h67 h90 h94 h112 h114 h116 h152 h163 h169 h223 h229 h261 h293 h333 h337 h345) x : Empty).elim

theorem OO.ok : OpnOk OO := ⟨by kernel_rfl, OO.tot⟩







def cut25 : Nat → Option (List (Nat × Option Ty))
  | 4 => some [(0, none), (1, none), (5, none)]
  | _ => none

def cut26 : Nat → Option (List (Nat × Option Ty))
  | 2 => some [(0, none), (1, none), (5, none)]
  | _ => none

def cut27 : Nat → Option (List (Nat × Option Ty))
  | 2 => some [(0, none), (1, none), (5, none)]
  | _ => none



def cut37 : Nat → Option (List (Nat × Option Ty))
  | 8 => some []
  | 4 => some [(1, none), (3, none)]
  | 5 => some [(1, none), (3, none)]
  | _ => none

def cut39 : Nat → Option (List (Nat × Option Ty))
  | 5 => some [(0, none), (1, none), (5, none)]
  | _ => none

def cut42 : Nat → Option (List (Nat × Option Ty))
  | 3 => some [(0, none), (3, none), (4, none)]
  | _ => none

def cut43 : Nat → Option (List (Nat × Option Ty))
  | 8 => some [(1, none), (16, none), (17, none), (18, none)]
  | 4 => some [(1, none), (16, none), (17, none), (18, none)]
  | 7 => some []
  | _ => none

def cut47 : Nat → Option (List (Nat × Option Ty))
  | 4 => some [(0, none), (1, none), (5, none)]
  | _ => none

def cut48 : Nat → Option (List (Nat × Option Ty))
  | 2 => some [(0, none), (1, none), (5, none)]
  | _ => none

def cut49 : Nat → Option (List (Nat × Option Ty))
  | 4 => some [(0, none), (3, none)]
  | _ => none

def cut50 : Nat → Option (List (Nat × Option Ty))
  | 3 => some [(1, none), (2, none), (3, none), (4, none)]
  | _ => none

def cut51 : Nat → Option (List (Nat × Option Ty))
  | 3 => some [(1, none), (2, none), (3, none), (8, none), (9, none)]
  | _ => none

def cut52 : Nat → Option (List (Nat × Option Ty))
  | 3 => some [(1, none), (3, none), (4, none)]
  | 7 => some [(1, none), (3, none), (4, none), (5, none), (6, none)]
  | _ => none

def cut53 : Nat → Option (List (Nat × Option Ty))
  | 3 => some [(1, none), (3, none), (14, none), (15, none), (16, none)]
  | 6 => some [(1, none), (3, none), (5, none), (6, none), (14, none), (15, none), (16, none)]
  | _ => none








def cut74 : Nat → Option (List (Nat × Option Ty))
  | 2 => some [(1, none), (2, none), (5, none)]
  | _ => none

def cut75 : Nat → Option (List (Nat × Option Ty))
  | 3 => some [(1, none), (3, none), (4, none)]
  | _ => none


def cut79 : Nat → Option (List (Nat × Option Ty))
  | 21 => some [(3, none), (6, none)]
  | _ => none

def cut82 : Nat → Option (List (Nat × Option Ty))
  | 2 => some [(1, none), (7, none), (8, none), (9, none)]
  | _ => none

def cut83 : Nat → Option (List (Nat × Option Ty))
  | 2 => some []
  | 3 => some [(1, none)]
  | 4 => some []
  | 5 => some [(1, none)]
  | 6 => some []
  | 7 => some [(1, none)]
  | _ => none

def cut86 : Nat → Option (List (Nat × Option Ty))
  | 3 => some [(3, none), (8, none), (9, none), (10, none)]
  | _ => none

def cut91 : Nat → Option (List (Nat × Option Ty))
  | 2 => some [(0, none), (1, none), (5, none)]
  | _ => none

def cut92 : Nat → Option (List (Nat × Option Ty))
  | 33 => some []
  | 34 => some [(5, none)]
  | 8 => some []
  | 9 => some [(1, none), (5, none)]
  | 16 => some []
  | 17 => some [(1, none), (5, none)]
  | 25 => some []
  | 26 => some [(5, none)]
  | _ => none









def cut113 : Nat → Option (List (Nat × Option Ty))
  | 2 => some []
  | 3 => some [(1, none)]
  | 4 => some []
  | 5 => some [(1, none)]
  | _ => none

def cut114 : Nat → Option (List (Nat × Option Ty))
  | 10 => some [(3, none)]
  | 6 => some [(1, none), (3, none)]
  | _ => none

def cut122 : Nat → Option (List (Nat × Option Ty))
  | 19 => some [(0, none), (3, none)]
  | 20 => some [(0, none), (3, none), (64, none)]
  | 6 => some [(0, none), (3, none), (4, none)]
  | _ => none

def cut124 : Nat → Option (List (Nat × Option Ty))
  | 6 => some [(3, none), (4, none), (10, none)]
  | _ => none

def cut130 : Nat → Option (List (Nat × Option Ty))
  | 11 => some [(3, none)]
  | 6 => some [(1, none), (3, none)]
  | _ => none

def cut131 : Nat → Option (List (Nat × Option Ty))
  | 16 => some [(0, none), (5, none), (6, none), (8, none)]
  | 5 => some [(0, none), (5, none), (6, none)]
  | _ => none

def cut133 : Nat → Option (List (Nat × Option Ty))
  | 2 => some [(0, none), (1, none), (7, none), (8, none)]
  | _ => none

def cut136 : Nat → Option (List (Nat × Option Ty))
  | 3 => some [(3, none), (7, none), (8, none), (9, none)]
  | _ => none

def cut137 : Nat → Option (List (Nat × Option Ty))
  | 6 => some [(3, none), (4, none), (10, none)]
  | _ => none
















def cut171 : Nat → Option (List (Nat × Option Ty))
  | 2 => some []
  | 3 => some [(1, none)]
  | _ => none

def cut174 : Nat → Option (List (Nat × Option Ty))
  | 23 => some [(0, none), (3, none), (4, none)]
  | _ => none

def cut175 : Nat → Option (List (Nat × Option Ty))
  | 8 => some [(1, none), (3, none)]
  | _ => none

def cut176 : Nat → Option (List (Nat × Option Ty))
  | 2 => some [(0, none), (1, none), (5, none)]
  | 3 => some [(0, none), (1, none), (5, none)]
  | 5 => some []
  | _ => none

def cut177 : Nat → Option (List (Nat × Option Ty))
  | 4 => some [(0, none), (5, none), (6, none), (7, none)]
  | _ => none

def cut182 : Nat → Option (List (Nat × Option Ty))
  | 2 => some [(1, none), (7, none), (8, none), (9, none)]
  | _ => none

def cut184 : Nat → Option (List (Nat × Option Ty))
  | 5 => some [(0, none), (1, none), (5, none)]
  | _ => none

def cut186 : Nat → Option (List (Nat × Option Ty))
  | 3 => some [(0, none), (3, none), (4, none)]
  | _ => none

def cut187 : Nat → Option (List (Nat × Option Ty))
  | 2 => some [(1, none), (7, none), (8, none), (9, none)]
  | _ => none

def cut188 : Nat → Option (List (Nat × Option Ty))
  | 3 => some [(3, none), (13, none), (14, none), (15, none)]
  | _ => none

def cut192 : Nat → Option (List (Nat × Option Ty))
  | 11 => some [(1, none), (4, none), (36, none), (37, none), (38, none)]
  | _ => none

def cut193 : Nat → Option (List (Nat × Option Ty))
  | 8 => some [(3, none)]
  | _ => none

def cut194 : Nat → Option (List (Nat × Option Ty))
  | 2 => some [(0, none), (1, none), (2, none), (7, none)]
  | _ => none

def cut197 : Nat → Option (List (Nat × Option Ty))
  | 2 => some [(5, none), (6, none), (7, none)]
  | _ => none

def cut201 : Nat → Option (List (Nat × Option Ty))
  | 11 => some [(6, none), (25, none), (26, none), (27, none)]
  | 3 => some [(0, none), (3, none), (9, none), (10, none), (11, none)]
  | _ => none

def cut202 : Nat → Option (List (Nat × Option Ty))
  | 4 => some [(1, none), (3, none)]
  | _ => none

def cut206 : Nat → Option (List (Nat × Option Ty))
  | 4 => some [(0, none), (1, none), (5, none)]
  | _ => none

def cut208 : Nat → Option (List (Nat × Option Ty))
  | 3 => some [(0, none), (1, none)]
  | 4 => some [(0, none), (1, none)]
  | 5 => some [(1, none)]
  | _ => none









def cut236 : Nat → Option (List (Nat × Option Ty))
  | 21 => some []
  | 11 => some []
  | 12 => some [(6, none)]
  | 20 => some []
  | _ => none

def cut238 : Nat → Option (List (Nat × Option Ty))
  | 4 => some [(0, none), (3, none)]
  | _ => none

def cut240 : Nat → Option (List (Nat × Option Ty))
  | 10 => some [(0, none), (1, none), (4, none), (8, none), (9, none)]
  | 11 => some [(0, none), (1, none), (4, none), (8, none), (9, none)]
  | 13 => some [(1, none), (4, none), (8, none), (9, none)]
  | 18 => some [(0, none), (1, none), (4, none), (6, none), (10, none)]
  | 21 => some [(4, none)]
  | 22 => some [(0, none), (1, none), (4, none), (10, none)]
  | 27 => some [(1, none), (4, none), (6, none), (11, none), (12, none)]
  | _ => none

def cut244 : Nat → Option (List (Nat × Option Ty))
  | 5 => some [(1, none), (17, none), (18, none), (19, none)]
  | _ => none

def cut245 : Nat → Option (List (Nat × Option Ty))
  | 4 => some [(1, none), (2, none), (15, none), (16, none), (17, none)]
  | _ => none

def cut246 : Nat → Option (List (Nat × Option Ty))
  | 21 => some []
  | 11 => some []
  | 12 => some [(3, none)]
  | 20 => some []
  | _ => none


def cut255 : Nat → Option (List (Nat × Option Ty))
  | 11 => some [(1, none), (2, none)]
  | 12 => some [(1, none), (2, none), (4, none)]
  | _ => none










def cut286 : Nat → Option (List (Nat × Option Ty))
  | 2 => some []
  | 3 => some [(0, none), (1, none)]
  | 4 => some [(0, none), (1, none), (5, none)]
  | _ => none

def cut288 : Nat → Option (List (Nat × Option Ty))
  | 2 => some [(0, none), (1, none), (5, none)]
  | _ => none

def cut289 : Nat → Option (List (Nat × Option Ty))
  | 11 => some []
  | 12 => some []
  | _ => none


def cut291 : Nat → Option (List (Nat × Option Ty))
  | 19 => some [(1, none), (3, none)]
  | 18 => some [(3, none)]
  | 11 => some []
  | 12 => some [(1, none), (3, none)]
  | _ => none





def cut315 : Nat → Option (List (Nat × Option Ty))
  | 3 => some [(0, none), (3, none), (4, none)]
  | _ => none

def cut316 : Nat → Option (List (Nat × Option Ty))
  | 4 => some [(0, none), (3, none)]
  | _ => none







def cut330 : Nat → Option (List (Nat × Option Ty))
  | 32 => some [(0, none), (3, none), (4, none)]
  | 13 => some [(0, none), (3, none)]
  | 14 => some [(0, none), (4, none), (8, none)]
  | 26 => some [(0, none), (4, none)]
  | 27 => some [(0, none), (4, none), (8, none)]
  | 31 => some []
  | _ => none














def cutT : FuncId → Nat → Option (List (Nat × Option Ty))
  | 25 => cut25
  | 26 => cut26
  | 27 => cut27
  | 37 => cut37
  | 39 => cut39
  | 42 => cut42
  | 43 => cut43
  | 47 => cut47
  | 48 => cut48
  | 49 => cut49
  | 50 => cut50
  | 51 => cut51
  | 52 => cut52
  | 53 => cut53
  | 74 => cut74
  | 75 => cut75
  | 79 => cut79
  | 82 => cut82
  | 83 => cut83
  | 86 => cut86
  | 91 => cut91
  | 92 => cut92
  | 113 => cut113
  | 114 => cut114
  | 122 => cut122
  | 124 => cut124
  | 130 => cut130
  | 131 => cut131
  | 133 => cut133
  | 136 => cut136
  | 137 => cut137
  | 171 => cut171
  | 174 => cut174
  | 175 => cut175
  | 176 => cut176
  | 177 => cut177
  | 182 => cut182
  | 184 => cut184
  | 186 => cut186
  | 187 => cut187
  | 188 => cut188
  | 192 => cut192
  | 193 => cut193
  | 194 => cut194
  | 197 => cut197
  | 201 => cut201
  | 202 => cut202
  | 206 => cut206
  | 208 => cut208
  | 236 => cut236
  | 238 => cut238
  | 240 => cut240
  | 244 => cut244
  | 245 => cut245
  | 246 => cut246
  | 255 => cut255
  | 286 => cut286
  | 288 => cut288
  | 289 => cut289
  | 291 => cut291
  | 315 => cut315
  | 316 => cut316
  | 330 => cut330
  | _ => fun _ => none

def grwT : FuncId → Option (TypeId × Ty)
  | 254 => some (68, (.st 67))
  | _ => none

def extT : FuncId → Option (Sigma fun rt : List Ty => List (V GG.S) → Option (rDen GG.S rt))
  | 103 => some ⟨[.str], itoaV⟩
  | 163 => some ⟨[.str], joinV⟩
  | 180 => some ⟨[.bool], containsV⟩
  | 222 => some ⟨[.str], replAllV⟩
  | 250 => some ⟨[.int .i64, .bool], readIntV⟩
  | 252 => some ⟨[.int .i64], indexByteV⟩
  | _ => none

def bldF : FuncId → Option (Nat × TypeId × TypeId)
  | 64 => some (1, 100, 5)
  | 67 => some (3, 100, 5)
  | _ => none

def clnF : FuncId → Option (TypeId × Ty)
  | 203 => some (68, (.st 67))
  | 216 => some (2, (.int .i64))
  | _ => none

def ctorT : FuncId → Option (TypeId × (List (V GG.S) → Option (List (V GG.S))))
  | 71 => some (164, srcV)
  | _ => none

noncomputable def CC : Cfg GG where
  P := Tryz.prog
  refs := fun f => [70, 110, 111, 112, 164, 165, 167, 169, 224, 225, 226, 227, 230, 231, 232, 233, 269, 279, 281, 284, 306, 307, 337, 338, 345, 347, 348, 349, 352, 353, 354, 356, 357].contains f
  ext := U.extT
  cut := cutT
  glob := fun _ => none
  gint := fun g => g == 1
  gerr := fun _ => false
  pint := fun _ => none
  cln := U.clnF
  gtab := fun | 0 => some ((Lib.pow10Tab.map fun z => Value.int .u64 z).toArray) | _ => none
  own := fun _ => none
  bld := U.bldF
  ctor := U.ctorT
  eat := fun _ => none
  trE := fun e => [31, 40, 59, 113, 117, 153, 230].contains e
  ownR := fun f => [11, 12, 19, 24, 32, 41, 42, 45, 50, 51, 52, 53, 61, 62, 79, 81, 88, 122, 123, 125, 135, 136, 186, 200, 201, 202, 203].contains f
  wrf := fun f => [15, 16, 21, 26, 48, 91].contains f
  grw := U.grwT

end Go.Dv.U
