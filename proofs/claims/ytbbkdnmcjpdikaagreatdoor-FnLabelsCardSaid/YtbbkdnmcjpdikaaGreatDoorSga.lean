/- The types of this program and the places where its loops are cut. -/
import Derived.Test.YtbbkdnmcjpdikaaGreatDoorDvd
import Derived.Test.YtbbkdnmcjpdikaaGreatDoorChecked
set_option linter.all false
set_option linter.unusedVariables false
set_option linter.unusedSimpArgs false
namespace Go.Dv.U

open Go Go.Dv Go.Proofs

set_option maxRecDepth 100000

structure TRuntime_boundsError where
  fX : Int
  fY : Int
  fSigned : Bool
  fCode : Int

structure TRuntime_errorAddressString where
  fMsg : (List UInt8)
  fAddr : Int

structure TExpr where
  fKind : Int
  fNum : Int
  fText : (List UInt8)
  fKids : (List TExpr)

structure TGoto where
  fAlways : (List UInt8)
  fSuccess : (List UInt8)
  fFailure : (List UInt8)

structure TStatement where
  fLabel : (List UInt8)
  fHasSubject : Bool
  fSubject : TExpr
  fHasPattern : Bool
  fPattern : TExpr
  fHasReplace : Bool
  fReplace : TExpr
  fGoto : TGoto

structure TProgram where
  fStatements : (List TStatement)

structure TToken where
  fKind : Int
  fNum : Int
  fText : (List UInt8)
  fBefore : Bool
  fAfter : Bool

structure TParser where
  fTokens : (List TToken)
  fAt : Int

structure TLine where
  fNumber : Int
  fText : (List UInt8)

structure TSpec_l04Reader where
  fTokens : (List TToken)
  fAt : Int
  fCode : Int

structure TSpec_l00Src where
  fCode : (List Int)
  fAt : Int
  fSeed : Int

structure TSpec_l03Parser where
  fTokens : (List TToken)
  fAt : Int
  fArgs : Bool
  fCode : Int

structure TUtf8_acceptRange where
  fLo : Int
  fHi : Int

structure TErrors_errorString where
  fS : (List UInt8)

def SS : Nat → Type
  | 7 => TRuntime_boundsError
  | 13 => TRuntime_errorAddressString
  | 25 => TExpr
  | 36 => TGoto
  | 38 => TStatement
  | 49 => TProgram
  | 78 => TParser
  | 91 => TLine
  | 95 => TSpec_l04Reader
  | 99 => TToken
  | 109 => TSpec_l00Src
  | 201 => TSpec_l03Parser
  | 256 => TUtf8_acceptRange
  | 263 => TErrors_errorString
  | _ => Empty

def TRuntime_boundsError.ts : List Ty := [(.int .i64), (.int .i64), .bool, (.int .u8)]

def TRuntime_boundsError.to (x : TRuntime_boundsError) : lDen SS TRuntime_boundsError.ts := (x.fX, x.fY, x.fSigned, x.fCode, ())

def TRuntime_boundsError.of (p : lDen SS TRuntime_boundsError.ts) : TRuntime_boundsError := (⟨p.1, p.2.1, p.2.2.1, p.2.2.2.1⟩ : TRuntime_boundsError)

def TRuntime_errorAddressString.ts : List Ty := [.str, (.int .u64)]

def TRuntime_errorAddressString.to (x : TRuntime_errorAddressString) : lDen SS TRuntime_errorAddressString.ts := (x.fMsg, x.fAddr, ())

def TRuntime_errorAddressString.of (p : lDen SS TRuntime_errorAddressString.ts) : TRuntime_errorAddressString := (⟨p.1, p.2.1⟩ : TRuntime_errorAddressString)

def TExpr.ts : List Ty := [(.int .i64), (.int .i64), .str, (.sl (.st 25))]

def TExpr.to (x : TExpr) : lDen SS TExpr.ts := (x.fKind, x.fNum, x.fText, x.fKids, ())

def TExpr.of (p : lDen SS TExpr.ts) : TExpr := (⟨p.1, p.2.1, p.2.2.1, p.2.2.2.1⟩ : TExpr)

def TGoto.ts : List Ty := [.str, .str, .str]

def TGoto.to (x : TGoto) : lDen SS TGoto.ts := (x.fAlways, x.fSuccess, x.fFailure, ())

def TGoto.of (p : lDen SS TGoto.ts) : TGoto := (⟨p.1, p.2.1, p.2.2.1⟩ : TGoto)

def TStatement.ts : List Ty := [.str, .bool, (.int .i64), (.int .i64), .str, (.sl (.st 25)), .bool, (.int .i64), (.int .i64), .str, (.sl (.st 25)), .bool, (.int .i64), (.int .i64), .str, (.sl (.st 25)), .str, .str, .str]

def TStatement.to (x : TStatement) : lDen SS TStatement.ts := (x.fLabel, x.fHasSubject, x.fSubject.fKind, x.fSubject.fNum, x.fSubject.fText, x.fSubject.fKids, x.fHasPattern, x.fPattern.fKind, x.fPattern.fNum, x.fPattern.fText, x.fPattern.fKids, x.fHasReplace, x.fReplace.fKind, x.fReplace.fNum, x.fReplace.fText, x.fReplace.fKids, x.fGoto.fAlways, x.fGoto.fSuccess, x.fGoto.fFailure, ())

def TStatement.of (p : lDen SS TStatement.ts) : TStatement := (⟨p.1, p.2.1, (⟨p.2.2.1, p.2.2.2.1, p.2.2.2.2.1, p.2.2.2.2.2.1⟩ : TExpr), p.2.2.2.2.2.2.1, (⟨p.2.2.2.2.2.2.2.1, p.2.2.2.2.2.2.2.2.1, p.2.2.2.2.2.2.2.2.2.1, p.2.2.2.2.2.2.2.2.2.2.1⟩ : TExpr), p.2.2.2.2.2.2.2.2.2.2.2.1, (⟨p.2.2.2.2.2.2.2.2.2.2.2.2.1, p.2.2.2.2.2.2.2.2.2.2.2.2.2.1, p.2.2.2.2.2.2.2.2.2.2.2.2.2.2.1, p.2.2.2.2.2.2.2.2.2.2.2.2.2.2.2.1⟩ : TExpr), (⟨p.2.2.2.2.2.2.2.2.2.2.2.2.2.2.2.2.1, p.2.2.2.2.2.2.2.2.2.2.2.2.2.2.2.2.2.1, p.2.2.2.2.2.2.2.2.2.2.2.2.2.2.2.2.2.2.1⟩ : TGoto)⟩ : TStatement)

def TProgram.ts : List Ty := [(.sl (.st 38))]

def TProgram.to (x : TProgram) : lDen SS TProgram.ts := (x.fStatements, ())

def TProgram.of (p : lDen SS TProgram.ts) : TProgram := (⟨p.1⟩ : TProgram)

def TParser.ts : List Ty := [(.sl (.st 99)), (.int .i64)]

def TParser.to (x : TParser) : lDen SS TParser.ts := (x.fTokens, x.fAt, ())

def TParser.of (p : lDen SS TParser.ts) : TParser := (⟨p.1, p.2.1⟩ : TParser)

def TLine.ts : List Ty := [(.int .i64), .str]

def TLine.to (x : TLine) : lDen SS TLine.ts := (x.fNumber, x.fText, ())

def TLine.of (p : lDen SS TLine.ts) : TLine := (⟨p.1, p.2.1⟩ : TLine)

def TSpec_l04Reader.ts : List Ty := [(.sl (.st 99)), (.int .i64), (.int .i64)]

def TSpec_l04Reader.to (x : TSpec_l04Reader) : lDen SS TSpec_l04Reader.ts := (x.fTokens, x.fAt, x.fCode, ())

def TSpec_l04Reader.of (p : lDen SS TSpec_l04Reader.ts) : TSpec_l04Reader := (⟨p.1, p.2.1, p.2.2.1⟩ : TSpec_l04Reader)

def TToken.ts : List Ty := [(.int .i64), (.int .i64), .str, .bool, .bool]

def TToken.to (x : TToken) : lDen SS TToken.ts := (x.fKind, x.fNum, x.fText, x.fBefore, x.fAfter, ())

def TToken.of (p : lDen SS TToken.ts) : TToken := (⟨p.1, p.2.1, p.2.2.1, p.2.2.2.1, p.2.2.2.2.1⟩ : TToken)

def TSpec_l00Src.ts : List Ty := [(.sl (.int .u8)), (.int .i64), (.int .u64)]

def TSpec_l00Src.to (x : TSpec_l00Src) : lDen SS TSpec_l00Src.ts := (x.fCode, x.fAt, x.fSeed, ())

def TSpec_l00Src.of (p : lDen SS TSpec_l00Src.ts) : TSpec_l00Src := (⟨p.1, p.2.1, p.2.2.1⟩ : TSpec_l00Src)

def TSpec_l03Parser.ts : List Ty := [(.sl (.st 99)), (.int .i64), .bool, (.int .i64)]

def TSpec_l03Parser.to (x : TSpec_l03Parser) : lDen SS TSpec_l03Parser.ts := (x.fTokens, x.fAt, x.fArgs, x.fCode, ())

def TSpec_l03Parser.of (p : lDen SS TSpec_l03Parser.ts) : TSpec_l03Parser := (⟨p.1, p.2.1, p.2.2.1, p.2.2.2.1⟩ : TSpec_l03Parser)

def TUtf8_acceptRange.ts : List Ty := [(.int .u8), (.int .u8)]

def TUtf8_acceptRange.to (x : TUtf8_acceptRange) : lDen SS TUtf8_acceptRange.ts := (x.fLo, x.fHi, ())

def TUtf8_acceptRange.of (p : lDen SS TUtf8_acceptRange.ts) : TUtf8_acceptRange := (⟨p.1, p.2.1⟩ : TUtf8_acceptRange)

def TErrors_errorString.ts : List Ty := [.str]

def TErrors_errorString.to (x : TErrors_errorString) : lDen SS TErrors_errorString.ts := (x.fS, ())

def TErrors_errorString.of (p : lDen SS TErrors_errorString.ts) : TErrors_errorString := (⟨p.1⟩ : TErrors_errorString)

def scells : (n : Nat) → SS n → List (V SS)
  | 7, x => cellsL SS TRuntime_boundsError.ts (TRuntime_boundsError.to x)
  | 13, x => cellsL SS TRuntime_errorAddressString.ts (TRuntime_errorAddressString.to x)
  | 25, x => cellsL SS TExpr.ts (TExpr.to x)
  | 36, x => cellsL SS TGoto.ts (TGoto.to x)
  | 38, x => cellsL SS TStatement.ts (TStatement.to x)
  | 49, x => cellsL SS TProgram.ts (TProgram.to x)
  | 78, x => cellsL SS TParser.ts (TParser.to x)
  | 91, x => cellsL SS TLine.ts (TLine.to x)
  | 95, x => cellsL SS TSpec_l04Reader.ts (TSpec_l04Reader.to x)
  | 99, x => cellsL SS TToken.ts (TToken.to x)
  | 109, x => cellsL SS TSpec_l00Src.ts (TSpec_l00Src.to x)
  | 201, x => cellsL SS TSpec_l03Parser.ts (TSpec_l03Parser.to x)
  | 256, x => cellsL SS TUtf8_acceptRange.ts (TUtf8_acceptRange.to x)
  | 263, x => cellsL SS TErrors_errorString.ts (TErrors_errorString.to x)
  | _, _ => []

def smake : (n : Nat) → List (V SS) → Option (SS n)
  | 7, c => (prjL SS TRuntime_boundsError.ts c).map TRuntime_boundsError.of
  | 13, c => (prjL SS TRuntime_errorAddressString.ts c).map TRuntime_errorAddressString.of
  | 25, c => (prjL SS TExpr.ts c).map TExpr.of
  | 36, c => (prjL SS TGoto.ts c).map TGoto.of
  | 38, c => (prjL SS TStatement.ts c).map TStatement.of
  | 49, c => (prjL SS TProgram.ts c).map TProgram.of
  | 78, c => (prjL SS TParser.ts c).map TParser.of
  | 91, c => (prjL SS TLine.ts c).map TLine.of
  | 95, c => (prjL SS TSpec_l04Reader.ts c).map TSpec_l04Reader.of
  | 99, c => (prjL SS TToken.ts c).map TToken.of
  | 109, c => (prjL SS TSpec_l00Src.ts c).map TSpec_l00Src.of
  | 201, c => (prjL SS TSpec_l03Parser.ts c).map TSpec_l03Parser.of
  | 256, c => (prjL SS TUtf8_acceptRange.ts c).map TUtf8_acceptRange.of
  | 263, c => (prjL SS TErrors_errorString.ts c).map TErrors_errorString.of
  | _, _ => none

def scsz : Nat → Nat
  | 7 => 4
  | 13 => 2
  | 25 => 4
  | 36 => 3
  | 38 => 19
  | 49 => 1
  | 78 => 2
  | 91 => 2
  | 95 => 3
  | 99 => 5
  | 109 => 3
  | 201 => 4
  | 256 => 2
  | 263 => 1
  | _ => 0

def scty : Nat → List Ty
  | 7 => TRuntime_boundsError.ts
  | 13 => TRuntime_errorAddressString.ts
  | 25 => TExpr.ts
  | 36 => TGoto.ts
  | 38 => TStatement.ts
  | 49 => TProgram.ts
  | 78 => TParser.ts
  | 91 => TLine.ts
  | 95 => TSpec_l04Reader.ts
  | 99 => TToken.ts
  | 109 => TSpec_l00Src.ts
  | 201 => TSpec_l03Parser.ts
  | 256 => TUtf8_acceptRange.ts
  | 263 => TErrors_errorString.ts
  | n => [.st n]

def stys : TypeId → Option Ty
  | 2 => some (.int .i64)
  | 3 => some (.int .i64)
  | 4 => some .bool
  | 5 => some (.int .u8)
  | 6 => some (.int .u8)
  | 7 => some (.st 7)
  | 8 => some (.st 7)
  | 9 => some .str
  | 10 => some .str
  | 11 => some .str
  | 12 => some (.int .u64)
  | 13 => some (.st 13)
  | 14 => some (.st 13)
  | 21 => some (.int .i32)
  | 22 => some (.sl (.int .u8))
  | 24 => some (.sl (.st 25))
  | 25 => some (.st 25)
  | 26 => some (.st 25)
  | 32 => some (.sl (.st 99))
  | 36 => some (.st 36)
  | 37 => some (.st 36)
  | 38 => some (.st 38)
  | 39 => some (.st 38)
  | 48 => some (.sl (.st 38))
  | 49 => some (.st 49)
  | 50 => some (.st 49)
  | 60 => some (.sl .str)
  | 63 => some (.ptr (.st 109))
  | 68 => some (.ptr (.st 25))
  | 77 => some (.ptr (.st 78))
  | 78 => some (.st 78)
  | 79 => some (.st 78)
  | 81 => some (.ptr (.st 38))
  | 88 => some (.sl (.st 91))
  | 91 => some (.st 91)
  | 92 => some (.st 91)
  | 94 => some (.ptr (.st 95))
  | 95 => some (.st 95)
  | 96 => some (.st 95)
  | 99 => some (.st 99)
  | 100 => some (.st 99)
  | 108 => some (.int .u64)
  | 109 => some (.st 109)
  | 110 => some (.st 109)
  | 113 => some (.sl (.int .i64))
  | 174 => some (.int .u64)
  | 200 => some (.ptr (.st 201))
  | 201 => some (.st 201)
  | 202 => some (.st 201)
  | 205 => some (.int .i64)
  | 213 => some (.int .u32)
  | 227 => some (.int .u64)
  | 237 => some (.int .i64)
  | 256 => some (.st 256)
  | 257 => some (.st 256)
  | 262 => some (.ptr (.st 263))
  | 263 => some (.st 263)
  | 264 => some (.st 263)
  | 271 => some (.int .u8)
  | 272 => some (.int .u8)
  | 274 => some (.int .i32)
  | 275 => some (.int .i32)
  | _ => none

def sel : Ty → TypeId
  | (.int .i64) => 2
  | (.int .u8) => 5
  | (.st 25) => 26
  | (.st 38) => 39
  | (.st 91) => 92
  | (.st 99) => 100
  | .str => 9
  | _ => 0

def sfl : Nat → Bool
  | 7 => true
  | 13 => true
  | 25 => false
  | 36 => true
  | 38 => false
  | 49 => false
  | 78 => false
  | 91 => true
  | 95 => false
  | 99 => true
  | 109 => false
  | 201 => false
  | 256 => true
  | 263 => true
  | _ => false

def GG : Sig where
  S := SS
  csz := scsz
  cells := scells
  make := smake
  tyOf := stys
  el := sel
  fl := sfl

theorem TRuntime_boundsError.ok : SOk GG 7 TRuntime_boundsError.ts TRuntime_boundsError.to TRuntime_boundsError.of := ⟨rfl, fun _ => rfl, fun _ => rfl, rfl, fun _ => rfl, rfl⟩

theorem TRuntime_errorAddressString.ok : SOk GG 13 TRuntime_errorAddressString.ts TRuntime_errorAddressString.to TRuntime_errorAddressString.of := ⟨rfl, fun _ => rfl, fun _ => rfl, rfl, fun _ => rfl, rfl⟩

theorem TExpr.ok : SOk GG 25 TExpr.ts TExpr.to TExpr.of := ⟨rfl, fun _ => rfl, fun _ => rfl, rfl, fun _ => rfl, rfl⟩

theorem TGoto.ok : SOk GG 36 TGoto.ts TGoto.to TGoto.of := ⟨rfl, fun _ => rfl, fun _ => rfl, rfl, fun _ => rfl, rfl⟩

theorem TStatement.ok : SOk GG 38 TStatement.ts TStatement.to TStatement.of := ⟨rfl, fun _ => rfl, fun _ => rfl, rfl, fun _ => rfl, rfl⟩

theorem TProgram.ok : SOk GG 49 TProgram.ts TProgram.to TProgram.of := ⟨rfl, fun _ => rfl, fun _ => rfl, rfl, fun _ => rfl, rfl⟩

theorem TParser.ok : SOk GG 78 TParser.ts TParser.to TParser.of := ⟨rfl, fun _ => rfl, fun _ => rfl, rfl, fun _ => rfl, rfl⟩

theorem TLine.ok : SOk GG 91 TLine.ts TLine.to TLine.of := ⟨rfl, fun _ => rfl, fun _ => rfl, rfl, fun _ => rfl, rfl⟩

theorem TSpec_l04Reader.ok : SOk GG 95 TSpec_l04Reader.ts TSpec_l04Reader.to TSpec_l04Reader.of := ⟨rfl, fun _ => rfl, fun _ => rfl, rfl, fun _ => rfl, rfl⟩

theorem TToken.ok : SOk GG 99 TToken.ts TToken.to TToken.of := ⟨rfl, fun _ => rfl, fun _ => rfl, rfl, fun _ => rfl, rfl⟩

theorem TSpec_l00Src.ok : SOk GG 109 TSpec_l00Src.ts TSpec_l00Src.to TSpec_l00Src.of := ⟨rfl, fun _ => rfl, fun _ => rfl, rfl, fun _ => rfl, rfl⟩

theorem TSpec_l03Parser.ok : SOk GG 201 TSpec_l03Parser.ts TSpec_l03Parser.to TSpec_l03Parser.of := ⟨rfl, fun _ => rfl, fun _ => rfl, rfl, fun _ => rfl, rfl⟩

theorem TUtf8_acceptRange.ok : SOk GG 256 TUtf8_acceptRange.ts TUtf8_acceptRange.to TUtf8_acceptRange.of := ⟨rfl, fun _ => rfl, fun _ => rfl, rfl, fun _ => rfl, rfl⟩

theorem TErrors_errorString.ok : SOk GG 263 TErrors_errorString.ts TErrors_errorString.to TErrors_errorString.of := ⟨rfl, fun _ => rfl, fun _ => rfl, rfl, fun _ => rfl, rfl⟩

def TRuntime_boundsError.re (x : TRuntime_boundsError) : TRuntime_boundsError := TRuntime_boundsError.mk x.fX x.fY x.fSigned x.fCode

@[simp] theorem TRuntime_boundsError.re_eq (x : TRuntime_boundsError) : x.re = x := by cases x; rfl

theorem TRuntime_boundsError.eta (x : TRuntime_boundsError) : TRuntime_boundsError.mk x.fX x.fY x.fSigned x.fCode = x := by cases x; rfl

def TRuntime_errorAddressString.re (x : TRuntime_errorAddressString) : TRuntime_errorAddressString := TRuntime_errorAddressString.mk x.fMsg x.fAddr

@[simp] theorem TRuntime_errorAddressString.re_eq (x : TRuntime_errorAddressString) : x.re = x := by cases x; rfl

theorem TRuntime_errorAddressString.eta (x : TRuntime_errorAddressString) : TRuntime_errorAddressString.mk x.fMsg x.fAddr = x := by cases x; rfl

def TExpr.re (x : TExpr) : TExpr := TExpr.mk x.fKind x.fNum x.fText x.fKids

@[simp] theorem TExpr.re_eq (x : TExpr) : x.re = x := by cases x; rfl

theorem TExpr.eta (x : TExpr) : TExpr.mk x.fKind x.fNum x.fText x.fKids = x := by cases x; rfl

def TGoto.re (x : TGoto) : TGoto := TGoto.mk x.fAlways x.fSuccess x.fFailure

@[simp] theorem TGoto.re_eq (x : TGoto) : x.re = x := by cases x; rfl

theorem TGoto.eta (x : TGoto) : TGoto.mk x.fAlways x.fSuccess x.fFailure = x := by cases x; rfl

def TStatement.re (x : TStatement) : TStatement := TStatement.mk x.fLabel x.fHasSubject x.fSubject x.fHasPattern x.fPattern x.fHasReplace x.fReplace x.fGoto

@[simp] theorem TStatement.re_eq (x : TStatement) : x.re = x := by cases x; rfl

theorem TStatement.eta (x : TStatement) : TStatement.mk x.fLabel x.fHasSubject x.fSubject x.fHasPattern x.fPattern x.fHasReplace x.fReplace x.fGoto = x := by cases x; rfl

def TProgram.re (x : TProgram) : TProgram := TProgram.mk x.fStatements

@[simp] theorem TProgram.re_eq (x : TProgram) : x.re = x := by cases x; rfl

theorem TProgram.eta (x : TProgram) : TProgram.mk x.fStatements = x := by cases x; rfl

def TParser.re (x : TParser) : TParser := TParser.mk x.fTokens x.fAt

@[simp] theorem TParser.re_eq (x : TParser) : x.re = x := by cases x; rfl

theorem TParser.eta (x : TParser) : TParser.mk x.fTokens x.fAt = x := by cases x; rfl

def TLine.re (x : TLine) : TLine := TLine.mk x.fNumber x.fText

@[simp] theorem TLine.re_eq (x : TLine) : x.re = x := by cases x; rfl

theorem TLine.eta (x : TLine) : TLine.mk x.fNumber x.fText = x := by cases x; rfl

def TSpec_l04Reader.re (x : TSpec_l04Reader) : TSpec_l04Reader := TSpec_l04Reader.mk x.fTokens x.fAt x.fCode

@[simp] theorem TSpec_l04Reader.re_eq (x : TSpec_l04Reader) : x.re = x := by cases x; rfl

theorem TSpec_l04Reader.eta (x : TSpec_l04Reader) : TSpec_l04Reader.mk x.fTokens x.fAt x.fCode = x := by cases x; rfl

def TToken.re (x : TToken) : TToken := TToken.mk x.fKind x.fNum x.fText x.fBefore x.fAfter

@[simp] theorem TToken.re_eq (x : TToken) : x.re = x := by cases x; rfl

theorem TToken.eta (x : TToken) : TToken.mk x.fKind x.fNum x.fText x.fBefore x.fAfter = x := by cases x; rfl

def TSpec_l00Src.re (x : TSpec_l00Src) : TSpec_l00Src := TSpec_l00Src.mk x.fCode x.fAt x.fSeed

@[simp] theorem TSpec_l00Src.re_eq (x : TSpec_l00Src) : x.re = x := by cases x; rfl

theorem TSpec_l00Src.eta (x : TSpec_l00Src) : TSpec_l00Src.mk x.fCode x.fAt x.fSeed = x := by cases x; rfl

def TSpec_l03Parser.re (x : TSpec_l03Parser) : TSpec_l03Parser := TSpec_l03Parser.mk x.fTokens x.fAt x.fArgs x.fCode

@[simp] theorem TSpec_l03Parser.re_eq (x : TSpec_l03Parser) : x.re = x := by cases x; rfl

theorem TSpec_l03Parser.eta (x : TSpec_l03Parser) : TSpec_l03Parser.mk x.fTokens x.fAt x.fArgs x.fCode = x := by cases x; rfl

def TUtf8_acceptRange.re (x : TUtf8_acceptRange) : TUtf8_acceptRange := TUtf8_acceptRange.mk x.fLo x.fHi

@[simp] theorem TUtf8_acceptRange.re_eq (x : TUtf8_acceptRange) : x.re = x := by cases x; rfl

theorem TUtf8_acceptRange.eta (x : TUtf8_acceptRange) : TUtf8_acceptRange.mk x.fLo x.fHi = x := by cases x; rfl

def TErrors_errorString.re (x : TErrors_errorString) : TErrors_errorString := TErrors_errorString.mk x.fS

@[simp] theorem TErrors_errorString.re_eq (x : TErrors_errorString) : x.re = x := by cases x; rfl

theorem TErrors_errorString.eta (x : TErrors_errorString) : TErrors_errorString.mk x.fS = x := by cases x; rfl

theorem SS_empty {n : Nat} (h7 : ¬ n = 7) (h13 : ¬ n = 13) (h25 : ¬ n = 25) (h36 : ¬ n = 36) (h38 : ¬ n = 38) (h49 : ¬ n = 49) (h78 : ¬ n = 78) (h91 : ¬ n = 91) (h95 : ¬ n = 95) (h99 : ¬ n = 99) (h109 : ¬ n = 109) (h201 : ¬ n = 201) (h256 : ¬ n = 256) (h263 : ¬ n = 263) : SS n = Empty := by
  unfold SS
  split <;> first | rfl | (exfalso; omega)

theorem GG.law (n : Nat) : SLaw GG n := by
  by_cases h7 : n = 7
  · subst h7; exact TRuntime_boundsError.ok.law
  by_cases h13 : n = 13
  · subst h13; exact TRuntime_errorAddressString.ok.law
  by_cases h25 : n = 25
  · subst h25; exact TExpr.ok.law
  by_cases h36 : n = 36
  · subst h36; exact TGoto.ok.law
  by_cases h38 : n = 38
  · subst h38; exact TStatement.ok.law
  by_cases h49 : n = 49
  · subst h49; exact TProgram.ok.law
  by_cases h78 : n = 78
  · subst h78; exact TParser.ok.law
  by_cases h91 : n = 91
  · subst h91; exact TLine.ok.law
  by_cases h95 : n = 95
  · subst h95; exact TSpec_l04Reader.ok.law
  by_cases h99 : n = 99
  · subst h99; exact TToken.ok.law
  by_cases h109 : n = 109
  · subst h109; exact TSpec_l00Src.ok.law
  by_cases h201 : n = 201
  · subst h201; exact TSpec_l03Parser.ok.law
  by_cases h256 : n = 256
  · subst h256; exact TUtf8_acceptRange.ok.law
  by_cases h263 : n = 263
  · subst h263; exact TErrors_errorString.ok.law
  exact .empty fun x => (cast (SS_empty h7 h13 h25 h36 h38 h49 h78 h91 h95 h99 h109 h201 h256 h263) x).elim

theorem GG.ok : SigOk GG := sigOk_of GG.law

noncomputable def OO : Opn GG where
  P := Tryz.prog
  tab := [(2, (.int .i64)), (3, (.int .i64)), (4, .bool), (5, (.int .u8)), (6, (.int .u8)), (7, (.st 7)), (8, (.st 7)), (9, .str), (10, .str), (11, .str), (12, (.int .u64)), (13, (.st 13)), (14, (.st 13)), (21, (.int .i32)), (22, (.sl (.int .u8))), (24, (.sl (.st 25))), (25, (.st 25)), (26, (.st 25)), (32, (.sl (.st 99))), (36, (.st 36)), (37, (.st 36)), (38, (.st 38)), (39, (.st 38)), (48, (.sl (.st 38))), (49, (.st 49)), (50, (.st 49)), (60, (.sl .str)), (78, (.st 78)), (79, (.st 78)), (88, (.sl (.st 91))), (91, (.st 91)), (92, (.st 91)), (95, (.st 95)), (96, (.st 95)), (99, (.st 99)), (100, (.st 99)), (108, (.int .u64)), (109, (.st 109)), (110, (.st 109)), (113, (.sl (.int .i64))), (174, (.int .u64)), (201, (.st 201)), (202, (.st 201)), (205, (.int .i64)), (213, (.int .u32)), (227, (.int .u64)), (237, (.int .i64)), (256, (.st 256)), (257, (.st 256)), (263, (.st 263)), (264, (.st 263)), (271, (.int .u8)), (272, (.int .u8)), (274, (.int .i32)), (275, (.int .i32))]
  cty := scty

theorem OO.tot (n : Nat) (vs : List (V SS)) (h : Leaves GG (scty n) vs) : ∃ x, smake n vs = some x ∧ scells n x = vs := by
  by_cases h7 : n = 7
  · subst h7; exact TRuntime_boundsError.ok.tot h
  by_cases h13 : n = 13
  · subst h13; exact TRuntime_errorAddressString.ok.tot h
  by_cases h25 : n = 25
  · subst h25; exact TExpr.ok.tot h
  by_cases h36 : n = 36
  · subst h36; exact TGoto.ok.tot h
  by_cases h38 : n = 38
  · subst h38; exact TStatement.ok.tot h
  by_cases h49 : n = 49
  · subst h49; exact TProgram.ok.tot h
  by_cases h78 : n = 78
  · subst h78; exact TParser.ok.tot h
  by_cases h91 : n = 91
  · subst h91; exact TLine.ok.tot h
  by_cases h95 : n = 95
  · subst h95; exact TSpec_l04Reader.ok.tot h
  by_cases h99 : n = 99
  · subst h99; exact TToken.ok.tot h
  by_cases h109 : n = 109
  · subst h109; exact TSpec_l00Src.ok.tot h
  by_cases h201 : n = 201
  · subst h201; exact TSpec_l03Parser.ok.tot h
  by_cases h256 : n = 256
  · subst h256; exact TUtf8_acceptRange.ok.tot h
  by_cases h263 : n = 263
  · subst h263; exact TErrors_errorString.ok.tot h
  exfalso
  have e : scty n = [.st n] := by
    unfold scty
    split <;> first | rfl | (exfalso; omega)
  rw [e] at h
  obtain ⟨x⟩ := leaves_st h
  exact (cast (SS_empty h7 h13 h25 h36 h38 h49 h78 h91 h95 h99 h109 h201 h256 h263) x : Empty).elim

theorem OO.ok : OpnOk OO := ⟨by kernel_rfl, OO.tot⟩





def cut8 : Nat → Option (List (Nat × Option Ty))
  | 9 => some [(3, none), (4, none), (5, none), (6, none)]
  | 13 => some []
  | 14 => some [(3, none), (4, none), (5, none), (6, none)]
  | 17 => some [(3, none), (4, none), (5, none), (7, none), (8, none)]
  | 18 => some [(3, none), (4, none), (5, none), (7, none), (8, none)]
  | 20 => some []
  | _ => none




def cut24 : Nat → Option (List (Nat × Option Ty))
  | 8 => some []
  | 4 => some [(1, none), (3, none)]
  | 5 => some [(1, none), (3, none)]
  | _ => none






def cut37 : Nat → Option (List (Nat × Option Ty))
  | 5 => some [(3, none), (11, none), (12, none), (13, none)]
  | _ => none

def cut39 : Nat → Option (List (Nat × Option Ty))
  | 8 => some [(1, none), (3, none), (13, none), (14, none), (15, none), (21, none), (22, none), (23, none)]
  | 11 => some [(1, none), (3, none), (7, none), (13, none), (14, none), (15, none), (21, none), (22, none), (23, none)]
  | 12 => some [(1, none), (3, none), (13, none), (14, none), (15, none), (21, none), (22, none), (23, none)]
  | 5 => some [(1, none), (3, none), (13, none), (14, none), (15, none)]
  | _ => none


def cut43 : Nat → Option (List (Nat × Option Ty))
  | 11 => some [(1, none), (4, none), (36, none), (37, none), (38, none)]
  | _ => none

def cut45 : Nat → Option (List (Nat × Option Ty))
  | 16 => some [(0, none), (5, none), (6, none), (8, none)]
  | 5 => some [(0, none), (5, none), (6, none)]
  | _ => none

def cut47 : Nat → Option (List (Nat × Option Ty))
  | 2 => some [(0, none), (1, none), (5, none)]
  | 3 => some [(0, none), (1, none), (5, none)]
  | 5 => some []
  | _ => none

def cut48 : Nat → Option (List (Nat × Option Ty))
  | 4 => some [(0, none), (5, none), (6, none), (7, none)]
  | _ => none

def cut49 : Nat → Option (List (Nat × Option Ty))
  | 2 => some []
  | 3 => some [(0, none), (1, none)]
  | 4 => some [(0, none), (1, none), (5, none)]
  | _ => none

def cut50 : Nat → Option (List (Nat × Option Ty))
  | 24 => some [(2, none), (3, none)]
  | 10 => some [(0, none), (2, none), (3, none)]
  | 13 => some [(0, none), (2, none), (3, none)]
  | _ => none

def cut51 : Nat → Option (List (Nat × Option Ty))
  | 2 => some []
  | 3 => some [(1, none)]
  | 4 => some []
  | 5 => some [(1, none)]
  | 6 => some []
  | 7 => some [(1, none)]
  | _ => none

def cut52 : Nat → Option (List (Nat × Option Ty))
  | 11 => some [(3, none)]
  | 6 => some [(1, none), (3, none)]
  | _ => none

def cut53 : Nat → Option (List (Nat × Option Ty))
  | 2 => some []
  | 3 => some [(1, none)]
  | 4 => some []
  | 5 => some [(1, none)]
  | _ => none

def cut54 : Nat → Option (List (Nat × Option Ty))
  | 10 => some [(3, none)]
  | 6 => some [(1, none), (3, none)]
  | _ => none


def cut60 : Nat → Option (List (Nat × Option Ty))
  | 2 => some [(5, none), (6, none), (7, none)]
  | _ => none

def cut65 : Nat → Option (List (Nat × Option Ty))
  | 3 => some [(0, none), (2, none), (3, none), (4, none)]
  | 4 => some [(0, none), (2, none), (3, none), (4, none)]
  | 7 => some [(0, none), (2, none), (3, none), (4, none), (5, none)]
  | 8 => some [(0, none), (2, none), (3, none), (4, none), (5, none)]
  | 11 => some [(0, none), (2, none), (3, none)]
  | _ => none

def cut66 : Nat → Option (List (Nat × Option Ty))
  | 8 => some [(1, none), (16, none), (17, none), (18, none)]
  | 4 => some [(1, none), (16, none), (17, none), (18, none)]
  | 7 => some []
  | _ => none

def cut67 : Nat → Option (List (Nat × Option Ty))
  | 3 => some [(3, none), (8, none), (9, none), (10, none)]
  | _ => none

def cut69 : Nat → Option (List (Nat × Option Ty))
  | 2 => some [(1, none), (2, none), (5, none)]
  | _ => none

def cut70 : Nat → Option (List (Nat × Option Ty))
  | 3 => some [(1, none), (3, none), (4, none)]
  | _ => none







def cut88 : Nat → Option (List (Nat × Option Ty))
  | 3 => some [(3, none), (13, none), (14, none), (15, none)]
  | _ => none

def cut90 : Nat → Option (List (Nat × Option Ty))
  | 5 => some [(0, none), (4, none)]
  | 6 => some [(0, none), (4, none), (17, none)]
  | 22 => some [(0, none), (1, none), (4, none), (7, none), (8, none)]
  | _ => none

def cut93 : Nat → Option (List (Nat × Option Ty))
  | 5 => some [(1, none), (17, none), (18, none), (19, none)]
  | _ => none

def cut94 : Nat → Option (List (Nat × Option Ty))
  | 21 => some []
  | 11 => some []
  | 12 => some [(3, none)]
  | 20 => some []
  | _ => none


def cut101 : Nat → Option (List (Nat × Option Ty))
  | 3 => some [(0, none), (3, none), (4, none)]
  | _ => none

def cut102 : Nat → Option (List (Nat × Option Ty))
  | 4 => some [(0, none), (3, none)]
  | _ => none

def cut103 : Nat → Option (List (Nat × Option Ty))
  | 2 => some [(0, none), (1, none), (2, none), (7, none)]
  | _ => none


def cut107 : Nat → Option (List (Nat × Option Ty))
  | 10 => some [(0, none), (1, none), (4, none), (8, none), (9, none)]
  | 11 => some [(0, none), (1, none), (4, none), (8, none), (9, none)]
  | 13 => some [(1, none), (4, none), (8, none), (9, none)]
  | 18 => some [(0, none), (1, none), (4, none), (6, none), (10, none)]
  | 21 => some [(4, none)]
  | 22 => some [(0, none), (1, none), (4, none), (10, none)]
  | 27 => some [(1, none), (4, none), (6, none), (11, none), (12, none)]
  | _ => none

def cut113 : Nat → Option (List (Nat × Option Ty))
  | 8 => some [(3, none)]
  | _ => none

def cut115 : Nat → Option (List (Nat × Option Ty))
  | 2 => some []
  | 3 => some [(1, none)]
  | _ => none

def cut118 : Nat → Option (List (Nat × Option Ty))
  | 23 => some [(0, none), (3, none), (4, none)]
  | _ => none

def cut119 : Nat → Option (List (Nat × Option Ty))
  | 8 => some [(1, none), (3, none)]
  | _ => none

def cut120 : Nat → Option (List (Nat × Option Ty))
  | 2 => some [(1, none), (7, none), (8, none), (9, none)]
  | _ => none



def cut130 : Nat → Option (List (Nat × Option Ty))
  | 2 => some [(1, none), (7, none), (8, none), (9, none)]
  | _ => none



def cut137 : Nat → Option (List (Nat × Option Ty))
  | 2 => some [(0, none), (1, none), (7, none), (8, none)]
  | _ => none

def cut139 : Nat → Option (List (Nat × Option Ty))
  | 3 => some [(0, none), (1, none)]
  | 4 => some [(0, none), (1, none)]
  | 5 => some [(1, none)]
  | _ => none








def cut157 : Nat → Option (List (Nat × Option Ty))
  | 19 => some [(1, none), (3, none)]
  | 18 => some [(3, none)]
  | 11 => some []
  | 12 => some [(1, none), (3, none)]
  | _ => none

def cut163 : Nat → Option (List (Nat × Option Ty))
  | 32 => some [(0, none), (3, none), (4, none)]
  | 13 => some [(0, none), (3, none)]
  | 14 => some [(0, none), (4, none), (8, none)]
  | 26 => some [(0, none), (4, none)]
  | 27 => some [(0, none), (4, none), (8, none)]
  | 31 => some []
  | _ => none



def cut175 : Nat → Option (List (Nat × Option Ty))
  | 11 => some []
  | 12 => some []
  | _ => none

def cut176 : Nat → Option (List (Nat × Option Ty))
  | 2 => some [(1, none), (7, none), (8, none), (9, none)]
  | _ => none

def cut179 : Nat → Option (List (Nat × Option Ty))
  | 21 => some []
  | 11 => some []
  | 12 => some [(6, none)]
  | 20 => some []
  | _ => none

def cut181 : Nat → Option (List (Nat × Option Ty))
  | 4 => some [(0, none), (3, none)]
  | _ => none










def cut213 : Nat → Option (List (Nat × Option Ty))
  | 4 => some [(1, none), (2, none), (15, none), (16, none), (17, none)]
  | _ => none

def cut214 : Nat → Option (List (Nat × Option Ty))
  | 2 => some [(0, none), (1, none), (5, none)]
  | _ => none
















































def cutT : FuncId → Nat → Option (List (Nat × Option Ty))
  | 8 => cut8
  | 24 => cut24
  | 37 => cut37
  | 39 => cut39
  | 43 => cut43
  | 45 => cut45
  | 47 => cut47
  | 48 => cut48
  | 49 => cut49
  | 50 => cut50
  | 51 => cut51
  | 52 => cut52
  | 53 => cut53
  | 54 => cut54
  | 60 => cut60
  | 65 => cut65
  | 66 => cut66
  | 67 => cut67
  | 69 => cut69
  | 70 => cut70
  | 88 => cut88
  | 90 => cut90
  | 93 => cut93
  | 94 => cut94
  | 101 => cut101
  | 102 => cut102
  | 103 => cut103
  | 107 => cut107
  | 113 => cut113
  | 115 => cut115
  | 118 => cut118
  | 119 => cut119
  | 120 => cut120
  | 130 => cut130
  | 137 => cut137
  | 139 => cut139
  | 157 => cut157
  | 163 => cut163
  | 175 => cut175
  | 176 => cut176
  | 179 => cut179
  | 181 => cut181
  | 213 => cut213
  | 214 => cut214
  | _ => fun _ => none

def extT : FuncId → Option (Sigma fun rt : List Ty => List (V GG.S) → Option (rDen GG.S rt))
  | 57 => some ⟨[.str, .str, .bool], scutV⟩
  | 97 => some ⟨[.str], joinV⟩
  | 159 => some ⟨[.bool], containsV⟩
  | 160 => some ⟨[.str], itoaV⟩
  | 167 => some ⟨[.int .i64, .bool], readIntV⟩
  | 169 => some ⟨[.int .i64], indexByteV⟩
  | 190 => some ⟨[.str], replAllV⟩
  | 194 => some ⟨[.str], trimV⟩
  | 221 => some ⟨[.sl .str], splitV⟩
  | _ => none

def eatT : FuncId → Option (TypeId × (List (List UInt8) → Option (List (List UInt8))))
  | 89 => some (9, sortS)
  | _ => none

def bldF : FuncId → Option (Nat × TypeId × TypeId)
  | 131 => some (1, 143, 5)
  | 132 => some (3, 143, 5)
  | _ => none

def ctorT : FuncId → Option (TypeId × (List (V GG.S) → Option (List (V GG.S))))
  | 40 => some (110, srcV)
  | _ => none

noncomputable def CC : Cfg GG where
  P := Tryz.prog
  refs := fun f => [41, 50, 59, 62, 63, 64, 65, 77, 79, 90, 91, 108, 109, 126, 127, 128, 129, 143, 144, 172, 185, 187, 188, 211, 212, 230, 231, 252, 253, 263, 265, 266, 267, 271, 272, 273, 284, 292, 293, 294, 296, 305, 307].contains f
  ext := U.extT
  cut := cutT
  glob := fun _ => none
  gint := fun g => g == 0
  gerr := fun _ => false
  pint := fun _ => none
  cln := fun _ => none
  gtab := fun | 1 => some ((Lib.pow10Tab.map fun z => Value.int .u64 z).toArray) | _ => none
  own := fun _ => none
  bld := U.bldF
  ctor := U.ctorT
  eat := U.eatT
  trE := fun e => [].contains e
  ownR := fun f => [].contains f
  eatR := fun f => [].contains f
  wrf := fun f => [30, 34, 82, 86, 146].contains f
  grw := fun _ => none

end Go.Dv.U
