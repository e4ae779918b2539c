/- The types of this program and the places where its loops are cut. -/
import Derived.Test.YthifliapgmalpaaDoorDvc
import Derived.Test.YthifliapgmalpaaDoorChecked
set_option linter.all false
set_option linter.unusedVariables false
set_option linter.unusedSimpArgs false
namespace Go.Dv.U

open Go Go.Dv Go.Proofs

set_option maxRecDepth 100000

structure TRuntime_boundsError where
  fX : Int
  fY : Int
  fSigned : Bool
  fCode : Int

structure TRuntime_errorAddressString where
  fMsg : (List UInt8)
  fAddr : Int

structure TSpec_l28Item where
  fName : (List UInt8)
  fLines : (List (List UInt8))
  fInput : (List (List UInt8))
  fOutput : (List (List UInt8))

structure TSample where
  fName : (List UInt8)
  fSource : (List (List UInt8))
  fInput : (List (List UInt8))
  fOutput : (List (List UInt8))

structure TUtf8_acceptRange where
  fLo : Int
  fHi : Int

structure TValue where
  fKind : Int
  fNum : Int
  fText : (List UInt8)
  fRef : Int

structure TObject where
  fId : Int
  fKind : Int
  fName : (List UInt8)
  fLow : Int
  fKeys : (List TValue)
  fVals : (List TValue)
  fDefault : TValue

structure THeap where
  fNext : Int
  fObjects : (List TObject)

structure TBinding where
  fName : (List UInt8)
  fValue : TValue

structure TFunction where
  fName : (List UInt8)
  fParams : (List (List UInt8))
  fLocals : (List (List UInt8))
  fLabel : (List UInt8)

structure TRecordType where
  fName : (List UInt8)
  fFields : (List (List UInt8))

structure TScope where
  fVars : (List TBinding)
  fFunctions : (List TFunction)
  fTypes : (List TRecordType)

structure TFile where
  fName : (List UInt8)
  fLines : (List (List UInt8))
  fMode : Int
  fAt : Int

structure TConsole where
  fInput : (List (List UInt8))
  fAt : Int
  fOutput : (List (List UInt8))
  fFiles : (List TFile)
  fTrace : (List (List UInt8))

structure TMemory where
  fHeap : THeap
  fScope : TScope
  fConsole : TConsole

structure TOutcome where
  fMemory : TMemory
  fAt : Int
  fSteps : Int
  fCode : Int

def SS : Nat → Type
  | 7 => TRuntime_boundsError
  | 13 => TRuntime_errorAddressString
  | 36 => TSpec_l28Item
  | 39 => TSample
  | 75 => TUtf8_acceptRange
  | 96 => THeap
  | 101 => TScope
  | 104 => TConsole
  | 106 => TMemory
  | 108 => TOutcome
  | 111 => TValue
  | 113 => TObject
  | 116 => TBinding
  | 118 => TFunction
  | 120 => TRecordType
  | 122 => TFile
  | _ => Empty

def TRuntime_boundsError.ts : List Ty := [(.int .i64), (.int .i64), .bool, (.int .u8)]

def TRuntime_boundsError.to (x : TRuntime_boundsError) : lDen SS TRuntime_boundsError.ts := (x.fX, x.fY, x.fSigned, x.fCode, ())

def TRuntime_boundsError.of (p : lDen SS TRuntime_boundsError.ts) : TRuntime_boundsError := (⟨p.1, p.2.1, p.2.2.1, p.2.2.2.1⟩ : TRuntime_boundsError)

def TRuntime_errorAddressString.ts : List Ty := [.str, (.int .u64)]

def TRuntime_errorAddressString.to (x : TRuntime_errorAddressString) : lDen SS TRuntime_errorAddressString.ts := (x.fMsg, x.fAddr, ())

def TRuntime_errorAddressString.of (p : lDen SS TRuntime_errorAddressString.ts) : TRuntime_errorAddressString := (⟨p.1, p.2.1⟩ : TRuntime_errorAddressString)

def TSpec_l28Item.ts : List Ty := [.str, (.sl .str), (.sl .str), (.sl .str)]

def TSpec_l28Item.to (x : TSpec_l28Item) : lDen SS TSpec_l28Item.ts := (x.fName, x.fLines, x.fInput, x.fOutput, ())

def TSpec_l28Item.of (p : lDen SS TSpec_l28Item.ts) : TSpec_l28Item := (⟨p.1, p.2.1, p.2.2.1, p.2.2.2.1⟩ : TSpec_l28Item)

def TSample.ts : List Ty := [.str, (.sl .str), (.sl .str), (.sl .str)]

def TSample.to (x : TSample) : lDen SS TSample.ts := (x.fName, x.fSource, x.fInput, x.fOutput, ())

def TSample.of (p : lDen SS TSample.ts) : TSample := (⟨p.1, p.2.1, p.2.2.1, p.2.2.2.1⟩ : TSample)

def TUtf8_acceptRange.ts : List Ty := [(.int .u8), (.int .u8)]

def TUtf8_acceptRange.to (x : TUtf8_acceptRange) : lDen SS TUtf8_acceptRange.ts := (x.fLo, x.fHi, ())

def TUtf8_acceptRange.of (p : lDen SS TUtf8_acceptRange.ts) : TUtf8_acceptRange := (⟨p.1, p.2.1⟩ : TUtf8_acceptRange)

def THeap.ts : List Ty := [(.int .i64), (.sl (.st 113))]

def THeap.to (x : THeap) : lDen SS THeap.ts := (x.fNext, x.fObjects, ())

def THeap.of (p : lDen SS THeap.ts) : THeap := (⟨p.1, p.2.1⟩ : THeap)

def TScope.ts : List Ty := [(.sl (.st 116)), (.sl (.st 118)), (.sl (.st 120))]

def TScope.to (x : TScope) : lDen SS TScope.ts := (x.fVars, x.fFunctions, x.fTypes, ())

def TScope.of (p : lDen SS TScope.ts) : TScope := (⟨p.1, p.2.1, p.2.2.1⟩ : TScope)

def TConsole.ts : List Ty := [(.sl .str), (.int .i64), (.sl .str), (.sl (.st 122)), (.sl .str)]

def TConsole.to (x : TConsole) : lDen SS TConsole.ts := (x.fInput, x.fAt, x.fOutput, x.fFiles, x.fTrace, ())

def TConsole.of (p : lDen SS TConsole.ts) : TConsole := (⟨p.1, p.2.1, p.2.2.1, p.2.2.2.1, p.2.2.2.2.1⟩ : TConsole)

def TMemory.ts : List Ty := [(.int .i64), (.sl (.st 113)), (.sl (.st 116)), (.sl (.st 118)), (.sl (.st 120)), (.sl .str), (.int .i64), (.sl .str), (.sl (.st 122)), (.sl .str)]

def TMemory.to (x : TMemory) : lDen SS TMemory.ts := (x.fHeap.fNext, x.fHeap.fObjects, x.fScope.fVars, x.fScope.fFunctions, x.fScope.fTypes, x.fConsole.fInput, x.fConsole.fAt, x.fConsole.fOutput, x.fConsole.fFiles, x.fConsole.fTrace, ())

def TMemory.of (p : lDen SS TMemory.ts) : TMemory := (⟨(⟨p.1, p.2.1⟩ : THeap), (⟨p.2.2.1, p.2.2.2.1, p.2.2.2.2.1⟩ : TScope), (⟨p.2.2.2.2.2.1, p.2.2.2.2.2.2.1, p.2.2.2.2.2.2.2.1, p.2.2.2.2.2.2.2.2.1, p.2.2.2.2.2.2.2.2.2.1⟩ : TConsole)⟩ : TMemory)

def TOutcome.ts : List Ty := [(.int .i64), (.sl (.st 113)), (.sl (.st 116)), (.sl (.st 118)), (.sl (.st 120)), (.sl .str), (.int .i64), (.sl .str), (.sl (.st 122)), (.sl .str), (.int .i64), (.int .i64), (.int .i64)]

def TOutcome.to (x : TOutcome) : lDen SS TOutcome.ts := (x.fMemory.fHeap.fNext, x.fMemory.fHeap.fObjects, x.fMemory.fScope.fVars, x.fMemory.fScope.fFunctions, x.fMemory.fScope.fTypes, x.fMemory.fConsole.fInput, x.fMemory.fConsole.fAt, x.fMemory.fConsole.fOutput, x.fMemory.fConsole.fFiles, x.fMemory.fConsole.fTrace, x.fAt, x.fSteps, x.fCode, ())

def TOutcome.of (p : lDen SS TOutcome.ts) : TOutcome := (⟨(⟨(⟨p.1, p.2.1⟩ : THeap), (⟨p.2.2.1, p.2.2.2.1, p.2.2.2.2.1⟩ : TScope), (⟨p.2.2.2.2.2.1, p.2.2.2.2.2.2.1, p.2.2.2.2.2.2.2.1, p.2.2.2.2.2.2.2.2.1, p.2.2.2.2.2.2.2.2.2.1⟩ : TConsole)⟩ : TMemory), p.2.2.2.2.2.2.2.2.2.2.1, p.2.2.2.2.2.2.2.2.2.2.2.1, p.2.2.2.2.2.2.2.2.2.2.2.2.1⟩ : TOutcome)

def TValue.ts : List Ty := [(.int .i64), (.int .i64), .str, (.int .i64)]

def TValue.to (x : TValue) : lDen SS TValue.ts := (x.fKind, x.fNum, x.fText, x.fRef, ())

def TValue.of (p : lDen SS TValue.ts) : TValue := (⟨p.1, p.2.1, p.2.2.1, p.2.2.2.1⟩ : TValue)

def TObject.ts : List Ty := [(.int .i64), (.int .i64), .str, (.int .i64), (.sl (.st 111)), (.sl (.st 111)), (.int .i64), (.int .i64), .str, (.int .i64)]

def TObject.to (x : TObject) : lDen SS TObject.ts := (x.fId, x.fKind, x.fName, x.fLow, x.fKeys, x.fVals, x.fDefault.fKind, x.fDefault.fNum, x.fDefault.fText, x.fDefault.fRef, ())

def TObject.of (p : lDen SS TObject.ts) : TObject := (⟨p.1, p.2.1, p.2.2.1, p.2.2.2.1, p.2.2.2.2.1, p.2.2.2.2.2.1, (⟨p.2.2.2.2.2.2.1, p.2.2.2.2.2.2.2.1, p.2.2.2.2.2.2.2.2.1, p.2.2.2.2.2.2.2.2.2.1⟩ : TValue)⟩ : TObject)

def TBinding.ts : List Ty := [.str, (.int .i64), (.int .i64), .str, (.int .i64)]

def TBinding.to (x : TBinding) : lDen SS TBinding.ts := (x.fName, x.fValue.fKind, x.fValue.fNum, x.fValue.fText, x.fValue.fRef, ())

def TBinding.of (p : lDen SS TBinding.ts) : TBinding := (⟨p.1, (⟨p.2.1, p.2.2.1, p.2.2.2.1, p.2.2.2.2.1⟩ : TValue)⟩ : TBinding)

def TFunction.ts : List Ty := [.str, (.sl .str), (.sl .str), .str]

def TFunction.to (x : TFunction) : lDen SS TFunction.ts := (x.fName, x.fParams, x.fLocals, x.fLabel, ())

def TFunction.of (p : lDen SS TFunction.ts) : TFunction := (⟨p.1, p.2.1, p.2.2.1, p.2.2.2.1⟩ : TFunction)

def TRecordType.ts : List Ty := [.str, (.sl .str)]

def TRecordType.to (x : TRecordType) : lDen SS TRecordType.ts := (x.fName, x.fFields, ())

def TRecordType.of (p : lDen SS TRecordType.ts) : TRecordType := (⟨p.1, p.2.1⟩ : TRecordType)

def TFile.ts : List Ty := [.str, (.sl .str), (.int .i64), (.int .i64)]

def TFile.to (x : TFile) : lDen SS TFile.ts := (x.fName, x.fLines, x.fMode, x.fAt, ())

def TFile.of (p : lDen SS TFile.ts) : TFile := (⟨p.1, p.2.1, p.2.2.1, p.2.2.2.1⟩ : TFile)

def scells : (n : Nat) → SS n → List (V SS)
  | 7, x => cellsL SS TRuntime_boundsError.ts (TRuntime_boundsError.to x)
  | 13, x => cellsL SS TRuntime_errorAddressString.ts (TRuntime_errorAddressString.to x)
  | 36, x => cellsL SS TSpec_l28Item.ts (TSpec_l28Item.to x)
  | 39, x => cellsL SS TSample.ts (TSample.to x)
  | 75, x => cellsL SS TUtf8_acceptRange.ts (TUtf8_acceptRange.to x)
  | 96, x => cellsL SS THeap.ts (THeap.to x)
  | 101, x => cellsL SS TScope.ts (TScope.to x)
  | 104, x => cellsL SS TConsole.ts (TConsole.to x)
  | 106, x => cellsL SS TMemory.ts (TMemory.to x)
  | 108, x => cellsL SS TOutcome.ts (TOutcome.to x)
  | 111, x => cellsL SS TValue.ts (TValue.to x)
  | 113, x => cellsL SS TObject.ts (TObject.to x)
  | 116, x => cellsL SS TBinding.ts (TBinding.to x)
  | 118, x => cellsL SS TFunction.ts (TFunction.to x)
  | 120, x => cellsL SS TRecordType.ts (TRecordType.to x)
  | 122, x => cellsL SS TFile.ts (TFile.to x)
  | _, _ => []

def smake : (n : Nat) → List (V SS) → Option (SS n)
  | 7, c => (prjL SS TRuntime_boundsError.ts c).map TRuntime_boundsError.of
  | 13, c => (prjL SS TRuntime_errorAddressString.ts c).map TRuntime_errorAddressString.of
  | 36, c => (prjL SS TSpec_l28Item.ts c).map TSpec_l28Item.of
  | 39, c => (prjL SS TSample.ts c).map TSample.of
  | 75, c => (prjL SS TUtf8_acceptRange.ts c).map TUtf8_acceptRange.of
  | 96, c => (prjL SS THeap.ts c).map THeap.of
  | 101, c => (prjL SS TScope.ts c).map TScope.of
  | 104, c => (prjL SS TConsole.ts c).map TConsole.of
  | 106, c => (prjL SS TMemory.ts c).map TMemory.of
  | 108, c => (prjL SS TOutcome.ts c).map TOutcome.of
  | 111, c => (prjL SS TValue.ts c).map TValue.of
  | 113, c => (prjL SS TObject.ts c).map TObject.of
  | 116, c => (prjL SS TBinding.ts c).map TBinding.of
  | 118, c => (prjL SS TFunction.ts c).map TFunction.of
  | 120, c => (prjL SS TRecordType.ts c).map TRecordType.of
  | 122, c => (prjL SS TFile.ts c).map TFile.of
  | _, _ => none

def scsz : Nat → Nat
  | 7 => 4
  | 13 => 2
  | 36 => 4
  | 39 => 4
  | 75 => 2
  | 96 => 2
  | 101 => 3
  | 104 => 5
  | 106 => 10
  | 108 => 13
  | 111 => 4
  | 113 => 10
  | 116 => 5
  | 118 => 4
  | 120 => 2
  | 122 => 4
  | _ => 0

def scty : Nat → List Ty
  | 7 => TRuntime_boundsError.ts
  | 13 => TRuntime_errorAddressString.ts
  | 36 => TSpec_l28Item.ts
  | 39 => TSample.ts
  | 75 => TUtf8_acceptRange.ts
  | 96 => THeap.ts
  | 101 => TScope.ts
  | 104 => TConsole.ts
  | 106 => TMemory.ts
  | 108 => TOutcome.ts
  | 111 => TValue.ts
  | 113 => TObject.ts
  | 116 => TBinding.ts
  | 118 => TFunction.ts
  | 120 => TRecordType.ts
  | 122 => TFile.ts
  | n => [.st n]

def stys : TypeId → Option Ty
  | 2 => some (.int .i64)
  | 3 => some (.int .i64)
  | 4 => some .bool
  | 5 => some (.int .u8)
  | 6 => some (.int .u8)
  | 7 => some (.st 7)
  | 8 => some (.st 7)
  | 9 => some .str
  | 10 => some .str
  | 11 => some .str
  | 12 => some (.int .u64)
  | 13 => some (.st 13)
  | 14 => some (.st 13)
  | 21 => some (.int .i32)
  | 28 => some (.sl .str)
  | 32 => some (.sl (.st 36))
  | 34 => some (.sl (.st 39))
  | 36 => some (.st 36)
  | 37 => some (.st 36)
  | 39 => some (.st 39)
  | 40 => some (.st 39)
  | 50 => some (.sl (.int .u8))
  | 73 => some (.int .u64)
  | 75 => some (.st 75)
  | 76 => some (.st 75)
  | 78 => some (.int .u32)
  | 87 => some (.int .u8)
  | 88 => some (.int .u8)
  | 90 => some (.int .i32)
  | 91 => some (.int .i32)
  | 95 => some (.sl (.st 113))
  | 96 => some (.st 96)
  | 97 => some (.st 96)
  | 98 => some (.sl (.st 116))
  | 99 => some (.sl (.st 118))
  | 100 => some (.sl (.st 120))
  | 101 => some (.st 101)
  | 102 => some (.st 101)
  | 103 => some (.sl (.st 122))
  | 104 => some (.st 104)
  | 105 => some (.st 104)
  | 106 => some (.st 106)
  | 107 => some (.st 106)
  | 108 => some (.st 108)
  | 109 => some (.st 108)
  | 110 => some (.sl (.st 111))
  | 111 => some (.st 111)
  | 112 => some (.st 111)
  | 113 => some (.st 113)
  | 114 => some (.st 113)
  | 116 => some (.st 116)
  | 117 => some (.st 116)
  | 118 => some (.st 118)
  | 119 => some (.st 118)
  | 120 => some (.st 120)
  | 121 => some (.st 120)
  | 122 => some (.st 122)
  | 123 => some (.st 122)
  | _ => none

def sel : Ty → TypeId
  | (.int .u8) => 5
  | (.st 111) => 112
  | (.st 113) => 114
  | (.st 116) => 117
  | (.st 118) => 119
  | (.st 120) => 121
  | (.st 122) => 123
  | (.st 36) => 37
  | (.st 39) => 40
  | .str => 9
  | _ => 0

def sfl : Nat → Bool
  | 7 => true
  | 13 => true
  | 36 => false
  | 39 => false
  | 75 => true
  | 96 => false
  | 101 => false
  | 104 => false
  | 106 => false
  | 108 => false
  | 111 => true
  | 113 => false
  | 116 => true
  | 118 => false
  | 120 => false
  | 122 => false
  | _ => false

def GG : Sig where
  S := SS
  csz := scsz
  cells := scells
  make := smake
  tyOf := stys
  el := sel
  fl := sfl

theorem TRuntime_boundsError.ok : SOk GG 7 TRuntime_boundsError.ts TRuntime_boundsError.to TRuntime_boundsError.of := ⟨rfl, fun _ => rfl, fun _ => rfl, rfl, fun _ => rfl, rfl⟩

theorem TRuntime_errorAddressString.ok : SOk GG 13 TRuntime_errorAddressString.ts TRuntime_errorAddressString.to TRuntime_errorAddressString.of := ⟨rfl, fun _ => rfl, fun _ => rfl, rfl, fun _ => rfl, rfl⟩

theorem TSpec_l28Item.ok : SOk GG 36 TSpec_l28Item.ts TSpec_l28Item.to TSpec_l28Item.of := ⟨rfl, fun _ => rfl, fun _ => rfl, rfl, fun _ => rfl, rfl⟩

theorem TSample.ok : SOk GG 39 TSample.ts TSample.to TSample.of := ⟨rfl, fun _ => rfl, fun _ => rfl, rfl, fun _ => rfl, rfl⟩

theorem TUtf8_acceptRange.ok : SOk GG 75 TUtf8_acceptRange.ts TUtf8_acceptRange.to TUtf8_acceptRange.of := ⟨rfl, fun _ => rfl, fun _ => rfl, rfl, fun _ => rfl, rfl⟩

theorem THeap.ok : SOk GG 96 THeap.ts THeap.to THeap.of := ⟨rfl, fun _ => rfl, fun _ => rfl, rfl, fun _ => rfl, rfl⟩

theorem TScope.ok : SOk GG 101 TScope.ts TScope.to TScope.of := ⟨rfl, fun _ => rfl, fun _ => rfl, rfl, fun _ => rfl, rfl⟩

theorem TConsole.ok : SOk GG 104 TConsole.ts TConsole.to TConsole.of := ⟨rfl, fun _ => rfl, fun _ => rfl, rfl, fun _ => rfl, rfl⟩

theorem TMemory.ok : SOk GG 106 TMemory.ts TMemory.to TMemory.of := ⟨rfl, fun _ => rfl, fun _ => rfl, rfl, fun _ => rfl, rfl⟩

theorem TOutcome.ok : SOk GG 108 TOutcome.ts TOutcome.to TOutcome.of := ⟨rfl, fun _ => rfl, fun _ => rfl, rfl, fun _ => rfl, rfl⟩

theorem TValue.ok : SOk GG 111 TValue.ts TValue.to TValue.of := ⟨rfl, fun _ => rfl, fun _ => rfl, rfl, fun _ => rfl, rfl⟩

theorem TObject.ok : SOk GG 113 TObject.ts TObject.to TObject.of := ⟨rfl, fun _ => rfl, fun _ => rfl, rfl, fun _ => rfl, rfl⟩

theorem TBinding.ok : SOk GG 116 TBinding.ts TBinding.to TBinding.of := ⟨rfl, fun _ => rfl, fun _ => rfl, rfl, fun _ => rfl, rfl⟩

theorem TFunction.ok : SOk GG 118 TFunction.ts TFunction.to TFunction.of := ⟨rfl, fun _ => rfl, fun _ => rfl, rfl, fun _ => rfl, rfl⟩

theorem TRecordType.ok : SOk GG 120 TRecordType.ts TRecordType.to TRecordType.of := ⟨rfl, fun _ => rfl, fun _ => rfl, rfl, fun _ => rfl, rfl⟩

theorem TFile.ok : SOk GG 122 TFile.ts TFile.to TFile.of := ⟨rfl, fun _ => rfl, fun _ => rfl, rfl, fun _ => rfl, rfl⟩

def TRuntime_boundsError.re (x : TRuntime_boundsError) : TRuntime_boundsError := TRuntime_boundsError.mk x.fX x.fY x.fSigned x.fCode

@[simp] theorem TRuntime_boundsError.re_eq (x : TRuntime_boundsError) : x.re = x := by cases x; rfl

theorem TRuntime_boundsError.eta (x : TRuntime_boundsError) : TRuntime_boundsError.mk x.fX x.fY x.fSigned x.fCode = x := by cases x; rfl

def TRuntime_errorAddressString.re (x : TRuntime_errorAddressString) : TRuntime_errorAddressString := TRuntime_errorAddressString.mk x.fMsg x.fAddr

@[simp] theorem TRuntime_errorAddressString.re_eq (x : TRuntime_errorAddressString) : x.re = x := by cases x; rfl

theorem TRuntime_errorAddressString.eta (x : TRuntime_errorAddressString) : TRuntime_errorAddressString.mk x.fMsg x.fAddr = x := by cases x; rfl

def TSpec_l28Item.re (x : TSpec_l28Item) : TSpec_l28Item := TSpec_l28Item.mk x.fName x.fLines x.fInput x.fOutput

@[simp] theorem TSpec_l28Item.re_eq (x : TSpec_l28Item) : x.re = x := by cases x; rfl

theorem TSpec_l28Item.eta (x : TSpec_l28Item) : TSpec_l28Item.mk x.fName x.fLines x.fInput x.fOutput = x := by cases x; rfl

def TSample.re (x : TSample) : TSample := TSample.mk x.fName x.fSource x.fInput x.fOutput

@[simp] theorem TSample.re_eq (x : TSample) : x.re = x := by cases x; rfl

theorem TSample.eta (x : TSample) : TSample.mk x.fName x.fSource x.fInput x.fOutput = x := by cases x; rfl

def TUtf8_acceptRange.re (x : TUtf8_acceptRange) : TUtf8_acceptRange := TUtf8_acceptRange.mk x.fLo x.fHi

@[simp] theorem TUtf8_acceptRange.re_eq (x : TUtf8_acceptRange) : x.re = x := by cases x; rfl

theorem TUtf8_acceptRange.eta (x : TUtf8_acceptRange) : TUtf8_acceptRange.mk x.fLo x.fHi = x := by cases x; rfl

def THeap.re (x : THeap) : THeap := THeap.mk x.fNext x.fObjects

@[simp] theorem THeap.re_eq (x : THeap) : x.re = x := by cases x; rfl

theorem THeap.eta (x : THeap) : THeap.mk x.fNext x.fObjects = x := by cases x; rfl

def TScope.re (x : TScope) : TScope := TScope.mk x.fVars x.fFunctions x.fTypes

@[simp] theorem TScope.re_eq (x : TScope) : x.re = x := by cases x; rfl

theorem TScope.eta (x : TScope) : TScope.mk x.fVars x.fFunctions x.fTypes = x := by cases x; rfl

def TConsole.re (x : TConsole) : TConsole := TConsole.mk x.fInput x.fAt x.fOutput x.fFiles x.fTrace

@[simp] theorem TConsole.re_eq (x : TConsole) : x.re = x := by cases x; rfl

theorem TConsole.eta (x : TConsole) : TConsole.mk x.fInput x.fAt x.fOutput x.fFiles x.fTrace = x := by cases x; rfl

def TMemory.re (x : TMemory) : TMemory := TMemory.mk x.fHeap x.fScope x.fConsole

@[simp] theorem TMemory.re_eq (x : TMemory) : x.re = x := by cases x; rfl

theorem TMemory.eta (x : TMemory) : TMemory.mk x.fHeap x.fScope x.fConsole = x := by cases x; rfl

def TOutcome.re (x : TOutcome) : TOutcome := TOutcome.mk x.fMemory x.fAt x.fSteps x.fCode

@[simp] theorem TOutcome.re_eq (x : TOutcome) : x.re = x := by cases x; rfl

theorem TOutcome.eta (x : TOutcome) : TOutcome.mk x.fMemory x.fAt x.fSteps x.fCode = x := by cases x; rfl

def TValue.re (x : TValue) : TValue := TValue.mk x.fKind x.fNum x.fText x.fRef

@[simp] theorem TValue.re_eq (x : TValue) : x.re = x := by cases x; rfl

theorem TValue.eta (x : TValue) : TValue.mk x.fKind x.fNum x.fText x.fRef = x := by cases x; rfl

def TObject.re (x : TObject) : TObject := TObject.mk x.fId x.fKind x.fName x.fLow x.fKeys x.fVals x.fDefault

@[simp] theorem TObject.re_eq (x : TObject) : x.re = x := by cases x; rfl

theorem TObject.eta (x : TObject) : TObject.mk x.fId x.fKind x.fName x.fLow x.fKeys x.fVals x.fDefault = x := by cases x; rfl

def TBinding.re (x : TBinding) : TBinding := TBinding.mk x.fName x.fValue

@[simp] theorem TBinding.re_eq (x : TBinding) : x.re = x := by cases x; rfl

theorem TBinding.eta (x : TBinding) : TBinding.mk x.fName x.fValue = x := by cases x; rfl

def TFunction.re (x : TFunction) : TFunction := TFunction.mk x.fName x.fParams x.fLocals x.fLabel

@[simp] theorem TFunction.re_eq (x : TFunction) : x.re = x := by cases x; rfl

theorem TFunction.eta (x : TFunction) : TFunction.mk x.fName x.fParams x.fLocals x.fLabel = x := by cases x; rfl

def TRecordType.re (x : TRecordType) : TRecordType := TRecordType.mk x.fName x.fFields

@[simp] theorem TRecordType.re_eq (x : TRecordType) : x.re = x := by cases x; rfl

theorem TRecordType.eta (x : TRecordType) : TRecordType.mk x.fName x.fFields = x := by cases x; rfl

def TFile.re (x : TFile) : TFile := TFile.mk x.fName x.fLines x.fMode x.fAt

@[simp] theorem TFile.re_eq (x : TFile) : x.re = x := by cases x; rfl

theorem TFile.eta (x : TFile) : TFile.mk x.fName x.fLines x.fMode x.fAt = x := by cases x; rfl

theorem SS_empty {n : Nat} (h7 : ¬ n = 7) (h13 : ¬ n = 13) (h36 : ¬ n = 36) (h39 : ¬ n = 39) (h75 : ¬ n = 75) (h96 : ¬ n = 96) (h101 : ¬ n = 101) (h104 : ¬ n = 104) (h106 : ¬ n = 106) (h108 : ¬ n = 108) (h111 : ¬ n = 111) (h113 : ¬ n = 113) (h116 : ¬ n = 116) (h118 : ¬ n = 118) (h120 : ¬ n = 120) (h122 : ¬ n = 122) : SS n = Empty := by
  unfold SS
  split <;> first | rfl | (exfalso; omega)

theorem GG.law (n : Nat) : SLaw GG n := by
  by_cases h7 : n = 7
  · subst h7; exact TRuntime_boundsError.ok.law
  by_cases h13 : n = 13
  · subst h13; exact TRuntime_errorAddressString.ok.law
  by_cases h36 : n = 36
  · subst h36; exact TSpec_l28Item.ok.law
  by_cases h39 : n = 39
  · subst h39; exact TSample.ok.law
  by_cases h75 : n = 75
  · subst h75; exact TUtf8_acceptRange.ok.law
  by_cases h96 : n = 96
  · subst h96; exact THeap.ok.law
  by_cases h101 : n = 101
  · subst h101; exact TScope.ok.law
  by_cases h104 : n = 104
  · subst h104; exact TConsole.ok.law
  by_cases h106 : n = 106
  · subst h106; exact TMemory.ok.law
  by_cases h108 : n = 108
  · subst h108; exact TOutcome.ok.law
  by_cases h111 : n = 111
  · subst h111; exact TValue.ok.law
  by_cases h113 : n = 113
  · subst h113; exact TObject.ok.law
  by_cases h116 : n = 116
  · subst h116; exact TBinding.ok.law
  by_cases h118 : n = 118
  · subst h118; exact TFunction.ok.law
  by_cases h120 : n = 120
  · subst h120; exact TRecordType.ok.law
  by_cases h122 : n = 122
  · subst h122; exact TFile.ok.law
  exact .empty fun x => (cast (SS_empty h7 h13 h36 h39 h75 h96 h101 h104 h106 h108 h111 h113 h116 h118 h120 h122) x).elim

theorem GG.ok : SigOk GG := sigOk_of GG.law

noncomputable def OO : Opn GG where
  P := Tryd.prog
  tab := [(2, (.int .i64)), (3, (.int .i64)), (4, .bool), (5, (.int .u8)), (6, (.int .u8)), (7, (.st 7)), (8, (.st 7)), (9, .str), (10, .str), (11, .str), (12, (.int .u64)), (13, (.st 13)), (14, (.st 13)), (21, (.int .i32)), (28, (.sl .str)), (32, (.sl (.st 36))), (34, (.sl (.st 39))), (36, (.st 36)), (37, (.st 36)), (39, (.st 39)), (40, (.st 39)), (50, (.sl (.int .u8))), (73, (.int .u64)), (75, (.st 75)), (76, (.st 75)), (78, (.int .u32)), (87, (.int .u8)), (88, (.int .u8)), (90, (.int .i32)), (91, (.int .i32)), (95, (.sl (.st 113))), (96, (.st 96)), (97, (.st 96)), (98, (.sl (.st 116))), (99, (.sl (.st 118))), (100, (.sl (.st 120))), (101, (.st 101)), (102, (.st 101)), (103, (.sl (.st 122))), (104, (.st 104)), (105, (.st 104)), (106, (.st 106)), (107, (.st 106)), (108, (.st 108)), (109, (.st 108)), (110, (.sl (.st 111))), (111, (.st 111)), (112, (.st 111)), (113, (.st 113)), (114, (.st 113)), (116, (.st 116)), (117, (.st 116)), (118, (.st 118)), (119, (.st 118)), (120, (.st 120)), (121, (.st 120)), (122, (.st 122)), (123, (.st 122))]
  cty := scty

theorem OO.tot (n : Nat) (vs : List (V SS)) (h : Leaves GG (scty n) vs) : ∃ x, smake n vs = some x ∧ scells n x = vs := by
  by_cases h7 : n = 7
  · subst h7; exact TRuntime_boundsError.ok.tot h
  by_cases h13 : n = 13
  · subst h13; exact TRuntime_errorAddressString.ok.tot h
  by_cases h36 : n = 36
  · subst h36; exact TSpec_l28Item.ok.tot h
  by_cases h39 : n = 39
  · subst h39; exact TSample.ok.tot h
  by_cases h75 : n = 75
  · subst h75; exact TUtf8_acceptRange.ok.tot h
  by_cases h96 : n = 96
  · subst h96; exact THeap.ok.tot h
  by_cases h101 : n = 101
  · subst h101; exact TScope.ok.tot h
  by_cases h104 : n = 104
  · subst h104; exact TConsole.ok.tot h
  by_cases h106 : n = 106
  · subst h106; exact TMemory.ok.tot h
  by_cases h108 : n = 108
  · subst h108; exact TOutcome.ok.tot h
  by_cases h111 : n = 111
  · subst h111; exact TValue.ok.tot h
  by_cases h113 : n = 113
  · subst h113; exact TObject.ok.tot h
  by_cases h116 : n = 116
  · subst h116; exact TBinding.ok.tot h
  by_cases h118 : n = 118
  · subst h118; exact TFunction.ok.tot h
  by_cases h120 : n = 120
  · subst h120; exact TRecordType.ok.tot h
  by_cases h122 : n = 122
  · subst h122; exact TFile.ok.tot h
  exfalso
  have e : scty n = [.st n] := by
    unfold scty
    split <;> first | rfl | (exfalso; omega)
  rw [e] at h
  obtain ⟨x⟩ := leaves_st h
  exact (cast (SS_empty h7 h13 h36 h39 h75 h96 h101 h104 h106 h108 h111 h113 h116 h118 h120 h122) x : Empty).elim

theorem OO.ok : OpnOk OO := ⟨by kernel_rfl, OO.tot⟩

def cut11 : Nat → Option (List (Nat × Option Ty))
  | 3 => some [(0, none), (3, none), (4, none)]
  | _ => none

def cut17 : Nat → Option (List (Nat × Option Ty))
  | 4 => some [(0, none), (1, none), (5, none)]
  | _ => none

def cut18 : Nat → Option (List (Nat × Option Ty))
  | 2 => some [(0, none), (1, none), (5, none)]
  | _ => none

def cut19 : Nat → Option (List (Nat × Option Ty))
  | 2 => some [(0, none), (1, none), (5, none)]
  | _ => none

def cut25 : Nat → Option (List (Nat × Option Ty))
  | 3 => some [(1, none), (7, none), (8, none), (9, none)]
  | 15 => some [(1, none), (7, none), (8, none), (9, none)]
  | _ => none

def cut26 : Nat → Option (List (Nat × Option Ty))
  | 2 => some [(0, none), (1, none), (7, none), (8, none)]
  | _ => none

def cut30 : Nat → Option (List (Nat × Option Ty))
  | 4 => some [(0, none), (3, none)]
  | _ => none

def cut31 : Nat → Option (List (Nat × Option Ty))
  | 3 => some [(0, none), (3, none), (4, none)]
  | _ => none

def cut32 : Nat → Option (List (Nat × Option Ty))
  | 3 => some [(3, none), (7, none), (8, none), (9, none)]
  | _ => none

def cut41 : Nat → Option (List (Nat × Option Ty))
  | 11 => some [(0, none), (1, none), (2, none), (3, none), (9, none), (10, none)]
  | _ => none

def cut44 : Nat → Option (List (Nat × Option Ty))
  | 4 => some [(0, none), (1, none)]
  | 6 => some [(0, none), (1, none), (6, none), (7, none)]
  | _ => none

def cut45 : Nat → Option (List (Nat × Option Ty))
  | 6 => some [(0, none), (1, none), (5, none)]
  | _ => none

def cut48 : Nat → Option (List (Nat × Option Ty))
  | 2 => some [(2, none), (4, none)]
  | _ => none

def cut51 : Nat → Option (List (Nat × Option Ty))
  | 9 => some [(0, none), (1, none)]
  | 10 => some [(0, none), (1, none), (5, none)]
  | 15 => some [(0, none), (1, none), (5, none), (6, none), (7, none), (8, none), (9, none), (10, none)]
  | 22 => some [(8, none)]
  | 23 => some [(0, none), (1, none), (5, none), (6, none), (7, none), (8, none), (9, none), (10, none)]
  | 31 => some [(0, none), (1, none), (8, none)]
  | _ => none

def cut52 : Nat → Option (List (Nat × Option Ty))
  | 20 => some []
  | 21 => some [(0, none), (5, none), (8, none), (10, none), (11, none)]
  | _ => none

def cut56 : Nat → Option (List (Nat × Option Ty))
  | 11 => some [(0, none), (1, none), (5, none), (6, none), (7, none), (8, none), (10, none)]
  | 5 => some [(0, none), (1, none), (5, none), (6, none), (7, none), (8, none), (9, none)]
  | _ => none

def cut58 : Nat → Option (List (Nat × Option Ty))
  | 8 => some [(4, none), (6, none), (7, none), (8, none)]
  | 3 => some [(0, none), (4, none), (5, none)]
  | _ => none

def cutT : FuncId → Nat → Option (List (Nat × Option Ty))
  | 11 => cut11
  | 17 => cut17
  | 18 => cut18
  | 19 => cut19
  | 25 => cut25
  | 26 => cut26
  | 30 => cut30
  | 31 => cut31
  | 32 => cut32
  | 41 => cut41
  | 44 => cut44
  | 45 => cut45
  | 48 => cut48
  | 51 => cut51
  | 52 => cut52
  | 56 => cut56
  | 58 => cut58
  | _ => fun _ => none

def extT : FuncId → Option (Sigma fun rt : List Ty => List (V GG.S) → Option (rDen GG.S rt))
  | 38 => some ⟨[.sl .str], splitV⟩
  | _ => none

def bldF : FuncId → Option (Nat × TypeId × TypeId)
  | 36 => some (1, 53, 5)
  | 37 => some (3, 53, 5)
  | _ => none

noncomputable def CC : Cfg GG where
  P := Tryd.prog
  refs := fun f => [].contains f
  ext := U.extT
  cut := cutT
  glob := fun _ => none
  gint := fun g => g == 0
  gtab := fun _ => none
  own := fun _ => none
  bld := U.bldF
  ctor := fun _ => none
  eat := fun _ => none
  trE := fun e => [40, 97, 102, 105, 107, 109, 114, 119, 121, 123].contains e
  ownR := fun f => [16, 21, 25, 29].contains f
  wrf := fun f => [18].contains f

end Go.Dv.U
