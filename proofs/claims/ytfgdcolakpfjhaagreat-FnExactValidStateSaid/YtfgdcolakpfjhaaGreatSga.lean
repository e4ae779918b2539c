/- The types of this program and the places where its loops are cut. -/
import Derived.Test.YtfgdcolakpfjhaaGreatDvc
import Derived.Test.YtfgdcolakpfjhaaGreatChecked
set_option linter.all false
set_option linter.unusedVariables false
set_option linter.unusedSimpArgs false
namespace Go.Dv.U

open Go Go.Dv Go.Proofs

set_option maxRecDepth 100000

structure TRuntime_boundsError where
  fX : Int
  fY : Int
  fSigned : Bool
  fCode : Int

structure TRuntime_errorAddressString where
  fMsg : (List UInt8)
  fAddr : Int

structure TValue where
  fKind : Int
  fNum : Int
  fText : (List UInt8)
  fRef : Int

structure TObject where
  fId : Int
  fKind : Int
  fName : (List UInt8)
  fLow : Int
  fKeys : (List TValue)
  fVals : (List TValue)
  fDefault : TValue

structure THeap where
  fNext : Int
  fObjects : (List TObject)

structure TBinding where
  fName : (List UInt8)
  fValue : TValue

structure TGen where
  fKind : Int
  fNum : Int
  fText : (List UInt8)
  fValue : TValue
  fKids : (List TGen)

structure TCursor where
  fPhase : Int
  fCount : Int
  fVals : (List TValue)
  fKids : (List TCursor)

structure TCoexpr where
  fId : Int
  fBody : TGen
  fStart : (List TBinding)
  fVars : (List TBinding)
  fCursor : TCursor
  fCount : Int
  fDone : Bool

structure TGenScope where
  fVars : (List TBinding)
  fHeap : THeap
  fCos : (List TCoexpr)
  fSteps : Int

structure TFunction where
  fName : (List UInt8)
  fParams : (List (List UInt8))
  fLocals : (List (List UInt8))
  fLabel : (List UInt8)

structure TRecordType where
  fName : (List UInt8)
  fFields : (List (List UInt8))

structure TScope where
  fVars : (List TBinding)
  fFunctions : (List TFunction)
  fTypes : (List TRecordType)

structure TFile where
  fName : (List UInt8)
  fLines : (List (List UInt8))
  fMode : Int
  fAt : Int

structure TConsole where
  fInput : (List (List UInt8))
  fAt : Int
  fOutput : (List (List UInt8))
  fFiles : (List TFile)
  fTrace : (List (List UInt8))

structure TMemory where
  fHeap : THeap
  fScope : TScope
  fConsole : TConsole

structure TCallFrame where
  fName : (List UInt8)
  fSaved : (List TBinding)
  fPC : Int
  fBase : Int
  fAt : Int

structure TMachine where
  fStatus : Int
  fCode : Int
  fMemory : TMemory
  fStack : (List TValue)
  fFrames : (List TCallFrame)
  fPC : Int
  fBase : Int
  fAt : Int
  fSteps : Int
  fFuel : Int

structure TCursorForm where
  fPhases : (List Int)
  fCounts : Int
  fVals : Int
  fKids : (List TGen)

def SS : Nat → Type
  | 7 => TRuntime_boundsError
  | 13 => TRuntime_errorAddressString
  | 24 => THeap
  | 27 => TGenScope
  | 29 => TValue
  | 32 => TGen
  | 36 => TCursor
  | 68 => TScope
  | 72 => TConsole
  | 74 => TMemory
  | 95 => TMachine
  | 137 => TCoexpr
  | 160 => TCallFrame
  | 162 => TBinding
  | 186 => TCursorForm
  | 199 => TObject
  | 212 => TFunction
  | 215 => TRecordType
  | 232 => TFile
  | _ => Empty

def TRuntime_boundsError.ts : List Ty := [(.int .i64), (.int .i64), .bool, (.int .u8)]

def TRuntime_boundsError.to (x : TRuntime_boundsError) : lDen SS TRuntime_boundsError.ts := (x.fX, x.fY, x.fSigned, x.fCode, ())

def TRuntime_boundsError.of (p : lDen SS TRuntime_boundsError.ts) : TRuntime_boundsError := (⟨p.1, p.2.1, p.2.2.1, p.2.2.2.1⟩ : TRuntime_boundsError)

def TRuntime_errorAddressString.ts : List Ty := [.str, (.int .u64)]

def TRuntime_errorAddressString.to (x : TRuntime_errorAddressString) : lDen SS TRuntime_errorAddressString.ts := (x.fMsg, x.fAddr, ())

def TRuntime_errorAddressString.of (p : lDen SS TRuntime_errorAddressString.ts) : TRuntime_errorAddressString := (⟨p.1, p.2.1⟩ : TRuntime_errorAddressString)

def THeap.ts : List Ty := [(.int .i64), (.sl (.st 199))]

def THeap.to (x : THeap) : lDen SS THeap.ts := (x.fNext, x.fObjects, ())

def THeap.of (p : lDen SS THeap.ts) : THeap := (⟨p.1, p.2.1⟩ : THeap)

def TGenScope.ts : List Ty := [(.sl (.st 162)), (.int .i64), (.sl (.st 199)), (.sl (.st 137)), (.int .i64)]

def TGenScope.to (x : TGenScope) : lDen SS TGenScope.ts := (x.fVars, x.fHeap.fNext, x.fHeap.fObjects, x.fCos, x.fSteps, ())

def TGenScope.of (p : lDen SS TGenScope.ts) : TGenScope := (⟨p.1, (⟨p.2.1, p.2.2.1⟩ : THeap), p.2.2.2.1, p.2.2.2.2.1⟩ : TGenScope)

def TValue.ts : List Ty := [(.int .i64), (.int .i64), .str, (.int .i64)]

def TValue.to (x : TValue) : lDen SS TValue.ts := (x.fKind, x.fNum, x.fText, x.fRef, ())

def TValue.of (p : lDen SS TValue.ts) : TValue := (⟨p.1, p.2.1, p.2.2.1, p.2.2.2.1⟩ : TValue)

def TGen.ts : List Ty := [(.int .i64), (.int .i64), .str, (.int .i64), (.int .i64), .str, (.int .i64), (.sl (.st 32))]

def TGen.to (x : TGen) : lDen SS TGen.ts := (x.fKind, x.fNum, x.fText, x.fValue.fKind, x.fValue.fNum, x.fValue.fText, x.fValue.fRef, x.fKids, ())

def TGen.of (p : lDen SS TGen.ts) : TGen := (⟨p.1, p.2.1, p.2.2.1, (⟨p.2.2.2.1, p.2.2.2.2.1, p.2.2.2.2.2.1, p.2.2.2.2.2.2.1⟩ : TValue), p.2.2.2.2.2.2.2.1⟩ : TGen)

def TCursor.ts : List Ty := [(.int .i64), (.int .i64), (.sl (.st 29)), (.sl (.st 36))]

def TCursor.to (x : TCursor) : lDen SS TCursor.ts := (x.fPhase, x.fCount, x.fVals, x.fKids, ())

def TCursor.of (p : lDen SS TCursor.ts) : TCursor := (⟨p.1, p.2.1, p.2.2.1, p.2.2.2.1⟩ : TCursor)

def TScope.ts : List Ty := [(.sl (.st 162)), (.sl (.st 212)), (.sl (.st 215))]

def TScope.to (x : TScope) : lDen SS TScope.ts := (x.fVars, x.fFunctions, x.fTypes, ())

def TScope.of (p : lDen SS TScope.ts) : TScope := (⟨p.1, p.2.1, p.2.2.1⟩ : TScope)

def TConsole.ts : List Ty := [(.sl .str), (.int .i64), (.sl .str), (.sl (.st 232)), (.sl .str)]

def TConsole.to (x : TConsole) : lDen SS TConsole.ts := (x.fInput, x.fAt, x.fOutput, x.fFiles, x.fTrace, ())

def TConsole.of (p : lDen SS TConsole.ts) : TConsole := (⟨p.1, p.2.1, p.2.2.1, p.2.2.2.1, p.2.2.2.2.1⟩ : TConsole)

def TMemory.ts : List Ty := [(.int .i64), (.sl (.st 199)), (.sl (.st 162)), (.sl (.st 212)), (.sl (.st 215)), (.sl .str), (.int .i64), (.sl .str), (.sl (.st 232)), (.sl .str)]

def TMemory.to (x : TMemory) : lDen SS TMemory.ts := (x.fHeap.fNext, x.fHeap.fObjects, x.fScope.fVars, x.fScope.fFunctions, x.fScope.fTypes, x.fConsole.fInput, x.fConsole.fAt, x.fConsole.fOutput, x.fConsole.fFiles, x.fConsole.fTrace, ())

def TMemory.of (p : lDen SS TMemory.ts) : TMemory := (⟨(⟨p.1, p.2.1⟩ : THeap), (⟨p.2.2.1, p.2.2.2.1, p.2.2.2.2.1⟩ : TScope), (⟨p.2.2.2.2.2.1, p.2.2.2.2.2.2.1, p.2.2.2.2.2.2.2.1, p.2.2.2.2.2.2.2.2.1, p.2.2.2.2.2.2.2.2.2.1⟩ : TConsole)⟩ : TMemory)

def TMachine.ts : List Ty := [(.int .i64), (.int .i64), (.int .i64), (.sl (.st 199)), (.sl (.st 162)), (.sl (.st 212)), (.sl (.st 215)), (.sl .str), (.int .i64), (.sl .str), (.sl (.st 232)), (.sl .str), (.sl (.st 29)), (.sl (.st 160)), (.int .i64), (.int .i64), (.int .i64), (.int .i64), (.int .i64)]

def TMachine.to (x : TMachine) : lDen SS TMachine.ts := (x.fStatus, x.fCode, x.fMemory.fHeap.fNext, x.fMemory.fHeap.fObjects, x.fMemory.fScope.fVars, x.fMemory.fScope.fFunctions, x.fMemory.fScope.fTypes, x.fMemory.fConsole.fInput, x.fMemory.fConsole.fAt, x.fMemory.fConsole.fOutput, x.fMemory.fConsole.fFiles, x.fMemory.fConsole.fTrace, x.fStack, x.fFrames, x.fPC, x.fBase, x.fAt, x.fSteps, x.fFuel, ())

def TMachine.of (p : lDen SS TMachine.ts) : TMachine := (⟨p.1, p.2.1, (⟨(⟨p.2.2.1, p.2.2.2.1⟩ : THeap), (⟨p.2.2.2.2.1, p.2.2.2.2.2.1, p.2.2.2.2.2.2.1⟩ : TScope), (⟨p.2.2.2.2.2.2.2.1, p.2.2.2.2.2.2.2.2.1, p.2.2.2.2.2.2.2.2.2.1, p.2.2.2.2.2.2.2.2.2.2.1, p.2.2.2.2.2.2.2.2.2.2.2.1⟩ : TConsole)⟩ : TMemory), p.2.2.2.2.2.2.2.2.2.2.2.2.1, p.2.2.2.2.2.2.2.2.2.2.2.2.2.1, p.2.2.2.2.2.2.2.2.2.2.2.2.2.2.1, p.2.2.2.2.2.2.2.2.2.2.2.2.2.2.2.1, p.2.2.2.2.2.2.2.2.2.2.2.2.2.2.2.2.1, p.2.2.2.2.2.2.2.2.2.2.2.2.2.2.2.2.2.1, p.2.2.2.2.2.2.2.2.2.2.2.2.2.2.2.2.2.2.1⟩ : TMachine)

def TCoexpr.ts : List Ty := [(.int .i64), (.int .i64), (.int .i64), .str, (.int .i64), (.int .i64), .str, (.int .i64), (.sl (.st 32)), (.sl (.st 162)), (.sl (.st 162)), (.int .i64), (.int .i64), (.sl (.st 29)), (.sl (.st 36)), (.int .i64), .bool]

def TCoexpr.to (x : TCoexpr) : lDen SS TCoexpr.ts := (x.fId, x.fBody.fKind, x.fBody.fNum, x.fBody.fText, x.fBody.fValue.fKind, x.fBody.fValue.fNum, x.fBody.fValue.fText, x.fBody.fValue.fRef, x.fBody.fKids, x.fStart, x.fVars, x.fCursor.fPhase, x.fCursor.fCount, x.fCursor.fVals, x.fCursor.fKids, x.fCount, x.fDone, ())

def TCoexpr.of (p : lDen SS TCoexpr.ts) : TCoexpr := (⟨p.1, (⟨p.2.1, p.2.2.1, p.2.2.2.1, (⟨p.2.2.2.2.1, p.2.2.2.2.2.1, p.2.2.2.2.2.2.1, p.2.2.2.2.2.2.2.1⟩ : TValue), p.2.2.2.2.2.2.2.2.1⟩ : TGen), p.2.2.2.2.2.2.2.2.2.1, p.2.2.2.2.2.2.2.2.2.2.1, (⟨p.2.2.2.2.2.2.2.2.2.2.2.1, p.2.2.2.2.2.2.2.2.2.2.2.2.1, p.2.2.2.2.2.2.2.2.2.2.2.2.2.1, p.2.2.2.2.2.2.2.2.2.2.2.2.2.2.1⟩ : TCursor), p.2.2.2.2.2.2.2.2.2.2.2.2.2.2.2.1, p.2.2.2.2.2.2.2.2.2.2.2.2.2.2.2.2.1⟩ : TCoexpr)

def TCallFrame.ts : List Ty := [.str, (.sl (.st 162)), (.int .i64), (.int .i64), (.int .i64)]

def TCallFrame.to (x : TCallFrame) : lDen SS TCallFrame.ts := (x.fName, x.fSaved, x.fPC, x.fBase, x.fAt, ())

def TCallFrame.of (p : lDen SS TCallFrame.ts) : TCallFrame := (⟨p.1, p.2.1, p.2.2.1, p.2.2.2.1, p.2.2.2.2.1⟩ : TCallFrame)

def TBinding.ts : List Ty := [.str, (.int .i64), (.int .i64), .str, (.int .i64)]

def TBinding.to (x : TBinding) : lDen SS TBinding.ts := (x.fName, x.fValue.fKind, x.fValue.fNum, x.fValue.fText, x.fValue.fRef, ())

def TBinding.of (p : lDen SS TBinding.ts) : TBinding := (⟨p.1, (⟨p.2.1, p.2.2.1, p.2.2.2.1, p.2.2.2.2.1⟩ : TValue)⟩ : TBinding)

def TCursorForm.ts : List Ty := [(.sl (.int .i64)), (.int .i64), (.int .i64), (.sl (.st 32))]

def TCursorForm.to (x : TCursorForm) : lDen SS TCursorForm.ts := (x.fPhases, x.fCounts, x.fVals, x.fKids, ())

def TCursorForm.of (p : lDen SS TCursorForm.ts) : TCursorForm := (⟨p.1, p.2.1, p.2.2.1, p.2.2.2.1⟩ : TCursorForm)

def TObject.ts : List Ty := [(.int .i64), (.int .i64), .str, (.int .i64), (.sl (.st 29)), (.sl (.st 29)), (.int .i64), (.int .i64), .str, (.int .i64)]

def TObject.to (x : TObject) : lDen SS TObject.ts := (x.fId, x.fKind, x.fName, x.fLow, x.fKeys, x.fVals, x.fDefault.fKind, x.fDefault.fNum, x.fDefault.fText, x.fDefault.fRef, ())

def TObject.of (p : lDen SS TObject.ts) : TObject := (⟨p.1, p.2.1, p.2.2.1, p.2.2.2.1, p.2.2.2.2.1, p.2.2.2.2.2.1, (⟨p.2.2.2.2.2.2.1, p.2.2.2.2.2.2.2.1, p.2.2.2.2.2.2.2.2.1, p.2.2.2.2.2.2.2.2.2.1⟩ : TValue)⟩ : TObject)

def TFunction.ts : List Ty := [.str, (.sl .str), (.sl .str), .str]

def TFunction.to (x : TFunction) : lDen SS TFunction.ts := (x.fName, x.fParams, x.fLocals, x.fLabel, ())

def TFunction.of (p : lDen SS TFunction.ts) : TFunction := (⟨p.1, p.2.1, p.2.2.1, p.2.2.2.1⟩ : TFunction)

def TRecordType.ts : List Ty := [.str, (.sl .str)]

def TRecordType.to (x : TRecordType) : lDen SS TRecordType.ts := (x.fName, x.fFields, ())

def TRecordType.of (p : lDen SS TRecordType.ts) : TRecordType := (⟨p.1, p.2.1⟩ : TRecordType)

def TFile.ts : List Ty := [.str, (.sl .str), (.int .i64), (.int .i64)]

def TFile.to (x : TFile) : lDen SS TFile.ts := (x.fName, x.fLines, x.fMode, x.fAt, ())

def TFile.of (p : lDen SS TFile.ts) : TFile := (⟨p.1, p.2.1, p.2.2.1, p.2.2.2.1⟩ : TFile)

def scells : (n : Nat) → SS n → List (V SS)
  | 7, x => cellsL SS TRuntime_boundsError.ts (TRuntime_boundsError.to x)
  | 13, x => cellsL SS TRuntime_errorAddressString.ts (TRuntime_errorAddressString.to x)
  | 24, x => cellsL SS THeap.ts (THeap.to x)
  | 27, x => cellsL SS TGenScope.ts (TGenScope.to x)
  | 29, x => cellsL SS TValue.ts (TValue.to x)
  | 32, x => cellsL SS TGen.ts (TGen.to x)
  | 36, x => cellsL SS TCursor.ts (TCursor.to x)
  | 68, x => cellsL SS TScope.ts (TScope.to x)
  | 72, x => cellsL SS TConsole.ts (TConsole.to x)
  | 74, x => cellsL SS TMemory.ts (TMemory.to x)
  | 95, x => cellsL SS TMachine.ts (TMachine.to x)
  | 137, x => cellsL SS TCoexpr.ts (TCoexpr.to x)
  | 160, x => cellsL SS TCallFrame.ts (TCallFrame.to x)
  | 162, x => cellsL SS TBinding.ts (TBinding.to x)
  | 186, x => cellsL SS TCursorForm.ts (TCursorForm.to x)
  | 199, x => cellsL SS TObject.ts (TObject.to x)
  | 212, x => cellsL SS TFunction.ts (TFunction.to x)
  | 215, x => cellsL SS TRecordType.ts (TRecordType.to x)
  | 232, x => cellsL SS TFile.ts (TFile.to x)
  | _, _ => []

def smake : (n : Nat) → List (V SS) → Option (SS n)
  | 7, c => (prjL SS TRuntime_boundsError.ts c).map TRuntime_boundsError.of
  | 13, c => (prjL SS TRuntime_errorAddressString.ts c).map TRuntime_errorAddressString.of
  | 24, c => (prjL SS THeap.ts c).map THeap.of
  | 27, c => (prjL SS TGenScope.ts c).map TGenScope.of
  | 29, c => (prjL SS TValue.ts c).map TValue.of
  | 32, c => (prjL SS TGen.ts c).map TGen.of
  | 36, c => (prjL SS TCursor.ts c).map TCursor.of
  | 68, c => (prjL SS TScope.ts c).map TScope.of
  | 72, c => (prjL SS TConsole.ts c).map TConsole.of
  | 74, c => (prjL SS TMemory.ts c).map TMemory.of
  | 95, c => (prjL SS TMachine.ts c).map TMachine.of
  | 137, c => (prjL SS TCoexpr.ts c).map TCoexpr.of
  | 160, c => (prjL SS TCallFrame.ts c).map TCallFrame.of
  | 162, c => (prjL SS TBinding.ts c).map TBinding.of
  | 186, c => (prjL SS TCursorForm.ts c).map TCursorForm.of
  | 199, c => (prjL SS TObject.ts c).map TObject.of
  | 212, c => (prjL SS TFunction.ts c).map TFunction.of
  | 215, c => (prjL SS TRecordType.ts c).map TRecordType.of
  | 232, c => (prjL SS TFile.ts c).map TFile.of
  | _, _ => none

def scsz : Nat → Nat
  | 7 => 4
  | 13 => 2
  | 24 => 2
  | 27 => 5
  | 29 => 4
  | 32 => 8
  | 36 => 4
  | 68 => 3
  | 72 => 5
  | 74 => 10
  | 95 => 19
  | 137 => 17
  | 160 => 5
  | 162 => 5
  | 186 => 4
  | 199 => 10
  | 212 => 4
  | 215 => 2
  | 232 => 4
  | _ => 0

def scty : Nat → List Ty
  | 7 => TRuntime_boundsError.ts
  | 13 => TRuntime_errorAddressString.ts
  | 24 => THeap.ts
  | 27 => TGenScope.ts
  | 29 => TValue.ts
  | 32 => TGen.ts
  | 36 => TCursor.ts
  | 68 => TScope.ts
  | 72 => TConsole.ts
  | 74 => TMemory.ts
  | 95 => TMachine.ts
  | 137 => TCoexpr.ts
  | 160 => TCallFrame.ts
  | 162 => TBinding.ts
  | 186 => TCursorForm.ts
  | 199 => TObject.ts
  | 212 => TFunction.ts
  | 215 => TRecordType.ts
  | 232 => TFile.ts
  | n => [.st n]

def stys : TypeId → Option Ty
  | 2 => some (.int .i64)
  | 3 => some (.int .i64)
  | 4 => some .bool
  | 5 => some (.int .u8)
  | 6 => some (.int .u8)
  | 7 => some (.st 7)
  | 8 => some (.st 7)
  | 9 => some .str
  | 10 => some .str
  | 11 => some .str
  | 12 => some (.int .u64)
  | 13 => some (.st 13)
  | 14 => some (.st 13)
  | 21 => some (.int .i32)
  | 22 => some (.sl (.st 162))
  | 23 => some (.sl (.st 199))
  | 24 => some (.st 24)
  | 25 => some (.st 24)
  | 26 => some (.sl (.st 137))
  | 27 => some (.st 27)
  | 28 => some (.st 27)
  | 29 => some (.st 29)
  | 30 => some (.st 29)
  | 31 => some (.sl (.st 32))
  | 32 => some (.st 32)
  | 33 => some (.st 32)
  | 34 => some (.sl (.st 29))
  | 35 => some (.sl (.st 36))
  | 36 => some (.st 36)
  | 37 => some (.st 36)
  | 42 => some (.sl (.st 162))
  | 43 => some (.sl (.st 199))
  | 44 => some (.st 24)
  | 45 => some (.st 24)
  | 46 => some (.sl (.st 137))
  | 47 => some (.st 27)
  | 48 => some (.st 27)
  | 50 => some (.st 29)
  | 51 => some (.sl (.st 32))
  | 52 => some (.st 32)
  | 53 => some (.st 32)
  | 55 => some (.sl (.st 29))
  | 56 => some (.sl (.st 36))
  | 57 => some (.st 36)
  | 58 => some (.st 36)
  | 66 => some (.sl (.st 212))
  | 67 => some (.sl (.st 215))
  | 68 => some (.st 68)
  | 69 => some (.st 68)
  | 70 => some (.sl .str)
  | 71 => some (.sl (.st 232))
  | 72 => some (.st 72)
  | 73 => some (.st 72)
  | 74 => some (.st 74)
  | 75 => some (.st 74)
  | 78 => some (.sl (.st 212))
  | 79 => some (.sl (.st 215))
  | 80 => some (.st 68)
  | 81 => some (.st 68)
  | 82 => some (.sl (.st 232))
  | 83 => some (.st 72)
  | 84 => some (.st 72)
  | 85 => some (.st 74)
  | 86 => some (.st 74)
  | 94 => some (.sl (.st 160))
  | 95 => some (.st 95)
  | 96 => some (.st 95)
  | 99 => some (.sl (.st 160))
  | 100 => some (.st 95)
  | 101 => some (.st 95)
  | 114 => some (.ptr (.st 27))
  | 115 => some (.ptr (.st 32))
  | 116 => some (.ptr (.st 36))
  | 137 => some (.st 137)
  | 138 => some (.st 137)
  | 160 => some (.st 160)
  | 161 => some (.st 160)
  | 162 => some (.st 162)
  | 163 => some (.st 162)
  | 169 => some (.st 162)
  | 170 => some (.st 162)
  | 173 => some (.st 137)
  | 174 => some (.st 137)
  | 177 => some (.ptr (.st 24))
  | 185 => some (.sl (.int .i64))
  | 186 => some (.st 186)
  | 187 => some (.st 186)
  | 197 => some (.ptr (.st 137))
  | 199 => some (.st 199)
  | 200 => some (.st 199)
  | 212 => some (.st 212)
  | 213 => some (.st 212)
  | 215 => some (.st 215)
  | 216 => some (.st 215)
  | 218 => some (.ptr (.st 72))
  | 232 => some (.st 232)
  | 233 => some (.st 232)
  | 251 => some (.sl (.int .u8))
  | 253 => some (.st 160)
  | 254 => some (.st 160)
  | 260 => some (.st 199)
  | 261 => some (.st 199)
  | 272 => some (.ptr (.st 199))
  | 276 => some (.st 212)
  | 278 => some (.st 215)
  | 280 => some (.st 232)
  | 305 => some (.sl (.sl (.st 29)))
  | 309 => some (.sl (.sl .str))
  | 312 => some (.int .u64)
  | 318 => some (.int .i64)
  | 325 => some (.int .u32)
  | 327 => some (.int .u64)
  | 328 => some (.int .u64)
  | 344 => some (.int .u8)
  | 345 => some (.int .u8)
  | 348 => some (.int .i32)
  | 349 => some (.int .i32)
  | _ => none

def sel : Ty → TypeId
  | (.int .i64) => 2
  | (.int .u8) => 5
  | (.sl (.st 29)) => 55
  | (.sl .str) => 70
  | (.st 137) => 138
  | (.st 160) => 161
  | (.st 162) => 163
  | (.st 199) => 200
  | (.st 212) => 213
  | (.st 215) => 216
  | (.st 232) => 233
  | (.st 29) => 50
  | (.st 32) => 53
  | (.st 36) => 58
  | .str => 9
  | _ => 0

def sfl : Nat → Bool
  | 7 => true
  | 13 => true
  | 24 => false
  | 27 => false
  | 29 => true
  | 32 => false
  | 36 => false
  | 68 => false
  | 72 => false
  | 74 => false
  | 95 => false
  | 137 => false
  | 160 => false
  | 162 => true
  | 186 => false
  | 199 => false
  | 212 => false
  | 215 => false
  | 232 => false
  | _ => false

def GG : Sig where
  S := SS
  csz := scsz
  cells := scells
  make := smake
  tyOf := stys
  el := sel
  fl := sfl

theorem TRuntime_boundsError.ok : SOk GG 7 TRuntime_boundsError.ts TRuntime_boundsError.to TRuntime_boundsError.of := ⟨rfl, fun _ => rfl, fun _ => rfl, rfl, fun _ => rfl, rfl⟩

theorem TRuntime_errorAddressString.ok : SOk GG 13 TRuntime_errorAddressString.ts TRuntime_errorAddressString.to TRuntime_errorAddressString.of := ⟨rfl, fun _ => rfl, fun _ => rfl, rfl, fun _ => rfl, rfl⟩

theorem THeap.ok : SOk GG 24 THeap.ts THeap.to THeap.of := ⟨rfl, fun _ => rfl, fun _ => rfl, rfl, fun _ => rfl, rfl⟩

theorem TGenScope.ok : SOk GG 27 TGenScope.ts TGenScope.to TGenScope.of := ⟨rfl, fun _ => rfl, fun _ => rfl, rfl, fun _ => rfl, rfl⟩

theorem TValue.ok : SOk GG 29 TValue.ts TValue.to TValue.of := ⟨rfl, fun _ => rfl, fun _ => rfl, rfl, fun _ => rfl, rfl⟩

theorem TGen.ok : SOk GG 32 TGen.ts TGen.to TGen.of := ⟨rfl, fun _ => rfl, fun _ => rfl, rfl, fun _ => rfl, rfl⟩

theorem TCursor.ok : SOk GG 36 TCursor.ts TCursor.to TCursor.of := ⟨rfl, fun _ => rfl, fun _ => rfl, rfl, fun _ => rfl, rfl⟩

theorem TScope.ok : SOk GG 68 TScope.ts TScope.to TScope.of := ⟨rfl, fun _ => rfl, fun _ => rfl, rfl, fun _ => rfl, rfl⟩

theorem TConsole.ok : SOk GG 72 TConsole.ts TConsole.to TConsole.of := ⟨rfl, fun _ => rfl, fun _ => rfl, rfl, fun _ => rfl, rfl⟩

theorem TMemory.ok : SOk GG 74 TMemory.ts TMemory.to TMemory.of := ⟨rfl, fun _ => rfl, fun _ => rfl, rfl, fun _ => rfl, rfl⟩

theorem TMachine.ok : SOk GG 95 TMachine.ts TMachine.to TMachine.of := ⟨rfl, fun _ => rfl, fun _ => rfl, rfl, fun _ => rfl, rfl⟩

theorem TCoexpr.ok : SOk GG 137 TCoexpr.ts TCoexpr.to TCoexpr.of := ⟨rfl, fun _ => rfl, fun _ => rfl, rfl, fun _ => rfl, rfl⟩

theorem TCallFrame.ok : SOk GG 160 TCallFrame.ts TCallFrame.to TCallFrame.of := ⟨rfl, fun _ => rfl, fun _ => rfl, rfl, fun _ => rfl, rfl⟩

theorem TBinding.ok : SOk GG 162 TBinding.ts TBinding.to TBinding.of := ⟨rfl, fun _ => rfl, fun _ => rfl, rfl, fun _ => rfl, rfl⟩

theorem TCursorForm.ok : SOk GG 186 TCursorForm.ts TCursorForm.to TCursorForm.of := ⟨rfl, fun _ => rfl, fun _ => rfl, rfl, fun _ => rfl, rfl⟩

theorem TObject.ok : SOk GG 199 TObject.ts TObject.to TObject.of := ⟨rfl, fun _ => rfl, fun _ => rfl, rfl, fun _ => rfl, rfl⟩

theorem TFunction.ok : SOk GG 212 TFunction.ts TFunction.to TFunction.of := ⟨rfl, fun _ => rfl, fun _ => rfl, rfl, fun _ => rfl, rfl⟩

theorem TRecordType.ok : SOk GG 215 TRecordType.ts TRecordType.to TRecordType.of := ⟨rfl, fun _ => rfl, fun _ => rfl, rfl, fun _ => rfl, rfl⟩

theorem TFile.ok : SOk GG 232 TFile.ts TFile.to TFile.of := ⟨rfl, fun _ => rfl, fun _ => rfl, rfl, fun _ => rfl, rfl⟩

def TRuntime_boundsError.re (x : TRuntime_boundsError) : TRuntime_boundsError := TRuntime_boundsError.mk x.fX x.fY x.fSigned x.fCode

@[simp] theorem TRuntime_boundsError.re_eq (x : TRuntime_boundsError) : x.re = x := by cases x; rfl

theorem TRuntime_boundsError.eta (x : TRuntime_boundsError) : TRuntime_boundsError.mk x.fX x.fY x.fSigned x.fCode = x := by cases x; rfl

def TRuntime_errorAddressString.re (x : TRuntime_errorAddressString) : TRuntime_errorAddressString := TRuntime_errorAddressString.mk x.fMsg x.fAddr

@[simp] theorem TRuntime_errorAddressString.re_eq (x : TRuntime_errorAddressString) : x.re = x := by cases x; rfl

theorem TRuntime_errorAddressString.eta (x : TRuntime_errorAddressString) : TRuntime_errorAddressString.mk x.fMsg x.fAddr = x := by cases x; rfl

def THeap.re (x : THeap) : THeap := THeap.mk x.fNext x.fObjects

@[simp] theorem THeap.re_eq (x : THeap) : x.re = x := by cases x; rfl

theorem THeap.eta (x : THeap) : THeap.mk x.fNext x.fObjects = x := by cases x; rfl

def TGenScope.re (x : TGenScope) : TGenScope := TGenScope.mk x.fVars x.fHeap x.fCos x.fSteps

@[simp] theorem TGenScope.re_eq (x : TGenScope) : x.re = x := by cases x; rfl

theorem TGenScope.eta (x : TGenScope) : TGenScope.mk x.fVars x.fHeap x.fCos x.fSteps = x := by cases x; rfl

def TValue.re (x : TValue) : TValue := TValue.mk x.fKind x.fNum x.fText x.fRef

@[simp] theorem TValue.re_eq (x : TValue) : x.re = x := by cases x; rfl

theorem TValue.eta (x : TValue) : TValue.mk x.fKind x.fNum x.fText x.fRef = x := by cases x; rfl

def TGen.re (x : TGen) : TGen := TGen.mk x.fKind x.fNum x.fText x.fValue x.fKids

@[simp] theorem TGen.re_eq (x : TGen) : x.re = x := by cases x; rfl

theorem TGen.eta (x : TGen) : TGen.mk x.fKind x.fNum x.fText x.fValue x.fKids = x := by cases x; rfl

def TCursor.re (x : TCursor) : TCursor := TCursor.mk x.fPhase x.fCount x.fVals x.fKids

@[simp] theorem TCursor.re_eq (x : TCursor) : x.re = x := by cases x; rfl

theorem TCursor.eta (x : TCursor) : TCursor.mk x.fPhase x.fCount x.fVals x.fKids = x := by cases x; rfl

def TScope.re (x : TScope) : TScope := TScope.mk x.fVars x.fFunctions x.fTypes

@[simp] theorem TScope.re_eq (x : TScope) : x.re = x := by cases x; rfl

theorem TScope.eta (x : TScope) : TScope.mk x.fVars x.fFunctions x.fTypes = x := by cases x; rfl

def TConsole.re (x : TConsole) : TConsole := TConsole.mk x.fInput x.fAt x.fOutput x.fFiles x.fTrace

@[simp] theorem TConsole.re_eq (x : TConsole) : x.re = x := by cases x; rfl

theorem TConsole.eta (x : TConsole) : TConsole.mk x.fInput x.fAt x.fOutput x.fFiles x.fTrace = x := by cases x; rfl

def TMemory.re (x : TMemory) : TMemory := TMemory.mk x.fHeap x.fScope x.fConsole

@[simp] theorem TMemory.re_eq (x : TMemory) : x.re = x := by cases x; rfl

theorem TMemory.eta (x : TMemory) : TMemory.mk x.fHeap x.fScope x.fConsole = x := by cases x; rfl

def TMachine.re (x : TMachine) : TMachine := TMachine.mk x.fStatus x.fCode x.fMemory x.fStack x.fFrames x.fPC x.fBase x.fAt x.fSteps x.fFuel

@[simp] theorem TMachine.re_eq (x : TMachine) : x.re = x := by cases x; rfl

theorem TMachine.eta (x : TMachine) : TMachine.mk x.fStatus x.fCode x.fMemory x.fStack x.fFrames x.fPC x.fBase x.fAt x.fSteps x.fFuel = x := by cases x; rfl

def TCoexpr.re (x : TCoexpr) : TCoexpr := TCoexpr.mk x.fId x.fBody x.fStart x.fVars x.fCursor x.fCount x.fDone

@[simp] theorem TCoexpr.re_eq (x : TCoexpr) : x.re = x := by cases x; rfl

theorem TCoexpr.eta (x : TCoexpr) : TCoexpr.mk x.fId x.fBody x.fStart x.fVars x.fCursor x.fCount x.fDone = x := by cases x; rfl

def TCallFrame.re (x : TCallFrame) : TCallFrame := TCallFrame.mk x.fName x.fSaved x.fPC x.fBase x.fAt

@[simp] theorem TCallFrame.re_eq (x : TCallFrame) : x.re = x := by cases x; rfl

theorem TCallFrame.eta (x : TCallFrame) : TCallFrame.mk x.fName x.fSaved x.fPC x.fBase x.fAt = x := by cases x; rfl

def TBinding.re (x : TBinding) : TBinding := TBinding.mk x.fName x.fValue

@[simp] theorem TBinding.re_eq (x : TBinding) : x.re = x := by cases x; rfl

theorem TBinding.eta (x : TBinding) : TBinding.mk x.fName x.fValue = x := by cases x; rfl

def TCursorForm.re (x : TCursorForm) : TCursorForm := TCursorForm.mk x.fPhases x.fCounts x.fVals x.fKids

@[simp] theorem TCursorForm.re_eq (x : TCursorForm) : x.re = x := by cases x; rfl

theorem TCursorForm.eta (x : TCursorForm) : TCursorForm.mk x.fPhases x.fCounts x.fVals x.fKids = x := by cases x; rfl

def TObject.re (x : TObject) : TObject := TObject.mk x.fId x.fKind x.fName x.fLow x.fKeys x.fVals x.fDefault

@[simp] theorem TObject.re_eq (x : TObject) : x.re = x := by cases x; rfl

theorem TObject.eta (x : TObject) : TObject.mk x.fId x.fKind x.fName x.fLow x.fKeys x.fVals x.fDefault = x := by cases x; rfl

def TFunction.re (x : TFunction) : TFunction := TFunction.mk x.fName x.fParams x.fLocals x.fLabel

@[simp] theorem TFunction.re_eq (x : TFunction) : x.re = x := by cases x; rfl

theorem TFunction.eta (x : TFunction) : TFunction.mk x.fName x.fParams x.fLocals x.fLabel = x := by cases x; rfl

def TRecordType.re (x : TRecordType) : TRecordType := TRecordType.mk x.fName x.fFields

@[simp] theorem TRecordType.re_eq (x : TRecordType) : x.re = x := by cases x; rfl

theorem TRecordType.eta (x : TRecordType) : TRecordType.mk x.fName x.fFields = x := by cases x; rfl

def TFile.re (x : TFile) : TFile := TFile.mk x.fName x.fLines x.fMode x.fAt

@[simp] theorem TFile.re_eq (x : TFile) : x.re = x := by cases x; rfl

theorem TFile.eta (x : TFile) : TFile.mk x.fName x.fLines x.fMode x.fAt = x := by cases x; rfl

theorem SS_empty {n : Nat} (h7 : ¬ n = 7) (h13 : ¬ n = 13) (h24 : ¬ n = 24) (h27 : ¬ n = 27) (h29 : ¬ n = 29) (h32 : ¬ n = 32) (h36 : ¬ n = 36) (h68 : ¬ n = 68) (h72 : ¬ n = 72) (h74 : ¬ n = 74) (h95 : ¬ n = 95) (h137 : ¬ n = 137) (h160 : ¬ n = 160) (h162 : ¬ n = 162) (h186 : ¬ n = 186) (h199 : ¬ n = 199) (h212 : ¬ n = 212) (h215 : ¬ n = 215) (h232 : ¬ n = 232) : SS n = Empty := by
  unfold SS
  split <;> first | rfl | (exfalso; omega)

theorem GG.law (n : Nat) : SLaw GG n := by
  by_cases h7 : n = 7
  · subst h7; exact TRuntime_boundsError.ok.law
  by_cases h13 : n = 13
  · subst h13; exact TRuntime_errorAddressString.ok.law
  by_cases h24 : n = 24
  · subst h24; exact THeap.ok.law
  by_cases h27 : n = 27
  · subst h27; exact TGenScope.ok.law
  by_cases h29 : n = 29
  · subst h29; exact TValue.ok.law
  by_cases h32 : n = 32
  · subst h32; exact TGen.ok.law
  by_cases h36 : n = 36
  · subst h36; exact TCursor.ok.law
  by_cases h68 : n = 68
  · subst h68; exact TScope.ok.law
  by_cases h72 : n = 72
  · subst h72; exact TConsole.ok.law
  by_cases h74 : n = 74
  · subst h74; exact TMemory.ok.law
  by_cases h95 : n = 95
  · subst h95; exact TMachine.ok.law
  by_cases h137 : n = 137
  · subst h137; exact TCoexpr.ok.law
  by_cases h160 : n = 160
  · subst h160; exact TCallFrame.ok.law
  by_cases h162 : n = 162
  · subst h162; exact TBinding.ok.law
  by_cases h186 : n = 186
  · subst h186; exact TCursorForm.ok.law
  by_cases h199 : n = 199
  · subst h199; exact TObject.ok.law
  by_cases h212 : n = 212
  · subst h212; exact TFunction.ok.law
  by_cases h215 : n = 215
  · subst h215; exact TRecordType.ok.law
  by_cases h232 : n = 232
  · subst h232; exact TFile.ok.law
  exact .empty fun x => (cast (SS_empty h7 h13 h24 h27 h29 h32 h36 h68 h72 h74 h95 h137 h160 h162 h186 h199 h212 h215 h232) x).elim

theorem GG.ok : SigOk GG := sigOk_of GG.law

noncomputable def OO : Opn GG where
  P := Tryz.prog
  tab := [(2, (.int .i64)), (3, (.int .i64)), (4, .bool), (5, (.int .u8)), (6, (.int .u8)), (7, (.st 7)), (8, (.st 7)), (9, .str), (10, .str), (11, .str), (12, (.int .u64)), (13, (.st 13)), (14, (.st 13)), (21, (.int .i32)), (22, (.sl (.st 162))), (23, (.sl (.st 199))), (24, (.st 24)), (25, (.st 24)), (26, (.sl (.st 137))), (27, (.st 27)), (28, (.st 27)), (29, (.st 29)), (30, (.st 29)), (31, (.sl (.st 32))), (32, (.st 32)), (33, (.st 32)), (34, (.sl (.st 29))), (35, (.sl (.st 36))), (36, (.st 36)), (37, (.st 36)), (42, (.sl (.st 162))), (43, (.sl (.st 199))), (44, (.st 24)), (45, (.st 24)), (46, (.sl (.st 137))), (47, (.st 27)), (48, (.st 27)), (50, (.st 29)), (51, (.sl (.st 32))), (52, (.st 32)), (53, (.st 32)), (55, (.sl (.st 29))), (56, (.sl (.st 36))), (57, (.st 36)), (58, (.st 36)), (66, (.sl (.st 212))), (67, (.sl (.st 215))), (68, (.st 68)), (69, (.st 68)), (70, (.sl .str)), (71, (.sl (.st 232))), (72, (.st 72)), (73, (.st 72)), (74, (.st 74)), (75, (.st 74)), (78, (.sl (.st 212))), (79, (.sl (.st 215))), (80, (.st 68)), (81, (.st 68)), (82, (.sl (.st 232))), (83, (.st 72)), (84, (.st 72)), (85, (.st 74)), (86, (.st 74)), (94, (.sl (.st 160))), (95, (.st 95)), (96, (.st 95)), (99, (.sl (.st 160))), (100, (.st 95)), (101, (.st 95)), (137, (.st 137)), (138, (.st 137)), (160, (.st 160)), (161, (.st 160)), (162, (.st 162)), (163, (.st 162)), (169, (.st 162)), (170, (.st 162)), (173, (.st 137)), (174, (.st 137)), (185, (.sl (.int .i64))), (186, (.st 186)), (187, (.st 186)), (199, (.st 199)), (200, (.st 199)), (212, (.st 212)), (213, (.st 212)), (215, (.st 215)), (216, (.st 215)), (232, (.st 232)), (233, (.st 232)), (251, (.sl (.int .u8))), (253, (.st 160)), (254, (.st 160)), (260, (.st 199)), (261, (.st 199)), (276, (.st 212)), (278, (.st 215)), (280, (.st 232)), (305, (.sl (.sl (.st 29)))), (309, (.sl (.sl .str))), (312, (.int .u64)), (318, (.int .i64)), (325, (.int .u32)), (327, (.int .u64)), (328, (.int .u64)), (344, (.int .u8)), (345, (.int .u8)), (348, (.int .i32)), (349, (.int .i32))]
  cty := scty

theorem OO.tot (n : Nat) (vs : List (V SS)) (h : Leaves GG (scty n) vs) : ∃ x, smake n vs = some x ∧ scells n x = vs := by
  by_cases h7 : n = 7
  · subst h7; exact TRuntime_boundsError.ok.tot h
  by_cases h13 : n = 13
  · subst h13; exact TRuntime_errorAddressString.ok.tot h
  by_cases h24 : n = 24
  · subst h24; exact THeap.ok.tot h
  by_cases h27 : n = 27
  · subst h27; exact TGenScope.ok.tot h
  by_cases h29 : n = 29
  · subst h29; exact TValue.ok.tot h
  by_cases h32 : n = 32
  · subst h32; exact TGen.ok.tot h
  by_cases h36 : n = 36
  · subst h36; exact TCursor.ok.tot h
  by_cases h68 : n = 68
  · subst h68; exact TScope.ok.tot h
  by_cases h72 : n = 72
  · subst h72; exact TConsole.ok.tot h
  by_cases h74 : n = 74
  · subst h74; exact TMemory.ok.tot h
  by_cases h95 : n = 95
  · subst h95; exact TMachine.ok.tot h
  by_cases h137 : n = 137
  · subst h137; exact TCoexpr.ok.tot h
  by_cases h160 : n = 160
  · subst h160; exact TCallFrame.ok.tot h
  by_cases h162 : n = 162
  · subst h162; exact TBinding.ok.tot h
  by_cases h186 : n = 186
  · subst h186; exact TCursorForm.ok.tot h
  by_cases h199 : n = 199
  · subst h199; exact TObject.ok.tot h
  by_cases h212 : n = 212
  · subst h212; exact TFunction.ok.tot h
  by_cases h215 : n = 215
  · subst h215; exact TRecordType.ok.tot h
  by_cases h232 : n = 232
  · subst h232; exact TFile.ok.tot h
  exfalso
  have e : scty n = [.st n] := by
    unfold scty
    split <;> first | rfl | (exfalso; omega)
  rw [e] at h
  obtain ⟨x⟩ := leaves_st h
  exact (cast (SS_empty h7 h13 h24 h27 h29 h32 h36 h68 h72 h74 h95 h137 h160 h162 h186 h199 h212 h215 h232) x : Empty).elim

theorem OO.ok : OpnOk OO := ⟨by kernel_rfl, OO.tot⟩

def cut20 : Nat → Option (List (Nat × Option Ty))
  | 2 => some []
  | 3 => some [(1, none)]
  | 4 => some [(1, none), (3, none)]
  | _ => none

def cut28 : Nat → Option (List (Nat × Option Ty))
  | 4 => some [(0, none), (1, none), (5, none)]
  | _ => none




def cut38 : Nat → Option (List (Nat × Option Ty))
  | 5 => some [(0, none), (1, none), (5, none)]
  | _ => none

def cut40 : Nat → Option (List (Nat × Option Ty))
  | 5 => some [(0, none), (1, none), (5, none)]
  | _ => none

def cut42 : Nat → Option (List (Nat × Option Ty))
  | 5 => some [(0, none), (1, none), (5, none)]
  | _ => none

def cut43 : Nat → Option (List (Nat × Option Ty))
  | 5 => some [(0, none), (1, none), (5, none)]
  | _ => none

def cut44 : Nat → Option (List (Nat × Option Ty))
  | 5 => some [(0, none), (1, none), (5, none)]
  | _ => none

def cut46 : Nat → Option (List (Nat × Option Ty))
  | 3 => some [(0, none), (3, none), (4, none)]
  | _ => none

def cut48 : Nat → Option (List (Nat × Option Ty))
  | 3 => some [(0, none), (3, none), (4, none)]
  | _ => none

def cut50 : Nat → Option (List (Nat × Option Ty))
  | 3 => some [(0, none), (3, none), (4, none)]
  | _ => none

def cut51 : Nat → Option (List (Nat × Option Ty))
  | 3 => some [(0, none), (3, none), (4, none)]
  | _ => none

def cut52 : Nat → Option (List (Nat × Option Ty))
  | 3 => some [(0, none), (3, none), (4, none)]
  | _ => none

def cut56 : Nat → Option (List (Nat × Option Ty))
  | 8 => some [(3, none), (5, none), (62, none), (63, none), (64, none)]
  | 6 => some []
  | 7 => some [(3, none), (5, none), (7, none)]
  | _ => none

def cut57 : Nat → Option (List (Nat × Option Ty))
  | 4 => some [(0, none), (1, none), (5, none)]
  | _ => none

def cut59 : Nat → Option (List (Nat × Option Ty))
  | 4 => some [(0, none), (1, none), (5, none)]
  | _ => none

def cut61 : Nat → Option (List (Nat × Option Ty))
  | 4 => some [(0, none), (1, none), (5, none)]
  | _ => none

def cut62 : Nat → Option (List (Nat × Option Ty))
  | 4 => some [(0, none), (1, none), (5, none)]
  | _ => none

def cut63 : Nat → Option (List (Nat × Option Ty))
  | 2 => some []
  | 3 => some [(0, none)]
  | 4 => some [(0, none), (3, none)]
  | 5 => some [(0, none), (3, none)]
  | 7 => some []
  | _ => none

def cut64 : Nat → Option (List (Nat × Option Ty))
  | 2 => some []
  | 3 => some [(1, none)]
  | 5 => some [(1, none), (3, none), (23, none), (24, none), (25, none)]
  | _ => none

def cut66 : Nat → Option (List (Nat × Option Ty))
  | 2 => some [(1, none), (7, none), (8, none), (9, none)]
  | _ => none

def cut67 : Nat → Option (List (Nat × Option Ty))
  | 2 => some [(2, none), (3, none), (5, none)]
  | 3 => some []
  | 4 => some [(2, none), (3, none)]
  | _ => none






def cut80 : Nat → Option (List (Nat × Option Ty))
  | 2 => some [(1, none), (7, none), (8, none), (9, none)]
  | _ => none












def cut98 : Nat → Option (List (Nat × Option Ty))
  | 5 => some [(0, none), (1, none), (5, none)]
  | _ => none

def cut101 : Nat → Option (List (Nat × Option Ty))
  | 4 => some [(0, none), (1, none), (5, none)]
  | _ => none

def cut103 : Nat → Option (List (Nat × Option Ty))
  | 2 => some []
  | 3 => some [(0, none), (1, none), (2, none)]
  | 10 => some [(2, none)]
  | 11 => some [(0, none), (1, none), (2, none), (34, none)]
  | 18 => some [(0, none), (1, none), (2, none), (7, none)]
  | _ => none

def cut105 : Nat → Option (List (Nat × Option Ty))
  | 3 => some [(0, none), (3, none), (4, none)]
  | _ => none

def cut107 : Nat → Option (List (Nat × Option Ty))
  | 5 => some [(1, none), (17, none), (18, none), (19, none)]
  | _ => none

def cut108 : Nat → Option (List (Nat × Option Ty))
  | 2 => some [(1, none), (7, none), (8, none), (9, none)]
  | _ => none

def cut109 : Nat → Option (List (Nat × Option Ty))
  | 9 => some [(4, none), (5, none)]
  | 10 => some [(1, none), (2, none), (4, none), (5, none), (8, none)]
  | _ => none

def cut113 : Nat → Option (List (Nat × Option Ty))
  | 4 => some [(0, none), (1, none), (5, none)]
  | _ => none

def cut115 : Nat → Option (List (Nat × Option Ty))
  | 8 => some []
  | 10 => some [(0, none), (5, none)]
  | 4 => some [(0, none), (3, none)]
  | 5 => some [(0, none), (3, none)]
  | _ => none

def cut116 : Nat → Option (List (Nat × Option Ty))
  | 4 => some [(0, none), (1, none), (5, none)]
  | 5 => some [(0, none), (1, none), (5, none)]
  | 7 => some []
  | _ => none

def cut118 : Nat → Option (List (Nat × Option Ty))
  | 2 => some []
  | 3 => some [(0, none), (1, none)]
  | _ => none

def cut119 : Nat → Option (List (Nat × Option Ty))
  | 2 => some [(1, none), (7, none), (8, none), (9, none)]
  | _ => none

def cut120 : Nat → Option (List (Nat × Option Ty))
  | 8 => some [(1, none), (3, none)]
  | 2 => some []
  | 3 => some [(1, none)]
  | 12 => some [(1, none), (5, none)]
  | _ => none

def cut123 : Nat → Option (List (Nat × Option Ty))
  | 2 => some [(0, none), (1, none), (5, none)]
  | _ => none

def cut125 : Nat → Option (List (Nat × Option Ty))
  | 2 => some [(1, none), (7, none), (8, none), (9, none)]
  | _ => none





def cut133 : Nat → Option (List (Nat × Option Ty))
  | 11 => some [(1, none)]
  | 12 => some [(1, none), (4, none)]
  | _ => none















def cut158 : Nat → Option (List (Nat × Option Ty))
  | 11 => some [(1, none)]
  | 12 => some [(1, none), (4, none)]
  | _ => none













def cut181 : Nat → Option (List (Nat × Option Ty))
  | 5 => some [(0, none), (3, none), (4, none)]
  | _ => none

def cut185 : Nat → Option (List (Nat × Option Ty))
  | 2 => some [(0, none), (1, none), (5, none)]
  | _ => none

def cut187 : Nat → Option (List (Nat × Option Ty))
  | 8 => some [(1, none), (3, none), (5, none)]
  | 9 => some [(1, none), (3, none), (4, none), (5, none), (17, none)]
  | 13 => some [(1, none), (3, none), (4, none), (5, none)]
  | _ => none

def cut189 : Nat → Option (List (Nat × Option Ty))
  | 2 => some [(0, none), (1, none), (7, none), (8, none)]
  | _ => none

def cut194 : Nat → Option (List (Nat × Option Ty))
  | 2 => some [(0, none), (5, none), (6, none), (7, none)]
  | _ => none

def cut197 : Nat → Option (List (Nat × Option Ty))
  | 11 => some [(6, none), (25, none), (26, none), (27, none)]
  | 3 => some [(0, none), (3, none), (9, none), (10, none), (11, none)]
  | _ => none

def cut202 : Nat → Option (List (Nat × Option Ty))
  | 3 => some [(0, none), (1, none)]
  | 4 => some [(0, none), (1, none)]
  | 5 => some [(1, none)]
  | _ => none






def cut215 : Nat → Option (List (Nat × Option Ty))
  | 3 => some [(0, none), (1, none), (2, none), (8, none), (9, none), (10, none)]
  | _ => none





def cut225 : Nat → Option (List (Nat × Option Ty))
  | 12 => some [(0, none)]
  | 13 => some [(0, none), (53, none)]
  | 4 => some []
  | 5 => some [(0, none)]
  | _ => none

def cut227 : Nat → Option (List (Nat × Option Ty))
  | 2 => some [(0, none), (1, none), (5, none)]
  | _ => none

def cut229 : Nat → Option (List (Nat × Option Ty))
  | 9 => some []
  | 10 => some [(3, none)]
  | 15 => some []
  | 16 => some [(3, none)]
  | 19 => some []
  | 20 => some []
  | _ => none

def cut231 : Nat → Option (List (Nat × Option Ty))
  | 17 => some []
  | 18 => some []
  | _ => none

def cut232 : Nat → Option (List (Nat × Option Ty))
  | 7 => some []
  | 8 => some [(3, none)]
  | 11 => some []
  | 12 => some [(3, none)]
  | 15 => some []
  | 16 => some []
  | _ => none

def cut233 : Nat → Option (List (Nat × Option Ty))
  | 4 => some [(0, none), (5, none)]
  | _ => none

def cut234 : Nat → Option (List (Nat × Option Ty))
  | 2 => some [(0, none), (3, none)]
  | 5 => some [(0, none), (3, none), (4, none)]
  | _ => none

def cut235 : Nat → Option (List (Nat × Option Ty))
  | 2 => some [(0, none), (3, none)]
  | _ => none

def cut239 : Nat → Option (List (Nat × Option Ty))
  | 2 => some [(1, none), (7, none), (8, none), (9, none)]
  | _ => none





def cut250 : Nat → Option (List (Nat × Option Ty))
  | 2 => some [(0, none), (1, none), (5, none)]
  | _ => none

def cut253 : Nat → Option (List (Nat × Option Ty))
  | 2 => some [(0, none), (3, none), (7, none), (8, none)]
  | _ => none













def cutT : FuncId → Nat → Option (List (Nat × Option Ty))
  | 20 => cut20
  | 28 => cut28
  | 38 => cut38
  | 40 => cut40
  | 42 => cut42
  | 43 => cut43
  | 44 => cut44
  | 46 => cut46
  | 48 => cut48
  | 50 => cut50
  | 51 => cut51
  | 52 => cut52
  | 56 => cut56
  | 57 => cut57
  | 59 => cut59
  | 61 => cut61
  | 62 => cut62
  | 63 => cut63
  | 64 => cut64
  | 66 => cut66
  | 67 => cut67
  | 80 => cut80
  | 98 => cut98
  | 101 => cut101
  | 103 => cut103
  | 105 => cut105
  | 107 => cut107
  | 108 => cut108
  | 109 => cut109
  | 113 => cut113
  | 115 => cut115
  | 116 => cut116
  | 118 => cut118
  | 119 => cut119
  | 120 => cut120
  | 123 => cut123
  | 125 => cut125
  | 133 => cut133
  | 158 => cut158
  | 181 => cut181
  | 185 => cut185
  | 187 => cut187
  | 189 => cut189
  | 194 => cut194
  | 197 => cut197
  | 202 => cut202
  | 215 => cut215
  | 225 => cut225
  | 227 => cut227
  | 229 => cut229
  | 231 => cut231
  | 232 => cut232
  | 233 => cut233
  | 234 => cut234
  | 235 => cut235
  | 239 => cut239
  | 250 => cut250
  | 253 => cut253
  | _ => fun _ => none

def ownT : FuncId → Option (TypeId × (List (V GG.S) → Option (List (List UInt8))))
  | 212 => some (9, cloneV)
  | 246 => some (9, growV)
  | _ => none

def grwT : FuncId → Option (TypeId × Ty)
  | 241 => some (50, (.st 29))
  | _ => none

def eatT : FuncId → Option (TypeId × (List (List UInt8) → Option (List (List UInt8))))
  | 211 => some (9, sortS)
  | _ => none

noncomputable def CC : Cfg GG where
  P := Tryz.prog
  refs := fun f => [270, 271, 272, 274].contains f
  ext := fun _ => none
  cut := cutT
  glob := fun _ => none
  gint := fun _ => false
  gerr := fun _ => false
  pint := fun _ => none
  cln := fun _ => none
  gtab := fun _ => none
  own := U.ownT
  bld := fun _ => none
  ctor := fun _ => none
  eat := U.eatT
  trE := fun e => [45, 48, 53, 58, 81, 84, 86, 101, 138, 161, 187, 200, 213, 216, 233].contains e
  ownR := fun f => [12, 13, 14, 23, 27, 34, 35, 46, 47, 48, 50, 51, 52, 75, 76, 77, 81, 85, 86, 92, 93, 105, 106, 122, 139, 140, 141, 142, 166, 167, 168, 169, 170, 171, 176, 186, 197, 207, 208, 209].contains f
  eatR := fun f => [166, 167, 168, 169, 170, 171].contains f
  wrf := fun f => [29, 30, 37, 87, 88, 89, 95, 96, 172, 173, 174, 178, 179, 221, 222, 223, 224].contains f
  grw := U.grwT

end Go.Dv.U
