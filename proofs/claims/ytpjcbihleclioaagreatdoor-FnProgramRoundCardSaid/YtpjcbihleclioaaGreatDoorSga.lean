/- The types of this program and the uB where its loops are cut. -/
import Derived.Test.YtpjcbihleclioaaGreatDoorDvc
import Derived.Test.YtpjcbihleclioaaGreatDoorChecked
set_option linter.all false
set_option linter.unusedVariables false
set_option linter.unusedSimpArgs false
namespace Go.Dv.U

open Go Go.Dv Go.Proofs

set_option maxRecDepth 100000

structure al where
  fX:Int
  fY:Int
  fSigned:Bool
  fCode:Int

structure ai where
  fMsg:(List UInt8)
  fAddr:Int

structure ab where
  fKind:Int
  fNum:Int
  fText:(List UInt8)
  fKids:(List ab)

structure az where
  fAlways:(List UInt8)
  fSuccess:(List UInt8)
  fFailure:(List UInt8)

structure aa where
  fLabel:(List UInt8)
  fHasSubject:Bool
  fSubject:ab
  fHasPattern:Bool
  fPattern:ab
  fHasReplace:Bool
  fReplace:ab
  fGoto:az

structure ak where
  fStatements:(List aa)

structure ae where
  fKind:Int
  fNum:Int
  fText:(List UInt8)
  fBefore:Bool
  fAfter:Bool

structure b0 where
  fTokens:(List ae)
  fAt:Int

structure aP where
  fNumber:Int
  fText:(List UInt8)

structure aB where
  fName:(List UInt8)
  fLines:(List (List UInt8))
  fInput:(List (List UInt8))
  fOutput:(List (List UInt8))

structure b5 where
  fName:(List UInt8)
  fSource:(List (List UInt8))
  fInput:(List (List UInt8))
  fOutput:(List (List UInt8))

structure aE where
  fCode:(List Int)
  fAt:Int
  fSeed:Int

structure ax where
  fTokens:(List ae)
  fAt:Int
  fCode:Int

structure ay where
  fTokens:(List ae)
  fAt:Int
  fArgs:Bool
  fCode:Int

structure aq where
  fLo:Int
  fHi:Int

structure am where
  fS:(List UInt8)

structure bF where
  fKind:Int
  fNum:Int
  fText:(List UInt8)
  fRef:Int

structure bz where
  fId:Int
  fKind:Int
  fName:(List UInt8)
  fLow:Int
  fKeys:(List bF)
  fVals:(List bF)
  fDefault:bF

structure dZ where
  fNext:Int
  fObjects:(List bz)

structure aY where
  fName:(List UInt8)
  fValue:bF

structure aO where
  fName:(List UInt8)
  fParams:(List (List UInt8))
  fLocals:(List (List UInt8))
  fLabel:(List UInt8)

structure aD where
  fName:(List UInt8)
  fFields:(List (List UInt8))

structure b9 where
  fVars:(List aY)
  fFunctions:(List aO)
  fTypes:(List aD)

structure eh where
  fName:(List UInt8)
  fLines:(List (List UInt8))
  fMode:Int
  fAt:Int

structure aW where
  fInput:(List (List UInt8))
  fAt:Int
  fOutput:(List (List UInt8))
  fFiles:(List eh)
  fTrace:(List (List UInt8))

structure bq where
  fHeap:dZ
  fScope:b9
  fConsole:aW

structure bc where
  fMemory:bq
  fAt:Int
  fSteps:Int
  fCode:Int

def SS : Nat->Type
  | 7=>al
  | 13=>ai
  | 25=>ab
  | 27=>az
  | 29=>aa
  | 40=>ak
  | 61=>b0
  | 77=>aP
  | 82=>aB
  | 87=>b5
  | 93=>aE
  | 107=>ae
  | 152=>ax
  | 220=>ay
  | 230=>aq
  | 237=>am
  | 257=>dZ
  | 262=>b9
  | 265=>aW
  | 267=>bq
  | 269=>bc
  | 272=>bF
  | 274=>bz
  | 276=>aY
  | 278=>aO
  | 280=>aD
  | 282=>eh
  | _=>Empty

def al.ts : List Ty:=[(.int .i64),(.int .i64),.bool,(.int .u8)]

def al.to (x:al):eN SS al.ts:=(x.fX,x.fY,x.fSigned,x.fCode,())

def al.of (p:eN SS al.ts):al:=(⟨p.1,p.2.1,p.2.2.1,p.2.2.2.1⟩:al)

def ai.ts : List Ty:=[.str,(.int .u64)]

def ai.to (x:ai):eN SS ai.ts:=(x.fMsg,x.fAddr,())

def ai.of (p:eN SS ai.ts):ai:=(⟨p.1,p.2.1⟩:ai)

def ab.ts : List Ty:=[(.int .i64),(.int .i64),.str,(.sl (.st 25))]

def ab.to (x:ab):eN SS ab.ts:=(x.fKind,x.fNum,x.fText,x.fKids,())

def ab.of (p:eN SS ab.ts):ab:=(⟨p.1,p.2.1,p.2.2.1,p.2.2.2.1⟩:ab)

def az.ts : List Ty:=[.str,.str,.str]

def az.to (x:az):eN SS az.ts:=(x.fAlways,x.fSuccess,x.fFailure,())

def az.of (p:eN SS az.ts):az:=(⟨p.1,p.2.1,p.2.2.1⟩:az)

def aa.ts : List Ty:=[.str,.bool,(.int .i64),(.int .i64),.str,(.sl (.st 25)),.bool,(.int .i64),(.int .i64),.str,(.sl (.st 25)),.bool,(.int .i64),(.int .i64),.str,(.sl (.st 25)),.str,.str,.str]

def aa.to (x:aa):eN SS aa.ts:=(x.fLabel,x.fHasSubject,x.fSubject.fKind,x.fSubject.fNum,x.fSubject.fText,x.fSubject.fKids,x.fHasPattern,x.fPattern.fKind,x.fPattern.fNum,x.fPattern.fText,x.fPattern.fKids,x.fHasReplace,x.fReplace.fKind,x.fReplace.fNum,x.fReplace.fText,x.fReplace.fKids,x.fGoto.fAlways,x.fGoto.fSuccess,x.fGoto.fFailure,())

def aa.of (p:eN SS aa.ts):aa:=(⟨p.1,p.2.1,(⟨p.2.2.1,p.2.2.2.1,p.2.2.2.2.1,p.2.2.2.2.2.1⟩:ab),p.2.2.2.2.2.2.1,(⟨p.2.2.2.2.2.2.2.1,p.2.2.2.2.2.2.2.2.1,p.2.2.2.2.2.2.2.2.2.1,p.2.2.2.2.2.2.2.2.2.2.1⟩:ab),p.2.2.2.2.2.2.2.2.2.2.2.1,(⟨p.2.2.2.2.2.2.2.2.2.2.2.2.1,p.2.2.2.2.2.2.2.2.2.2.2.2.2.1,p.2.2.2.2.2.2.2.2.2.2.2.2.2.2.1,p.2.2.2.2.2.2.2.2.2.2.2.2.2.2.2.1⟩:ab),(⟨p.2.2.2.2.2.2.2.2.2.2.2.2.2.2.2.2.1,p.2.2.2.2.2.2.2.2.2.2.2.2.2.2.2.2.2.1,p.2.2.2.2.2.2.2.2.2.2.2.2.2.2.2.2.2.2.1⟩:az)⟩:aa)

def ak.ts : List Ty:=[(.sl (.st 29))]

def ak.to (x:ak):eN SS ak.ts:=(x.fStatements,())

def ak.of (p:eN SS ak.ts):ak:=(⟨p.1⟩:ak)

def b0.ts : List Ty:=[(.sl (.st 107)),(.int .i64)]

def b0.to (x:b0):eN SS b0.ts:=(x.fTokens,x.fAt,())

def b0.of (p:eN SS b0.ts):b0:=(⟨p.1,p.2.1⟩:b0)

def aP.ts : List Ty:=[(.int .i64),.str]

def aP.to (x:aP):eN SS aP.ts:=(x.fNumber,x.fText,())

def aP.of (p:eN SS aP.ts):aP:=(⟨p.1,p.2.1⟩:aP)

def aB.ts : List Ty:=[.str,(.sl .str),(.sl .str),(.sl .str)]

def aB.to (x:aB):eN SS aB.ts:=(x.fName,x.fLines,x.fInput,x.fOutput,())

def aB.of (p:eN SS aB.ts):aB:=(⟨p.1,p.2.1,p.2.2.1,p.2.2.2.1⟩:aB)

def b5.ts : List Ty:=[.str,(.sl .str),(.sl .str),(.sl .str)]

def b5.to (x:b5):eN SS b5.ts:=(x.fName,x.fSource,x.fInput,x.fOutput,())

def b5.of (p:eN SS b5.ts):b5:=(⟨p.1,p.2.1,p.2.2.1,p.2.2.2.1⟩:b5)

def aE.ts : List Ty:=[(.sl (.int .u8)),(.int .i64),(.int .u64)]

def aE.to (x:aE):eN SS aE.ts:=(x.fCode,x.fAt,x.fSeed,())

def aE.of (p:eN SS aE.ts):aE:=(⟨p.1,p.2.1,p.2.2.1⟩:aE)

def ae.ts : List Ty:=[(.int .i64),(.int .i64),.str,.bool,.bool]

def ae.to (x:ae):eN SS ae.ts:=(x.fKind,x.fNum,x.fText,x.fBefore,x.fAfter,())

def ae.of (p:eN SS ae.ts):ae:=(⟨p.1,p.2.1,p.2.2.1,p.2.2.2.1,p.2.2.2.2.1⟩:ae)

def ax.ts : List Ty:=[(.sl (.st 107)),(.int .i64),(.int .i64)]

def ax.to (x:ax):eN SS ax.ts:=(x.fTokens,x.fAt,x.fCode,())

def ax.of (p:eN SS ax.ts):ax:=(⟨p.1,p.2.1,p.2.2.1⟩:ax)

def ay.ts : List Ty:=[(.sl (.st 107)),(.int .i64),.bool,(.int .i64)]

def ay.to (x:ay):eN SS ay.ts:=(x.fTokens,x.fAt,x.fArgs,x.fCode,())

def ay.of (p:eN SS ay.ts):ay:=(⟨p.1,p.2.1,p.2.2.1,p.2.2.2.1⟩:ay)

def aq.ts : List Ty:=[(.int .u8),(.int .u8)]

def aq.to (x:aq):eN SS aq.ts:=(x.fLo,x.fHi,())

def aq.of (p:eN SS aq.ts):aq:=(⟨p.1,p.2.1⟩:aq)

def am.ts : List Ty:=[.str]

def am.to (x:am):eN SS am.ts:=(x.fS,())

def am.of (p:eN SS am.ts):am:=(⟨p.1⟩:am)

def dZ.ts : List Ty:=[(.int .i64),(.sl (.st 274))]

def dZ.to (x:dZ):eN SS dZ.ts:=(x.fNext,x.fObjects,())

def dZ.of (p:eN SS dZ.ts):dZ:=(⟨p.1,p.2.1⟩:dZ)

def b9.ts : List Ty:=[(.sl (.st 276)),(.sl (.st 278)),(.sl (.st 280))]

def b9.to (x:b9):eN SS b9.ts:=(x.fVars,x.fFunctions,x.fTypes,())

def b9.of (p:eN SS b9.ts):b9:=(⟨p.1,p.2.1,p.2.2.1⟩:b9)

def aW.ts : List Ty:=[(.sl .str),(.int .i64),(.sl .str),(.sl (.st 282)),(.sl .str)]

def aW.to (x:aW):eN SS aW.ts:=(x.fInput,x.fAt,x.fOutput,x.fFiles,x.fTrace,())

def aW.of (p:eN SS aW.ts):aW:=(⟨p.1,p.2.1,p.2.2.1,p.2.2.2.1,p.2.2.2.2.1⟩:aW)

def bq.ts : List Ty:=[(.int .i64),(.sl (.st 274)),(.sl (.st 276)),(.sl (.st 278)),(.sl (.st 280)),(.sl .str),(.int .i64),(.sl .str),(.sl (.st 282)),(.sl .str)]

def bq.to (x:bq):eN SS bq.ts:=(x.fHeap.fNext,x.fHeap.fObjects,x.fScope.fVars,x.fScope.fFunctions,x.fScope.fTypes,x.fConsole.fInput,x.fConsole.fAt,x.fConsole.fOutput,x.fConsole.fFiles,x.fConsole.fTrace,())

def bq.of (p:eN SS bq.ts):bq:=(⟨(⟨p.1,p.2.1⟩:dZ),(⟨p.2.2.1,p.2.2.2.1,p.2.2.2.2.1⟩:b9),(⟨p.2.2.2.2.2.1,p.2.2.2.2.2.2.1,p.2.2.2.2.2.2.2.1,p.2.2.2.2.2.2.2.2.1,p.2.2.2.2.2.2.2.2.2.1⟩:aW)⟩:bq)

def bc.ts : List Ty:=[(.int .i64),(.sl (.st 274)),(.sl (.st 276)),(.sl (.st 278)),(.sl (.st 280)),(.sl .str),(.int .i64),(.sl .str),(.sl (.st 282)),(.sl .str),(.int .i64),(.int .i64),(.int .i64)]

def bc.to (x:bc):eN SS bc.ts:=(x.fMemory.fHeap.fNext,x.fMemory.fHeap.fObjects,x.fMemory.fScope.fVars,x.fMemory.fScope.fFunctions,x.fMemory.fScope.fTypes,x.fMemory.fConsole.fInput,x.fMemory.fConsole.fAt,x.fMemory.fConsole.fOutput,x.fMemory.fConsole.fFiles,x.fMemory.fConsole.fTrace,x.fAt,x.fSteps,x.fCode,())

def bc.of (p:eN SS bc.ts):bc:=(⟨(⟨(⟨p.1,p.2.1⟩:dZ),(⟨p.2.2.1,p.2.2.2.1,p.2.2.2.2.1⟩:b9),(⟨p.2.2.2.2.2.1,p.2.2.2.2.2.2.1,p.2.2.2.2.2.2.2.1,p.2.2.2.2.2.2.2.2.1,p.2.2.2.2.2.2.2.2.2.1⟩:aW)⟩:bq),p.2.2.2.2.2.2.2.2.2.2.1,p.2.2.2.2.2.2.2.2.2.2.2.1,p.2.2.2.2.2.2.2.2.2.2.2.2.1⟩:bc)

def bF.ts : List Ty:=[(.int .i64),(.int .i64),.str,(.int .i64)]

def bF.to (x:bF):eN SS bF.ts:=(x.fKind,x.fNum,x.fText,x.fRef,())

def bF.of (p:eN SS bF.ts):bF:=(⟨p.1,p.2.1,p.2.2.1,p.2.2.2.1⟩:bF)

def bz.ts : List Ty:=[(.int .i64),(.int .i64),.str,(.int .i64),(.sl (.st 272)),(.sl (.st 272)),(.int .i64),(.int .i64),.str,(.int .i64)]

def bz.to (x:bz):eN SS bz.ts:=(x.fId,x.fKind,x.fName,x.fLow,x.fKeys,x.fVals,x.fDefault.fKind,x.fDefault.fNum,x.fDefault.fText,x.fDefault.fRef,())

def bz.of (p:eN SS bz.ts):bz:=(⟨p.1,p.2.1,p.2.2.1,p.2.2.2.1,p.2.2.2.2.1,p.2.2.2.2.2.1,(⟨p.2.2.2.2.2.2.1,p.2.2.2.2.2.2.2.1,p.2.2.2.2.2.2.2.2.1,p.2.2.2.2.2.2.2.2.2.1⟩:bF)⟩:bz)

def aY.ts : List Ty:=[.str,(.int .i64),(.int .i64),.str,(.int .i64)]

def aY.to (x:aY):eN SS aY.ts:=(x.fName,x.fValue.fKind,x.fValue.fNum,x.fValue.fText,x.fValue.fRef,())

def aY.of (p:eN SS aY.ts):aY:=(⟨p.1,(⟨p.2.1,p.2.2.1,p.2.2.2.1,p.2.2.2.2.1⟩:bF)⟩:aY)

def aO.ts : List Ty:=[.str,(.sl .str),(.sl .str),.str]

def aO.to (x:aO):eN SS aO.ts:=(x.fName,x.fParams,x.fLocals,x.fLabel,())

def aO.of (p:eN SS aO.ts):aO:=(⟨p.1,p.2.1,p.2.2.1,p.2.2.2.1⟩:aO)

def aD.ts : List Ty:=[.str,(.sl .str)]

def aD.to (x:aD):eN SS aD.ts:=(x.fName,x.fFields,())

def aD.of (p:eN SS aD.ts):aD:=(⟨p.1,p.2.1⟩:aD)

def eh.ts : List Ty:=[.str,(.sl .str),(.int .i64),(.int .i64)]

def eh.to (x:eh):eN SS eh.ts:=(x.fName,x.fLines,x.fMode,x.fAt,())

def eh.of (p:eN SS eh.ts):eh:=(⟨p.1,p.2.1,p.2.2.1,p.2.2.2.1⟩:eh)

def Ht : (n:Nat)->SS n->List (V SS)
  | 7,x=>cellsL SS al.ts (al.to x)
  | 13,x=>cellsL SS ai.ts (ai.to x)
  | 25,x=>cellsL SS ab.ts (ab.to x)
  | 27,x=>cellsL SS az.ts (az.to x)
  | 29,x=>cellsL SS aa.ts (aa.to x)
  | 40,x=>cellsL SS ak.ts (ak.to x)
  | 61,x=>cellsL SS b0.ts (b0.to x)
  | 77,x=>cellsL SS aP.ts (aP.to x)
  | 82,x=>cellsL SS aB.ts (aB.to x)
  | 87,x=>cellsL SS b5.ts (b5.to x)
  | 93,x=>cellsL SS aE.ts (aE.to x)
  | 107,x=>cellsL SS ae.ts (ae.to x)
  | 152,x=>cellsL SS ax.ts (ax.to x)
  | 220,x=>cellsL SS ay.ts (ay.to x)
  | 230,x=>cellsL SS aq.ts (aq.to x)
  | 237,x=>cellsL SS am.ts (am.to x)
  | 257,x=>cellsL SS dZ.ts (dZ.to x)
  | 262,x=>cellsL SS b9.ts (b9.to x)
  | 265,x=>cellsL SS aW.ts (aW.to x)
  | 267,x=>cellsL SS bq.ts (bq.to x)
  | 269,x=>cellsL SS bc.ts (bc.to x)
  | 272,x=>cellsL SS bF.ts (bF.to x)
  | 274,x=>cellsL SS bz.ts (bz.to x)
  | 276,x=>cellsL SS aY.ts (aY.to x)
  | 278,x=>cellsL SS aO.ts (aO.to x)
  | 280,x=>cellsL SS aD.ts (aD.to x)
  | 282,x=>cellsL SS eh.ts (eh.to x)
  | _,_=>[]

def JE : (n:Nat)->List (V SS)->Option (SS n)
  | 7,c=>(mC SS al.ts c).map al.of
  | 13,c=>(mC SS ai.ts c).map ai.of
  | 25,c=>(mC SS ab.ts c).map ab.of
  | 27,c=>(mC SS az.ts c).map az.of
  | 29,c=>(mC SS aa.ts c).map aa.of
  | 40,c=>(mC SS ak.ts c).map ak.of
  | 61,c=>(mC SS b0.ts c).map b0.of
  | 77,c=>(mC SS aP.ts c).map aP.of
  | 82,c=>(mC SS aB.ts c).map aB.of
  | 87,c=>(mC SS b5.ts c).map b5.of
  | 93,c=>(mC SS aE.ts c).map aE.of
  | 107,c=>(mC SS ae.ts c).map ae.of
  | 152,c=>(mC SS ax.ts c).map ax.of
  | 220,c=>(mC SS ay.ts c).map ay.of
  | 230,c=>(mC SS aq.ts c).map aq.of
  | 237,c=>(mC SS am.ts c).map am.of
  | 257,c=>(mC SS dZ.ts c).map dZ.of
  | 262,c=>(mC SS b9.ts c).map b9.of
  | 265,c=>(mC SS aW.ts c).map aW.of
  | 267,c=>(mC SS bq.ts c).map bq.of
  | 269,c=>(mC SS bc.ts c).map bc.of
  | 272,c=>(mC SS bF.ts c).map bF.of
  | 274,c=>(mC SS bz.ts c).map bz.of
  | 276,c=>(mC SS aY.ts c).map aY.of
  | 278,c=>(mC SS aO.ts c).map aO.of
  | 280,c=>(mC SS aD.ts c).map aD.of
  | 282,c=>(mC SS eh.ts c).map eh.of
  | _,_=>none

def LI : Nat->Nat
  | 7=>4
  | 13=>2
  | 25=>4
  | 27=>3
  | 29=>19
  | 40=>1
  | 61=>2
  | 77=>2
  | 82=>4
  | 87=>4
  | 93=>3
  | 107=>5
  | 152=>3
  | 220=>4
  | 230=>2
  | 237=>1
  | 257=>2
  | 262=>3
  | 265=>5
  | 267=>10
  | 269=>13
  | 272=>4
  | 274=>10
  | 276=>5
  | 278=>4
  | 280=>2
  | 282=>4
  | _=>0

def Kj : Nat->List Ty
  | 7=>al.ts
  | 13=>ai.ts
  | 25=>ab.ts
  | 27=>az.ts
  | 29=>aa.ts
  | 40=>ak.ts
  | 61=>b0.ts
  | 77=>aP.ts
  | 82=>aB.ts
  | 87=>b5.ts
  | 93=>aE.ts
  | 107=>ae.ts
  | 152=>ax.ts
  | 220=>ay.ts
  | 230=>aq.ts
  | 237=>am.ts
  | 257=>dZ.ts
  | 262=>b9.ts
  | 265=>aW.ts
  | 267=>bq.ts
  | 269=>bc.ts
  | 272=>bF.ts
  | 274=>bz.ts
  | 276=>aY.ts
  | 278=>aO.ts
  | 280=>aD.ts
  | 282=>eh.ts
  | n=>[.st n]

def LJ : TypeId->Option Ty
  | 2=>some (.int .i64)
  | 3=>some (.int .i64)
  | 4=>some .bool
  | 5=>some (.int .u8)
  | 6=>some (.int .u8)
  | 7=>some (.st 7)
  | 8=>some (.st 7)
  | 9=>some .str
  | 10=>some .str
  | 11=>some .str
  | 12=>some (.int .u64)
  | 13=>some (.st 13)
  | 14=>some (.st 13)
  | 21=>some (.int .i32)
  | 22=>some (.sl (.int .u8))
  | 24=>some (.sl (.st 25))
  | 25=>some (.st 25)
  | 26=>some (.st 25)
  | 27=>some (.st 27)
  | 28=>some (.st 27)
  | 29=>some (.st 29)
  | 30=>some (.st 29)
  | 39=>some (.sl (.st 29))
  | 40=>some (.st 40)
  | 41=>some (.st 40)
  | 51=>some (.ptr (.st 93))
  | 53=>some (.sl (.st 107))
  | 60=>some (.ptr (.st 61))
  | 61=>some (.st 61)
  | 62=>some (.st 61)
  | 64=>some (.ptr (.st 29))
  | 70=>some (.sl .str)
  | 74=>some (.sl (.st 77))
  | 77=>some (.st 77)
  | 78=>some (.st 77)
  | 80=>some (.sl (.st 82))
  | 82=>some (.st 82)
  | 83=>some (.st 82)
  | 85=>some (.sl (.st 87))
  | 87=>some (.st 87)
  | 88=>some (.st 87)
  | 92=>some (.int .u64)
  | 93=>some (.st 93)
  | 94=>some (.st 93)
  | 100=>some (.ptr (.st 25))
  | 107=>some (.st 107)
  | 108=>some (.st 107)
  | 113=>some (.sl (.int .i64))
  | 148=>some (.int .u64)
  | 151=>some (.ptr (.st 152))
  | 152=>some (.st 152)
  | 153=>some (.st 152)
  | 191=>some (.int .u32)
  | 210=>some (.int .i64)
  | 219=>some (.ptr (.st 220))
  | 220=>some (.st 220)
  | 221=>some (.st 220)
  | 230=>some (.st 230)
  | 231=>some (.st 230)
  | 236=>some (.ptr (.st 237))
  | 237=>some (.st 237)
  | 238=>some (.st 237)
  | 248=>some (.int .u8)
  | 249=>some (.int .u8)
  | 251=>some (.int .i32)
  | 252=>some (.int .i32)
  | 256=>some (.sl (.st 274))
  | 257=>some (.st 257)
  | 258=>some (.st 257)
  | 259=>some (.sl (.st 276))
  | 260=>some (.sl (.st 278))
  | 261=>some (.sl (.st 280))
  | 262=>some (.st 262)
  | 263=>some (.st 262)
  | 264=>some (.sl (.st 282))
  | 265=>some (.st 265)
  | 266=>some (.st 265)
  | 267=>some (.st 267)
  | 268=>some (.st 267)
  | 269=>some (.st 269)
  | 270=>some (.st 269)
  | 271=>some (.sl (.st 272))
  | 272=>some (.st 272)
  | 273=>some (.st 272)
  | 274=>some (.st 274)
  | 275=>some (.st 274)
  | 276=>some (.st 276)
  | 277=>some (.st 276)
  | 278=>some (.st 278)
  | 279=>some (.st 278)
  | 280=>some (.st 280)
  | 281=>some (.st 280)
  | 282=>some (.st 282)
  | 283=>some (.st 282)
  | _=>none

def sel : Ty->TypeId
  | (.int .i64)=>2
  | (.int .u8)=>5
  | (.st 107)=>108
  | (.st 25)=>26
  | (.st 272)=>273
  | (.st 274)=>275
  | (.st 276)=>277
  | (.st 278)=>279
  | (.st 280)=>281
  | (.st 282)=>283
  | (.st 29)=>30
  | (.st 77)=>78
  | (.st 82)=>83
  | (.st 87)=>88
  | .str=>9
  | _=>0

def sfl : Nat->Bool
  | 7=>true
  | 13=>true
  | 25=>false
  | 27=>true
  | 29=>false
  | 40=>false
  | 61=>false
  | 77=>true
  | 82=>false
  | 87=>false
  | 93=>false
  | 107=>true
  | 152=>false
  | 220=>false
  | 230=>true
  | 237=>true
  | 257=>false
  | 262=>false
  | 265=>false
  | 267=>false
  | 269=>false
  | 272=>true
  | 274=>false
  | 276=>true
  | 278=>false
  | 280=>false
  | 282=>false
  | _=>false

def GG : Sig where
  S:=SS
  csz:=LI
  cells:=Ht
  make:=JE
  tyOf:=LJ
  el:=sel
  fl:=sfl
  tre:=fun e=>[88].contains e

theorem al.ok : SOk GG 7 al.ts al.to al.of:=⟨rfl,fun _=>rfl,fun _=>rfl,rfl,fun _=>rfl,rfl⟩

theorem ai.ok : SOk GG 13 ai.ts ai.to ai.of:=⟨rfl,fun _=>rfl,fun _=>rfl,rfl,fun _=>rfl,rfl⟩

theorem ab.ok : SOk GG 25 ab.ts ab.to ab.of:=⟨rfl,fun _=>rfl,fun _=>rfl,rfl,fun _=>rfl,rfl⟩

theorem az.ok : SOk GG 27 az.ts az.to az.of:=⟨rfl,fun _=>rfl,fun _=>rfl,rfl,fun _=>rfl,rfl⟩

theorem aa.ok : SOk GG 29 aa.ts aa.to aa.of:=⟨rfl,fun _=>rfl,fun _=>rfl,rfl,fun _=>rfl,rfl⟩

theorem ak.ok : SOk GG 40 ak.ts ak.to ak.of:=⟨rfl,fun _=>rfl,fun _=>rfl,rfl,fun _=>rfl,rfl⟩

theorem b0.ok : SOk GG 61 b0.ts b0.to b0.of:=⟨rfl,fun _=>rfl,fun _=>rfl,rfl,fun _=>rfl,rfl⟩

theorem aP.ok : SOk GG 77 aP.ts aP.to aP.of:=⟨rfl,fun _=>rfl,fun _=>rfl,rfl,fun _=>rfl,rfl⟩

theorem aB.ok : SOk GG 82 aB.ts aB.to aB.of:=⟨rfl,fun _=>rfl,fun _=>rfl,rfl,fun _=>rfl,rfl⟩

theorem b5.ok : SOk GG 87 b5.ts b5.to b5.of:=⟨rfl,fun _=>rfl,fun _=>rfl,rfl,fun _=>rfl,rfl⟩

theorem aE.ok : SOk GG 93 aE.ts aE.to aE.of:=⟨rfl,fun _=>rfl,fun _=>rfl,rfl,fun _=>rfl,rfl⟩

theorem ae.ok : SOk GG 107 ae.ts ae.to ae.of:=⟨rfl,fun _=>rfl,fun _=>rfl,rfl,fun _=>rfl,rfl⟩

theorem ax.ok : SOk GG 152 ax.ts ax.to ax.of:=⟨rfl,fun _=>rfl,fun _=>rfl,rfl,fun _=>rfl,rfl⟩

theorem ay.ok : SOk GG 220 ay.ts ay.to ay.of:=⟨rfl,fun _=>rfl,fun _=>rfl,rfl,fun _=>rfl,rfl⟩

theorem aq.ok : SOk GG 230 aq.ts aq.to aq.of:=⟨rfl,fun _=>rfl,fun _=>rfl,rfl,fun _=>rfl,rfl⟩

theorem am.ok : SOk GG 237 am.ts am.to am.of:=⟨rfl,fun _=>rfl,fun _=>rfl,rfl,fun _=>rfl,rfl⟩

theorem dZ.ok : SOk GG 257 dZ.ts dZ.to dZ.of:=⟨rfl,fun _=>rfl,fun _=>rfl,rfl,fun _=>rfl,rfl⟩

theorem b9.ok : SOk GG 262 b9.ts b9.to b9.of:=⟨rfl,fun _=>rfl,fun _=>rfl,rfl,fun _=>rfl,rfl⟩

theorem aW.ok : SOk GG 265 aW.ts aW.to aW.of:=⟨rfl,fun _=>rfl,fun _=>rfl,rfl,fun _=>rfl,rfl⟩

theorem bq.ok : SOk GG 267 bq.ts bq.to bq.of:=⟨rfl,fun _=>rfl,fun _=>rfl,rfl,fun _=>rfl,rfl⟩

theorem bc.ok : SOk GG 269 bc.ts bc.to bc.of:=⟨rfl,fun _=>rfl,fun _=>rfl,rfl,fun _=>rfl,rfl⟩

theorem bF.ok : SOk GG 272 bF.ts bF.to bF.of:=⟨rfl,fun _=>rfl,fun _=>rfl,rfl,fun _=>rfl,rfl⟩

theorem bz.ok : SOk GG 274 bz.ts bz.to bz.of:=⟨rfl,fun _=>rfl,fun _=>rfl,rfl,fun _=>rfl,rfl⟩

theorem aY.ok : SOk GG 276 aY.ts aY.to aY.of:=⟨rfl,fun _=>rfl,fun _=>rfl,rfl,fun _=>rfl,rfl⟩

theorem aO.ok : SOk GG 278 aO.ts aO.to aO.of:=⟨rfl,fun _=>rfl,fun _=>rfl,rfl,fun _=>rfl,rfl⟩

theorem aD.ok : SOk GG 280 aD.ts aD.to aD.of:=⟨rfl,fun _=>rfl,fun _=>rfl,rfl,fun _=>rfl,rfl⟩

theorem eh.ok : SOk GG 282 eh.ts eh.to eh.of:=⟨rfl,fun _=>rfl,fun _=>rfl,rfl,fun _=>rfl,rfl⟩

def al.re (x:al):al:=al.mk x.fX x.fY x.fSigned x.fCode

@[simp] theorem al.re_eq (x:al):x.re=x:=by cases x;rfl

theorem al.eta (x:al):al.mk x.fX x.fY x.fSigned x.fCode=x:=by cases x;rfl

def ai.re (x:ai):ai:=ai.mk x.fMsg x.fAddr

@[simp] theorem ai.re_eq (x:ai):x.re=x:=by cases x;rfl

theorem ai.eta (x:ai):ai.mk x.fMsg x.fAddr=x:=by cases x;rfl

def ab.re (x:ab):ab:=ab.mk x.fKind x.fNum x.fText x.fKids

@[simp] theorem ab.re_eq (x:ab):x.re=x:=by cases x;rfl

theorem ab.eta (x:ab):ab.mk x.fKind x.fNum x.fText x.fKids=x:=by cases x;rfl

def az.re (x:az):az:=az.mk x.fAlways x.fSuccess x.fFailure

@[simp] theorem az.re_eq (x:az):x.re=x:=by cases x;rfl

theorem az.eta (x:az):az.mk x.fAlways x.fSuccess x.fFailure=x:=by cases x;rfl

def aa.re (x:aa):aa:=aa.mk x.fLabel x.fHasSubject x.fSubject x.fHasPattern x.fPattern x.fHasReplace x.fReplace x.fGoto

@[simp] theorem aa.re_eq (x:aa):x.re=x:=by cases x;rfl

theorem aa.eta (x:aa):aa.mk x.fLabel x.fHasSubject x.fSubject x.fHasPattern x.fPattern x.fHasReplace x.fReplace x.fGoto=x:=by cases x;rfl

def ak.re (x:ak):ak:=ak.mk x.fStatements

@[simp] theorem ak.re_eq (x:ak):x.re=x:=by cases x;rfl

theorem ak.eta (x:ak):ak.mk x.fStatements=x:=by cases x;rfl

def b0.re (x:b0):b0:=b0.mk x.fTokens x.fAt

@[simp] theorem b0.re_eq (x:b0):x.re=x:=by cases x;rfl

theorem b0.eta (x:b0):b0.mk x.fTokens x.fAt=x:=by cases x;rfl

def aP.re (x:aP):aP:=aP.mk x.fNumber x.fText

@[simp] theorem aP.re_eq (x:aP):x.re=x:=by cases x;rfl

theorem aP.eta (x:aP):aP.mk x.fNumber x.fText=x:=by cases x;rfl

def aB.re (x:aB):aB:=aB.mk x.fName x.fLines x.fInput x.fOutput

@[simp] theorem aB.re_eq (x:aB):x.re=x:=by cases x;rfl

theorem aB.eta (x:aB):aB.mk x.fName x.fLines x.fInput x.fOutput=x:=by cases x;rfl

def b5.re (x:b5):b5:=b5.mk x.fName x.fSource x.fInput x.fOutput

@[simp] theorem b5.re_eq (x:b5):x.re=x:=by cases x;rfl

theorem b5.eta (x:b5):b5.mk x.fName x.fSource x.fInput x.fOutput=x:=by cases x;rfl

def aE.re (x:aE):aE:=aE.mk x.fCode x.fAt x.fSeed

@[simp] theorem aE.re_eq (x:aE):x.re=x:=by cases x;rfl

theorem aE.eta (x:aE):aE.mk x.fCode x.fAt x.fSeed=x:=by cases x;rfl

def ae.re (x:ae):ae:=ae.mk x.fKind x.fNum x.fText x.fBefore x.fAfter

@[simp] theorem ae.re_eq (x:ae):x.re=x:=by cases x;rfl

theorem ae.eta (x:ae):ae.mk x.fKind x.fNum x.fText x.fBefore x.fAfter=x:=by cases x;rfl

def ax.re (x:ax):ax:=ax.mk x.fTokens x.fAt x.fCode

@[simp] theorem ax.re_eq (x:ax):x.re=x:=by cases x;rfl

theorem ax.eta (x:ax):ax.mk x.fTokens x.fAt x.fCode=x:=by cases x;rfl

def ay.re (x:ay):ay:=ay.mk x.fTokens x.fAt x.fArgs x.fCode

@[simp] theorem ay.re_eq (x:ay):x.re=x:=by cases x;rfl

theorem ay.eta (x:ay):ay.mk x.fTokens x.fAt x.fArgs x.fCode=x:=by cases x;rfl

def aq.re (x:aq):aq:=aq.mk x.fLo x.fHi

@[simp] theorem aq.re_eq (x:aq):x.re=x:=by cases x;rfl

theorem aq.eta (x:aq):aq.mk x.fLo x.fHi=x:=by cases x;rfl

def am.re (x:am):am:=am.mk x.fS

@[simp] theorem am.re_eq (x:am):x.re=x:=by cases x;rfl

theorem am.eta (x:am):am.mk x.fS=x:=by cases x;rfl

def dZ.re (x:dZ):dZ:=dZ.mk x.fNext x.fObjects

@[simp] theorem dZ.re_eq (x:dZ):x.re=x:=by cases x;rfl

theorem dZ.eta (x:dZ):dZ.mk x.fNext x.fObjects=x:=by cases x;rfl

def b9.re (x:b9):b9:=b9.mk x.fVars x.fFunctions x.fTypes

@[simp] theorem b9.re_eq (x:b9):x.re=x:=by cases x;rfl

theorem b9.eta (x:b9):b9.mk x.fVars x.fFunctions x.fTypes=x:=by cases x;rfl

def aW.re (x:aW):aW:=aW.mk x.fInput x.fAt x.fOutput x.fFiles x.fTrace

@[simp] theorem aW.re_eq (x:aW):x.re=x:=by cases x;rfl

theorem aW.eta (x:aW):aW.mk x.fInput x.fAt x.fOutput x.fFiles x.fTrace=x:=by cases x;rfl

def bq.re (x:bq):bq:=bq.mk x.fHeap x.fScope x.fConsole

@[simp] theorem bq.re_eq (x:bq):x.re=x:=by cases x;rfl

theorem bq.eta (x:bq):bq.mk x.fHeap x.fScope x.fConsole=x:=by cases x;rfl

def bc.re (x:bc):bc:=bc.mk x.fMemory x.fAt x.fSteps x.fCode

@[simp] theorem bc.re_eq (x:bc):x.re=x:=by cases x;rfl

theorem bc.eta (x:bc):bc.mk x.fMemory x.fAt x.fSteps x.fCode=x:=by cases x;rfl

def bF.re (x:bF):bF:=bF.mk x.fKind x.fNum x.fText x.fRef

@[simp] theorem bF.re_eq (x:bF):x.re=x:=by cases x;rfl

theorem bF.eta (x:bF):bF.mk x.fKind x.fNum x.fText x.fRef=x:=by cases x;rfl

def bz.re (x:bz):bz:=bz.mk x.fId x.fKind x.fName x.fLow x.fKeys x.fVals x.fDefault

@[simp] theorem bz.re_eq (x:bz):x.re=x:=by cases x;rfl

theorem bz.eta (x:bz):bz.mk x.fId x.fKind x.fName x.fLow x.fKeys x.fVals x.fDefault=x:=by cases x;rfl

def aY.re (x:aY):aY:=aY.mk x.fName x.fValue

@[simp] theorem aY.re_eq (x:aY):x.re=x:=by cases x;rfl

theorem aY.eta (x:aY):aY.mk x.fName x.fValue=x:=by cases x;rfl

def aO.re (x:aO):aO:=aO.mk x.fName x.fParams x.fLocals x.fLabel

@[simp] theorem aO.re_eq (x:aO):x.re=x:=by cases x;rfl

theorem aO.eta (x:aO):aO.mk x.fName x.fParams x.fLocals x.fLabel=x:=by cases x;rfl

def aD.re (x:aD):aD:=aD.mk x.fName x.fFields

@[simp] theorem aD.re_eq (x:aD):x.re=x:=by cases x;rfl

theorem aD.eta (x:aD):aD.mk x.fName x.fFields=x:=by cases x;rfl

def eh.re (x:eh):eh:=eh.mk x.fName x.fLines x.fMode x.fAt

@[simp] theorem eh.re_eq (x:eh):x.re=x:=by cases x;rfl

theorem eh.eta (x:eh):eh.mk x.fName x.fLines x.fMode x.fAt=x:=by cases x;rfl

theorem Cp {n:Nat} (h7:¬ n=7) (h13:¬ n=13) (h25:¬ n=25) (h27:¬ n=27) (h29:¬ n=29) (h40:¬ n=40) (h61:¬ n=61) (h77:¬ n=77) (h82:¬ n=82) (h87:¬ n=87) (h93:¬ n=93) (h107:¬ n=107) (h152:¬ n=152) (h220:¬ n=220) (h230:¬ n=230) (h237:¬ n=237) (h257:¬ n=257) (h262:¬ n=262) (h265:¬ n=265) (h267:¬ n=267) (h269:¬ n=269) (h272:¬ n=272) (h274:¬ n=274) (h276:¬ n=276) (h278:¬ n=278) (h280:¬ n=280) (h282:¬ n=282):SS n=Empty:=by
  unfold SS
  split<;>first | rfl | (exfalso;omega)

theorem GG.law (n:Nat):Jg GG n:=by
  by_cases h7:n=7
  · subst h7;exact al.ok.law
  by_cases h13:n=13
  · subst h13;exact ai.ok.law
  by_cases h25:n=25
  · subst h25;exact ab.ok.law
  by_cases h27:n=27
  · subst h27;exact az.ok.law
  by_cases h29:n=29
  · subst h29;exact aa.ok.law
  by_cases h40:n=40
  · subst h40;exact ak.ok.law
  by_cases h61:n=61
  · subst h61;exact b0.ok.law
  by_cases h77:n=77
  · subst h77;exact aP.ok.law
  by_cases h82:n=82
  · subst h82;exact aB.ok.law
  by_cases h87:n=87
  · subst h87;exact b5.ok.law
  by_cases h93:n=93
  · subst h93;exact aE.ok.law
  by_cases h107:n=107
  · subst h107;exact ae.ok.law
  by_cases h152:n=152
  · subst h152;exact ax.ok.law
  by_cases h220:n=220
  · subst h220;exact ay.ok.law
  by_cases h230:n=230
  · subst h230;exact aq.ok.law
  by_cases h237:n=237
  · subst h237;exact am.ok.law
  by_cases h257:n=257
  · subst h257;exact dZ.ok.law
  by_cases h262:n=262
  · subst h262;exact b9.ok.law
  by_cases h265:n=265
  · subst h265;exact aW.ok.law
  by_cases h267:n=267
  · subst h267;exact bq.ok.law
  by_cases h269:n=269
  · subst h269;exact bc.ok.law
  by_cases h272:n=272
  · subst h272;exact bF.ok.law
  by_cases h274:n=274
  · subst h274;exact bz.ok.law
  by_cases h276:n=276
  · subst h276;exact aY.ok.law
  by_cases h278:n=278
  · subst h278;exact aO.ok.law
  by_cases h280:n=280
  · subst h280;exact aD.ok.law
  by_cases h282:n=282
  · subst h282;exact eh.ok.law
  exact .empty fun x=>(cast (Cp h7 h13 h25 h27 h29 h40 h61 h77 h82 h87 h93 h107 h152 h220 h230 h237 h257 h262 h265 h267 h269 h272 h274 h276 h278 h280 h282) x).elim

theorem GG.ok : aJ GG:=Gm GG.law

noncomputable def OO : Opn GG where
  P:=Tryz.prog
  tab:=[(2,(.int .i64)),(3,(.int .i64)),(4,.bool),(5,(.int .u8)),(6,(.int .u8)),(7,(.st 7)),(8,(.st 7)),(9,.str),(10,.str),(11,.str),(12,(.int .u64)),(13,(.st 13)),(14,(.st 13)),(21,(.int .i32)),(22,(.sl (.int .u8))),(24,(.sl (.st 25))),(25,(.st 25)),(26,(.st 25)),(27,(.st 27)),(28,(.st 27)),(29,(.st 29)),(30,(.st 29)),(39,(.sl (.st 29))),(40,(.st 40)),(41,(.st 40)),(53,(.sl (.st 107))),(61,(.st 61)),(62,(.st 61)),(70,(.sl .str)),(74,(.sl (.st 77))),(77,(.st 77)),(78,(.st 77)),(80,(.sl (.st 82))),(82,(.st 82)),(83,(.st 82)),(85,(.sl (.st 87))),(87,(.st 87)),(88,(.st 87)),(92,(.int .u64)),(93,(.st 93)),(94,(.st 93)),(107,(.st 107)),(108,(.st 107)),(113,(.sl (.int .i64))),(148,(.int .u64)),(152,(.st 152)),(153,(.st 152)),(191,(.int .u32)),(210,(.int .i64)),(220,(.st 220)),(221,(.st 220)),(230,(.st 230)),(231,(.st 230)),(237,(.st 237)),(238,(.st 237)),(248,(.int .u8)),(249,(.int .u8)),(251,(.int .i32)),(252,(.int .i32)),(256,(.sl (.st 274))),(257,(.st 257)),(258,(.st 257)),(259,(.sl (.st 276))),(260,(.sl (.st 278))),(261,(.sl (.st 280))),(262,(.st 262)),(263,(.st 262)),(264,(.sl (.st 282))),(265,(.st 265)),(266,(.st 265)),(267,(.st 267)),(268,(.st 267)),(269,(.st 269)),(270,(.st 269)),(271,(.sl (.st 272))),(272,(.st 272)),(273,(.st 272)),(274,(.st 274)),(275,(.st 274)),(276,(.st 276)),(277,(.st 276)),(278,(.st 278)),(279,(.st 278)),(280,(.st 280)),(281,(.st 280)),(282,(.st 282)),(283,(.st 282))]
  cty:=Kj

theorem OO.tot (n:Nat) (vs:List (V SS)) (h:eM GG (Kj n) vs):∃ x,JE n vs=some x/\Ht n x=vs:=by
  by_cases h7:n=7
  · subst h7;exact al.ok.tot h
  by_cases h13:n=13
  · subst h13;exact ai.ok.tot h
  by_cases h25:n=25
  · subst h25;exact ab.ok.tot h
  by_cases h27:n=27
  · subst h27;exact az.ok.tot h
  by_cases h29:n=29
  · subst h29;exact aa.ok.tot h
  by_cases h40:n=40
  · subst h40;exact ak.ok.tot h
  by_cases h61:n=61
  · subst h61;exact b0.ok.tot h
  by_cases h77:n=77
  · subst h77;exact aP.ok.tot h
  by_cases h82:n=82
  · subst h82;exact aB.ok.tot h
  by_cases h87:n=87
  · subst h87;exact b5.ok.tot h
  by_cases h93:n=93
  · subst h93;exact aE.ok.tot h
  by_cases h107:n=107
  · subst h107;exact ae.ok.tot h
  by_cases h152:n=152
  · subst h152;exact ax.ok.tot h
  by_cases h220:n=220
  · subst h220;exact ay.ok.tot h
  by_cases h230:n=230
  · subst h230;exact aq.ok.tot h
  by_cases h237:n=237
  · subst h237;exact am.ok.tot h
  by_cases h257:n=257
  · subst h257;exact dZ.ok.tot h
  by_cases h262:n=262
  · subst h262;exact b9.ok.tot h
  by_cases h265:n=265
  · subst h265;exact aW.ok.tot h
  by_cases h267:n=267
  · subst h267;exact bq.ok.tot h
  by_cases h269:n=269
  · subst h269;exact bc.ok.tot h
  by_cases h272:n=272
  · subst h272;exact bF.ok.tot h
  by_cases h274:n=274
  · subst h274;exact bz.ok.tot h
  by_cases h276:n=276
  · subst h276;exact aY.ok.tot h
  by_cases h278:n=278
  · subst h278;exact aO.ok.tot h
  by_cases h280:n=280
  · subst h280;exact aD.ok.tot h
  by_cases h282:n=282
  · subst h282;exact eh.ok.tot h
  exfalso
  have e:Kj n=[.st n]:=by
    unfold Kj
    split<;>first | rfl | (exfalso;omega)
  rw [e] at h
  obtain ⟨x⟩:=ED h
  exact (cast (Cp h7 h13 h25 h27 h29 h40 h61 h77 h82 h87 h93 h107 h152 h220 h230 h237 h257 h262 h265 h267 h269 h272 h274 h276 h278 h280 h282) x:Empty).elim

theorem OO.ok : zu OO:=⟨by kernel_rfl,OO.tot⟩


def LK : Nat->Option (List (Nat×Option Ty))
  | 8=>some []
  | 11=>some [(1,none)]
  | _=>none

def KQ : Nat->Option (List (Nat×Option Ty))
  | 9=>some [(2,none),(4,none),(5,none)]
  | 13=>some [(2,none),(4,none),(8,none),(9,none)]
  | _=>none

def KR : Nat->Option (List (Nat×Option Ty))
  | 2=>some []
  | 3=>some [(2,none),(3,none)]
  | _=>none


def KS : Nat->Option (List (Nat×Option Ty))
  | 8=>some []
  | 4=>some [(1,none),(3,none)]
  | 5=>some [(1,none),(3,none)]
  | _=>none

def KT : Nat->Option (List (Nat×Option Ty))
  | 10=>some [(2,none),(8,none),(10,none),(11,none),(12,none),(13,none),(26,none),(27,none),(28,none)]
  | 6=>some [(2,none),(8,none),(26,none),(27,none),(28,none)]
  | _=>none

def KU : Nat->Option (List (Nat×Option Ty))
  | 4=>some [(2,none),(3,none),(5,none)]
  | _=>none

def KV : Nat->Option (List (Nat×Option Ty))
  | 5=>some [(3,none),(4,none),(5,none),(6,none)]
  | 6=>some [(3,none),(4,none),(5,none),(6,none)]
  | _=>none



def KW : Nat->Option (List (Nat×Option Ty))
  | 24=>some [(2,none),(3,none)]
  | 10=>some [(0,none),(2,none),(3,none)]
  | 13=>some [(0,none),(2,none),(3,none)]
  | _=>none

def KX : Nat->Option (List (Nat×Option Ty))
  | 2=>some []
  | 3=>some [(1,none)]
  | 4=>some []
  | 5=>some [(1,none)]
  | 6=>some []
  | 7=>some [(1,none)]
  | _=>none

def KY : Nat->Option (List (Nat×Option Ty))
  | 11=>some [(3,none)]
  | 6=>some [(1,none),(3,none)]
  | _=>none

def KZ : Nat->Option (List (Nat×Option Ty))
  | 2=>some []
  | 3=>some [(1,none)]
  | 4=>some []
  | 5=>some [(1,none)]
  | _=>none

def K0 : Nat->Option (List (Nat×Option Ty))
  | 10=>some [(3,none)]
  | 6=>some [(1,none),(3,none)]
  | _=>none

def K1 : Nat->Option (List (Nat×Option Ty))
  | 16=>some [(0,none),(5,none),(6,none),(8,none)]
  | 5=>some [(0,none),(5,none),(6,none)]
  | _=>none

def K2 : Nat->Option (List (Nat×Option Ty))
  | 8=>some [(0,none),(6,none)]
  | _=>none

def K3 : Nat->Option (List (Nat×Option Ty))
  | 2=>some [(5,none),(6,none),(7,none)]
  | _=>none

def K4 : Nat->Option (List (Nat×Option Ty))
  | 3=>some [(0,none),(2,none),(3,none),(4,none)]
  | 4=>some [(0,none),(2,none),(3,none),(4,none)]
  | 7=>some [(0,none),(2,none),(3,none),(4,none),(5,none)]
  | 8=>some [(0,none),(2,none),(3,none),(4,none),(5,none)]
  | 11=>some [(0,none),(2,none),(3,none)]
  | _=>none

def K5 : Nat->Option (List (Nat×Option Ty))
  | 8=>some [(1,none),(16,none),(17,none),(18,none)]
  | 4=>some [(1,none),(16,none),(17,none),(18,none)]
  | 7=>some []
  | _=>none

def K6 : Nat->Option (List (Nat×Option Ty))
  | 3=>some [(3,none),(8,none),(9,none),(10,none)]
  | _=>none

def K7 : Nat->Option (List (Nat×Option Ty))
  | 2=>some [(1,none),(2,none),(5,none)]
  | _=>none

def K8 : Nat->Option (List (Nat×Option Ty))
  | 3=>some [(1,none),(3,none),(4,none)]
  | _=>none

def K9 : Nat->Option (List (Nat×Option Ty))
  | 8=>some [(7,none),(24,none),(25,none),(26,none)]
  | 11=>some [(7,none),(9,none),(24,none),(25,none),(26,none),(32,none),(33,none),(34,none)]
  | _=>none





def La : Nat->Option (List (Nat×Option Ty))
  | 5=>some [(0,none),(4,none)]
  | 6=>some [(0,none),(4,none),(17,none)]
  | 22=>some [(0,none),(1,none),(4,none),(7,none),(8,none)]
  | _=>none

def Lb : Nat->Option (List (Nat×Option Ty))
  | 11=>some [(1,none),(4,none),(36,none),(37,none),(38,none)]
  | _=>none

def Ld : Nat->Option (List (Nat×Option Ty))
  | 8=>some [(3,none)]
  | _=>none

def Le : Nat->Option (List (Nat×Option Ty))
  | 2=>some []
  | 3=>some [(1,none)]
  | _=>none

def Lf : Nat->Option (List (Nat×Option Ty))
  | 23=>some [(0,none),(3,none),(4,none)]
  | _=>none

def Lg : Nat->Option (List (Nat×Option Ty))
  | 8=>some [(1,none),(3,none)]
  | _=>none

def Lh : Nat->Option (List (Nat×Option Ty))
  | 2=>some [(0,none),(1,none),(5,none)]
  | 3=>some [(0,none),(1,none),(5,none)]
  | 5=>some []
  | _=>none

def Li : Nat->Option (List (Nat×Option Ty))
  | 4=>some [(0,none),(5,none),(6,none),(7,none)]
  | _=>none

def Lj : Nat->Option (List (Nat×Option Ty))
  | 2=>some [(1,none),(7,none),(8,none),(9,none)]
  | _=>none

def Lk : Nat->Option (List (Nat×Option Ty))
  | 2=>some [(0,none),(1,none),(2,none),(7,none)]
  | _=>none

def Ll : Nat->Option (List (Nat×Option Ty))
  | 13=>some [(0,none),(1,none)]
  | _=>none

def Lm : Nat->Option (List (Nat×Option Ty))
  | 11=>some [(0,none),(2,none),(4,none)]
  | 12=>some [(0,none),(2,none),(4,none),(5,none)]
  | 5=>some [(0,none),(2,none),(4,none),(5,none)]
  | 7=>some [(2,none)]
  | _=>none

def Ln : Nat->Option (List (Nat×Option Ty))
  | 2=>some []
  | 3=>some [(0,none),(1,none)]
  | 4=>some [(0,none),(1,none),(5,none)]
  | _=>none

def Lo : Nat->Option (List (Nat×Option Ty))
  | 2=>some [(1,none),(7,none),(8,none),(9,none)]
  | _=>none

def Lp : Nat->Option (List (Nat×Option Ty))
  | 3=>some [(4,none),(10,none),(11,none),(12,none)]
  | 12=>some [(4,none),(10,none),(11,none),(12,none)]
  | _=>none

def Lq : Nat->Option (List (Nat×Option Ty))
  | 3=>some [(0,none),(3,none),(4,none),(5,none),(10,none),(11,none)]
  | 14=>some [(0,none),(3,none),(4,none),(5,none),(10,none),(11,none)]
  | _=>none

def Ls : Nat->Option (List (Nat×Option Ty))
  | 2=>some [(0,none),(1,none),(7,none),(8,none)]
  | _=>none

def Lt : Nat->Option (List (Nat×Option Ty))
  | 18=>some [(5,none),(10,none),(11,none)]
  | 22=>some [(5,none),(10,none),(11,none),(12,none),(13,none)]
  | 6=>some [(5,none),(6,none),(7,none)]
  | 7=>some [(5,none),(6,none),(7,none)]
  | _=>none


def JF : Nat->Option (List (Nat×Option Ty))
  | 2=>some [(1,none),(7,none),(8,none),(9,none)]
  | _=>none

def JG : Nat->Option (List (Nat×Option Ty))
  | 3=>some [(3,none),(13,none),(14,none),(15,none)]
  | _=>none

def JH : Nat->Option (List (Nat×Option Ty))
  | 21=>some []
  | 11=>some []
  | 12=>some [(3,none)]
  | 20=>some []
  | _=>none


def JI : Nat->Option (List (Nat×Option Ty))
  | 21=>some []
  | 11=>some []
  | 12=>some [(6,none)]
  | 20=>some []
  | _=>none

def JJ : Nat->Option (List (Nat×Option Ty))
  | 4=>some [(0,none),(3,none)]
  | _=>none

def JK : Nat->Option (List (Nat×Option Ty))
  | 10=>some [(0,none),(1,none),(4,none),(8,none),(9,none)]
  | 11=>some [(0,none),(1,none),(4,none),(8,none),(9,none)]
  | 13=>some [(1,none),(4,none),(8,none),(9,none)]
  | 18=>some [(0,none),(1,none),(4,none),(6,none),(10,none)]
  | 21=>some [(4,none)]
  | 22=>some [(0,none),(1,none),(4,none),(10,none)]
  | 27=>some [(1,none),(4,none),(6,none),(11,none),(12,none)]
  | _=>none



def JL : Nat->Option (List (Nat×Option Ty))
  | 2=>some [(0,none),(3,none)]
  | _=>none

def JM : Nat->Option (List (Nat×Option Ty))
  | 5=>some [(0,none),(3,none),(4,none),(5,none),(6,none)]
  | 6=>some [(0,none),(3,none),(4,none),(5,none),(6,none)]
  | _=>none



def JN : Nat->Option (List (Nat×Option Ty))
  | 5=>some [(1,none),(17,none),(18,none),(19,none)]
  | _=>none

def JO : Nat->Option (List (Nat×Option Ty))
  | 4=>some [(1,none),(2,none),(15,none),(16,none),(17,none)]
  | _=>none

def JP : Nat->Option (List (Nat×Option Ty))
  | 3=>some [(0,none),(1,none)]
  | 4=>some [(0,none),(1,none)]
  | 5=>some [(1,none)]
  | _=>none

def JQ : Nat->Option (List (Nat×Option Ty))
  | 2=>some [(0,none),(1,none),(5,none)]
  | _=>none

def JR : Nat->Option (List (Nat×Option Ty))
  | 11=>some []
  | 12=>some []
  | _=>none


def JS : Nat->Option (List (Nat×Option Ty))
  | 2=>some [(6,none)]
  | 3=>some [(0,none),(1,none),(2,none),(6,none)]
  | _=>none













def JT : Nat->Option (List (Nat×Option Ty))
  | 19=>some [(1,none),(3,none)]
  | 18=>some [(3,none)]
  | 11=>some []
  | 12=>some [(1,none),(3,none)]
  | _=>none

def JU : Nat->Option (List (Nat×Option Ty))
  | 3=>some [(0,none),(3,none),(4,none)]
  | _=>none

def JV : Nat->Option (List (Nat×Option Ty))
  | 4=>some [(0,none),(3,none)]
  | _=>none



def JW : Nat->Option (List (Nat×Option Ty))
  | 2=>some [(1,none),(7,none),(8,none),(9,none)]
  | _=>none

def JX : Nat->Option (List (Nat×Option Ty))
  | 6=>some [(0,none),(1,none),(4,none),(6,none)]
  | _=>none







def JY : Nat->Option (List (Nat×Option Ty))
  | 32=>some [(0,none),(3,none),(4,none)]
  | 13=>some [(0,none),(3,none)]
  | 14=>some [(0,none),(4,none),(8,none)]
  | 26=>some [(0,none),(4,none)]
  | 27=>some [(0,none),(4,none),(8,none)]
  | 31=>some []
  | _=>none


def JZ : Nat->Option (List (Nat×Option Ty))
  | 8=>some [(0,none),(2,none),(5,none),(6,none)]
  | 13=>some [(2,none),(5,none),(6,none)]
  | 7=>some [(0,none),(2,none),(5,none),(6,none)]
  | _=>none

def J0 : Nat->Option (List (Nat×Option Ty))
  | 8=>some [(0,none),(1,none),(6,none),(7,none)]
  | 10=>some [(0,none),(7,none)]
  | 7=>some [(0,none),(1,none),(6,none),(7,none)]
  | _=>none






def J1 : Nat->Option (List (Nat×Option Ty))
  | 2=>some [(0,none),(1,none),(4,none),(6,none)]
  | _=>none

def J2 : Nat->Option (List (Nat×Option Ty))
  | 8=>some [(3,none),(15,none)]
  | 7=>some [(3,none)]
  | _=>none





def J3 : Nat->Option (List (Nat×Option Ty))
  | 4=>some [(0,none),(4,none)]
  | _=>none







def LM : FuncId->Nat->Option (List (Nat×Option Ty))
  | 4=>LK
  | 10=>KQ
  | 11=>KR
  | 15=>KS
  | 16=>KT
  | 17=>KU
  | 18=>KV
  | 21=>KW
  | 23=>KX
  | 24=>KY
  | 25=>KZ
  | 26=>K0
  | 32=>K1
  | 33=>K2
  | 34=>K3
  | 40=>K4
  | 41=>K5
  | 42=>K6
  | 44=>K7
  | 45=>K8
  | 46=>K9
  | 58=>La
  | 63=>Lb
  | 64=>Ld
  | 66=>Le
  | 69=>Lf
  | 70=>Lg
  | 71=>Lh
  | 72=>Li
  | 73=>Lj
  | 78=>Lk
  | 82=>Ll
  | 84=>Lm
  | 85=>Ln
  | 87=>Lo
  | 91=>Lp
  | 92=>Lq
  | 94=>Ls
  | 96=>Lt
  | 102=>JF
  | 103=>JG
  | 107=>JH
  | 114=>JI
  | 116=>JJ
  | 118=>JK
  | 138=>JL
  | 141=>JM
  | 150=>JN
  | 151=>JO
  | 156=>JP
  | 159=>JQ
  | 162=>JR
  | 169=>JS
  | 192=>JT
  | 195=>JU
  | 196=>JV
  | 201=>JW
  | 203=>JX
  | 222=>JY
  | 229=>JZ
  | 230=>J0
  | 246=>J1
  | 248=>J2
  | 257=>J3
  | _=>fun _=>none

def extT : FuncId->Option (Sigma fun rt:List Ty=>List (V GG.S)->Option (qT GG.S rt))
  | 30=>some ⟨[.str,.str,.bool],H4⟩
  | 99=>some ⟨[.str],H3⟩
  | 109=>some ⟨[.str],H2⟩
  | 123=>some ⟨[.int .i64,.bool],yb⟩
  | 125=>some ⟨[.int .i64],q7⟩
  | 132=>some ⟨[.str],ya⟩
  | 135=>some ⟨[.str],H1⟩
  | 147=>some ⟨[.sl .str],EE⟩
  | 153=>some ⟨[.bool],u6⟩
  | _=>none

def bldF : FuncId->Option (Nat×TypeId×TypeId)
  | 88=>some (1,119,5)
  | 89=>some (3,119,5)
  | _=>none

def ctorT : FuncId->Option (TypeId×(List (V GG.S)->Option (List (V GG.S))))
  | 22=>some (94,KA)
  | _=>none

noncomputable def CC : Cfg GG where
  P:=Tryz.prog
  refs:=fun f=>[21,33,37,38,39,40,56,57,58,82,83,84,86,100,127,129,130,144,146,184,185,203,229,230,236,237,246,247,250,252,253,254,257,258,259,260,262,263].contains f
  ext:=U.extT
  cut:=LM
  glob:=fun _=>none
  gint:=fun g=>g==0
  gerr:=fun _=>false
  pint:=fun _=>none
  cln:=fun _=>none
  gtab:=fun | 1=>some ((Lib.pow10Tab.map fun z=>Value.int .u64 z).toArray) | _=>none
  own:=fun _=>none
  bld:=U.bldF
  ctor:=U.ctorT
  eat:=fun _=>none
  trE:=fun e=>[88].contains e
  ownR:=fun f=>[53].contains f
  eatR:=fun f=>[].contains f
  wrf:=fun f=>[].contains f
  grw:=fun _=>none
  unl:=fun f=>[10,33,82].contains f

end Go.Dv.U
