/- The types of this program and the wq where its loops are cut. -/
import Derived.Test.YtpjcbihleclioaaGreatDoorDvc
import Derived.Test.YtpjcbihleclioaaGreatDoorChecked
set_option linter.all false
set_option linter.unusedVariables false
set_option linter.unusedSimpArgs false
namespace Go.Dv.U

open Go Go.Dv Go.Proofs

set_option maxRecDepth 100000

structure al where
  fX:Int
  fY:Int
  fSigned:Bool
  fCode:Int

structure ai where
  fMsg:(List UInt8)
  fAddr:Int

structure aa where
  fKind:Int
  fNum:Int
  fText:(List UInt8)
  fKids:(List aa)

structure aw where
  fAlways:(List UInt8)
  fSuccess:(List UInt8)
  fFailure:(List UInt8)

structure ab where
  fLabel:(List UInt8)
  fHasSubject:Bool
  fSubject:aa
  fHasPattern:Bool
  fPattern:aa
  fHasReplace:Bool
  fReplace:aa
  fGoto:aw

structure aq where
  fStatements:(List ab)

structure ac where
  fKind:Int
  fNum:Int
  fText:(List UInt8)
  fBefore:Bool
  fAfter:Bool

structure cp where
  fTokens:(List ac)
  fAt:Int

structure aO where
  fNumber:Int
  fText:(List UInt8)

structure ak where
  fName:(List UInt8)
  fLines:(List (List UInt8))
  fInput:(List (List UInt8))
  fOutput:(List (List UInt8))

structure aD where
  fName:(List UInt8)
  fSource:(List (List UInt8))
  fInput:(List (List UInt8))
  fOutput:(List (List UInt8))

structure aG where
  fCode:(List Int)
  fAt:Int
  fSeed:Int

structure ay where
  fTokens:(List ac)
  fAt:Int
  fCode:Int

structure az where
  fTokens:(List ac)
  fAt:Int
  fArgs:Bool
  fCode:Int

structure au where
  fLo:Int
  fHi:Int

structure am where
  fS:(List UInt8)

structure bN where
  fKind:Int
  fNum:Int
  fText:(List UInt8)
  fRef:Int

structure bG where
  fId:Int
  fKind:Int
  fName:(List UInt8)
  fLow:Int
  fKeys:(List bN)
  fVals:(List bN)
  fDefault:bN

structure eW where
  fNext:Int
  fObjects:(List bG)

structure aY where
  fName:(List UInt8)
  fValue:bN

structure aP where
  fName:(List UInt8)
  fParams:(List (List UInt8))
  fLocals:(List (List UInt8))
  fLabel:(List UInt8)

structure aF where
  fName:(List UInt8)
  fFields:(List (List UInt8))

structure cu where
  fVars:(List aY)
  fFunctions:(List aP)
  fTypes:(List aF)

structure fq where
  fName:(List UInt8)
  fLines:(List (List UInt8))
  fMode:Int
  fAt:Int

structure aV where
  fInput:(List (List UInt8))
  fAt:Int
  fOutput:(List (List UInt8))
  fFiles:(List fq)
  fTrace:(List (List UInt8))

structure bE where
  fHeap:eW
  fScope:cu
  fConsole:aV

structure bh where
  fMemory:bE
  fAt:Int
  fSteps:Int
  fCode:Int

def SS : Nat->Type
  | 7=>al
  | 13=>ai
  | 25=>aa
  | 27=>aw
  | 29=>ab
  | 40=>aq
  | 61=>cp
  | 77=>aO
  | 82=>ak
  | 87=>aD
  | 93=>aG
  | 107=>ac
  | 152=>ay
  | 220=>az
  | 230=>au
  | 237=>am
  | 257=>eW
  | 262=>cu
  | 265=>aV
  | 267=>bE
  | 269=>bh
  | 272=>bN
  | 274=>bG
  | 276=>aY
  | 278=>aP
  | 280=>aF
  | 282=>fq
  | _=>Empty

def al.ts : List Ty:=[(.int .i64),(.int .i64),.bool,(.int .u8)]

def al.to (x:al):fV SS al.ts:=(x.fX,x.fY,x.fSigned,x.fCode,())

def al.of (p:fV SS al.ts):al:=(⟨p.1,p.2.1,p.2.2.1,p.2.2.2.1⟩:al)

def ai.ts : List Ty:=[.str,(.int .u64)]

def ai.to (x:ai):fV SS ai.ts:=(x.fMsg,x.fAddr,())

def ai.of (p:fV SS ai.ts):ai:=(⟨p.1,p.2.1⟩:ai)

def aa.ts : List Ty:=[(.int .i64),(.int .i64),.str,(.sl (.st 25))]

def aa.to (x:aa):fV SS aa.ts:=(x.fKind,x.fNum,x.fText,x.fKids,())

def aa.of (p:fV SS aa.ts):aa:=(⟨p.1,p.2.1,p.2.2.1,p.2.2.2.1⟩:aa)

def aw.ts : List Ty:=[.str,.str,.str]

def aw.to (x:aw):fV SS aw.ts:=(x.fAlways,x.fSuccess,x.fFailure,())

def aw.of (p:fV SS aw.ts):aw:=(⟨p.1,p.2.1,p.2.2.1⟩:aw)

def ab.ts : List Ty:=[.str,.bool,(.int .i64),(.int .i64),.str,(.sl (.st 25)),.bool,(.int .i64),(.int .i64),.str,(.sl (.st 25)),.bool,(.int .i64),(.int .i64),.str,(.sl (.st 25)),.str,.str,.str]

def ab.to (x:ab):fV SS ab.ts:=(x.fLabel,x.fHasSubject,x.fSubject.fKind,x.fSubject.fNum,x.fSubject.fText,x.fSubject.fKids,x.fHasPattern,x.fPattern.fKind,x.fPattern.fNum,x.fPattern.fText,x.fPattern.fKids,x.fHasReplace,x.fReplace.fKind,x.fReplace.fNum,x.fReplace.fText,x.fReplace.fKids,x.fGoto.fAlways,x.fGoto.fSuccess,x.fGoto.fFailure,())

def ab.of (p:fV SS ab.ts):ab:=(⟨p.1,p.2.1,(⟨p.2.2.1,p.2.2.2.1,p.2.2.2.2.1,p.2.2.2.2.2.1⟩:aa),p.2.2.2.2.2.2.1,(⟨p.2.2.2.2.2.2.2.1,p.2.2.2.2.2.2.2.2.1,p.2.2.2.2.2.2.2.2.2.1,p.2.2.2.2.2.2.2.2.2.2.1⟩:aa),p.2.2.2.2.2.2.2.2.2.2.2.1,(⟨p.2.2.2.2.2.2.2.2.2.2.2.2.1,p.2.2.2.2.2.2.2.2.2.2.2.2.2.1,p.2.2.2.2.2.2.2.2.2.2.2.2.2.2.1,p.2.2.2.2.2.2.2.2.2.2.2.2.2.2.2.1⟩:aa),(⟨p.2.2.2.2.2.2.2.2.2.2.2.2.2.2.2.2.1,p.2.2.2.2.2.2.2.2.2.2.2.2.2.2.2.2.2.1,p.2.2.2.2.2.2.2.2.2.2.2.2.2.2.2.2.2.2.1⟩:aw)⟩:ab)

def aq.ts : List Ty:=[(.sl (.st 29))]

def aq.to (x:aq):fV SS aq.ts:=(x.fStatements,())

def aq.of (p:fV SS aq.ts):aq:=(⟨p.1⟩:aq)

def cp.ts : List Ty:=[(.sl (.st 107)),(.int .i64)]

def cp.to (x:cp):fV SS cp.ts:=(x.fTokens,x.fAt,())

def cp.of (p:fV SS cp.ts):cp:=(⟨p.1,p.2.1⟩:cp)

def aO.ts : List Ty:=[(.int .i64),.str]

def aO.to (x:aO):fV SS aO.ts:=(x.fNumber,x.fText,())

def aO.of (p:fV SS aO.ts):aO:=(⟨p.1,p.2.1⟩:aO)

def ak.ts : List Ty:=[.str,(.sl .str),(.sl .str),(.sl .str)]

def ak.to (x:ak):fV SS ak.ts:=(x.fName,x.fLines,x.fInput,x.fOutput,())

def ak.of (p:fV SS ak.ts):ak:=(⟨p.1,p.2.1,p.2.2.1,p.2.2.2.1⟩:ak)

def aD.ts : List Ty:=[.str,(.sl .str),(.sl .str),(.sl .str)]

def aD.to (x:aD):fV SS aD.ts:=(x.fName,x.fSource,x.fInput,x.fOutput,())

def aD.of (p:fV SS aD.ts):aD:=(⟨p.1,p.2.1,p.2.2.1,p.2.2.2.1⟩:aD)

def aG.ts : List Ty:=[(.sl (.int .u8)),(.int .i64),(.int .u64)]

def aG.to (x:aG):fV SS aG.ts:=(x.fCode,x.fAt,x.fSeed,())

def aG.of (p:fV SS aG.ts):aG:=(⟨p.1,p.2.1,p.2.2.1⟩:aG)

def ac.ts : List Ty:=[(.int .i64),(.int .i64),.str,.bool,.bool]

def ac.to (x:ac):fV SS ac.ts:=(x.fKind,x.fNum,x.fText,x.fBefore,x.fAfter,())

def ac.of (p:fV SS ac.ts):ac:=(⟨p.1,p.2.1,p.2.2.1,p.2.2.2.1,p.2.2.2.2.1⟩:ac)

def ay.ts : List Ty:=[(.sl (.st 107)),(.int .i64),(.int .i64)]

def ay.to (x:ay):fV SS ay.ts:=(x.fTokens,x.fAt,x.fCode,())

def ay.of (p:fV SS ay.ts):ay:=(⟨p.1,p.2.1,p.2.2.1⟩:ay)

def az.ts : List Ty:=[(.sl (.st 107)),(.int .i64),.bool,(.int .i64)]

def az.to (x:az):fV SS az.ts:=(x.fTokens,x.fAt,x.fArgs,x.fCode,())

def az.of (p:fV SS az.ts):az:=(⟨p.1,p.2.1,p.2.2.1,p.2.2.2.1⟩:az)

def au.ts : List Ty:=[(.int .u8),(.int .u8)]

def au.to (x:au):fV SS au.ts:=(x.fLo,x.fHi,())

def au.of (p:fV SS au.ts):au:=(⟨p.1,p.2.1⟩:au)

def am.ts : List Ty:=[.str]

def am.to (x:am):fV SS am.ts:=(x.fS,())

def am.of (p:fV SS am.ts):am:=(⟨p.1⟩:am)

def eW.ts : List Ty:=[(.int .i64),(.sl (.st 274))]

def eW.to (x:eW):fV SS eW.ts:=(x.fNext,x.fObjects,())

def eW.of (p:fV SS eW.ts):eW:=(⟨p.1,p.2.1⟩:eW)

def cu.ts : List Ty:=[(.sl (.st 276)),(.sl (.st 278)),(.sl (.st 280))]

def cu.to (x:cu):fV SS cu.ts:=(x.fVars,x.fFunctions,x.fTypes,())

def cu.of (p:fV SS cu.ts):cu:=(⟨p.1,p.2.1,p.2.2.1⟩:cu)

def aV.ts : List Ty:=[(.sl .str),(.int .i64),(.sl .str),(.sl (.st 282)),(.sl .str)]

def aV.to (x:aV):fV SS aV.ts:=(x.fInput,x.fAt,x.fOutput,x.fFiles,x.fTrace,())

def aV.of (p:fV SS aV.ts):aV:=(⟨p.1,p.2.1,p.2.2.1,p.2.2.2.1,p.2.2.2.2.1⟩:aV)

def bE.ts : List Ty:=[(.int .i64),(.sl (.st 274)),(.sl (.st 276)),(.sl (.st 278)),(.sl (.st 280)),(.sl .str),(.int .i64),(.sl .str),(.sl (.st 282)),(.sl .str)]

def bE.to (x:bE):fV SS bE.ts:=(x.fHeap.fNext,x.fHeap.fObjects,x.fScope.fVars,x.fScope.fFunctions,x.fScope.fTypes,x.fConsole.fInput,x.fConsole.fAt,x.fConsole.fOutput,x.fConsole.fFiles,x.fConsole.fTrace,())

def bE.of (p:fV SS bE.ts):bE:=(⟨(⟨p.1,p.2.1⟩:eW),(⟨p.2.2.1,p.2.2.2.1,p.2.2.2.2.1⟩:cu),(⟨p.2.2.2.2.2.1,p.2.2.2.2.2.2.1,p.2.2.2.2.2.2.2.1,p.2.2.2.2.2.2.2.2.1,p.2.2.2.2.2.2.2.2.2.1⟩:aV)⟩:bE)

def bh.ts : List Ty:=[(.int .i64),(.sl (.st 274)),(.sl (.st 276)),(.sl (.st 278)),(.sl (.st 280)),(.sl .str),(.int .i64),(.sl .str),(.sl (.st 282)),(.sl .str),(.int .i64),(.int .i64),(.int .i64)]

def bh.to (x:bh):fV SS bh.ts:=(x.fMemory.fHeap.fNext,x.fMemory.fHeap.fObjects,x.fMemory.fScope.fVars,x.fMemory.fScope.fFunctions,x.fMemory.fScope.fTypes,x.fMemory.fConsole.fInput,x.fMemory.fConsole.fAt,x.fMemory.fConsole.fOutput,x.fMemory.fConsole.fFiles,x.fMemory.fConsole.fTrace,x.fAt,x.fSteps,x.fCode,())

def bh.of (p:fV SS bh.ts):bh:=(⟨(⟨(⟨p.1,p.2.1⟩:eW),(⟨p.2.2.1,p.2.2.2.1,p.2.2.2.2.1⟩:cu),(⟨p.2.2.2.2.2.1,p.2.2.2.2.2.2.1,p.2.2.2.2.2.2.2.1,p.2.2.2.2.2.2.2.2.1,p.2.2.2.2.2.2.2.2.2.1⟩:aV)⟩:bE),p.2.2.2.2.2.2.2.2.2.2.1,p.2.2.2.2.2.2.2.2.2.2.2.1,p.2.2.2.2.2.2.2.2.2.2.2.2.1⟩:bh)

def bN.ts : List Ty:=[(.int .i64),(.int .i64),.str,(.int .i64)]

def bN.to (x:bN):fV SS bN.ts:=(x.fKind,x.fNum,x.fText,x.fRef,())

def bN.of (p:fV SS bN.ts):bN:=(⟨p.1,p.2.1,p.2.2.1,p.2.2.2.1⟩:bN)

def bG.ts : List Ty:=[(.int .i64),(.int .i64),.str,(.int .i64),(.sl (.st 272)),(.sl (.st 272)),(.int .i64),(.int .i64),.str,(.int .i64)]

def bG.to (x:bG):fV SS bG.ts:=(x.fId,x.fKind,x.fName,x.fLow,x.fKeys,x.fVals,x.fDefault.fKind,x.fDefault.fNum,x.fDefault.fText,x.fDefault.fRef,())

def bG.of (p:fV SS bG.ts):bG:=(⟨p.1,p.2.1,p.2.2.1,p.2.2.2.1,p.2.2.2.2.1,p.2.2.2.2.2.1,(⟨p.2.2.2.2.2.2.1,p.2.2.2.2.2.2.2.1,p.2.2.2.2.2.2.2.2.1,p.2.2.2.2.2.2.2.2.2.1⟩:bN)⟩:bG)

def aY.ts : List Ty:=[.str,(.int .i64),(.int .i64),.str,(.int .i64)]

def aY.to (x:aY):fV SS aY.ts:=(x.fName,x.fValue.fKind,x.fValue.fNum,x.fValue.fText,x.fValue.fRef,())

def aY.of (p:fV SS aY.ts):aY:=(⟨p.1,(⟨p.2.1,p.2.2.1,p.2.2.2.1,p.2.2.2.2.1⟩:bN)⟩:aY)

def aP.ts : List Ty:=[.str,(.sl .str),(.sl .str),.str]

def aP.to (x:aP):fV SS aP.ts:=(x.fName,x.fParams,x.fLocals,x.fLabel,())

def aP.of (p:fV SS aP.ts):aP:=(⟨p.1,p.2.1,p.2.2.1,p.2.2.2.1⟩:aP)

def aF.ts : List Ty:=[.str,(.sl .str)]

def aF.to (x:aF):fV SS aF.ts:=(x.fName,x.fFields,())

def aF.of (p:fV SS aF.ts):aF:=(⟨p.1,p.2.1⟩:aF)

def fq.ts : List Ty:=[.str,(.sl .str),(.int .i64),(.int .i64)]

def fq.to (x:fq):fV SS fq.ts:=(x.fName,x.fLines,x.fMode,x.fAt,())

def fq.of (p:fV SS fq.ts):fq:=(⟨p.1,p.2.1,p.2.2.1,p.2.2.2.1⟩:fq)

def Jl : (n:Nat)->SS n->List (V SS)
  | 7,x=>cellsL SS al.ts (al.to x)
  | 13,x=>cellsL SS ai.ts (ai.to x)
  | 25,x=>cellsL SS aa.ts (aa.to x)
  | 27,x=>cellsL SS aw.ts (aw.to x)
  | 29,x=>cellsL SS ab.ts (ab.to x)
  | 40,x=>cellsL SS aq.ts (aq.to x)
  | 61,x=>cellsL SS cp.ts (cp.to x)
  | 77,x=>cellsL SS aO.ts (aO.to x)
  | 82,x=>cellsL SS ak.ts (ak.to x)
  | 87,x=>cellsL SS aD.ts (aD.to x)
  | 93,x=>cellsL SS aG.ts (aG.to x)
  | 107,x=>cellsL SS ac.ts (ac.to x)
  | 152,x=>cellsL SS ay.ts (ay.to x)
  | 220,x=>cellsL SS az.ts (az.to x)
  | 230,x=>cellsL SS au.ts (au.to x)
  | 237,x=>cellsL SS am.ts (am.to x)
  | 257,x=>cellsL SS eW.ts (eW.to x)
  | 262,x=>cellsL SS cu.ts (cu.to x)
  | 265,x=>cellsL SS aV.ts (aV.to x)
  | 267,x=>cellsL SS bE.ts (bE.to x)
  | 269,x=>cellsL SS bh.ts (bh.to x)
  | 272,x=>cellsL SS bN.ts (bN.to x)
  | 274,x=>cellsL SS bG.ts (bG.to x)
  | 276,x=>cellsL SS aY.ts (aY.to x)
  | 278,x=>cellsL SS aP.ts (aP.to x)
  | 280,x=>cellsL SS aF.ts (aF.to x)
  | 282,x=>cellsL SS fq.ts (fq.to x)
  | _,_=>[]

def Ly : (n:Nat)->List (V SS)->Option (SS n)
  | 7,c=>(oJ SS al.ts c).map al.of
  | 13,c=>(oJ SS ai.ts c).map ai.of
  | 25,c=>(oJ SS aa.ts c).map aa.of
  | 27,c=>(oJ SS aw.ts c).map aw.of
  | 29,c=>(oJ SS ab.ts c).map ab.of
  | 40,c=>(oJ SS aq.ts c).map aq.of
  | 61,c=>(oJ SS cp.ts c).map cp.of
  | 77,c=>(oJ SS aO.ts c).map aO.of
  | 82,c=>(oJ SS ak.ts c).map ak.of
  | 87,c=>(oJ SS aD.ts c).map aD.of
  | 93,c=>(oJ SS aG.ts c).map aG.of
  | 107,c=>(oJ SS ac.ts c).map ac.of
  | 152,c=>(oJ SS ay.ts c).map ay.of
  | 220,c=>(oJ SS az.ts c).map az.of
  | 230,c=>(oJ SS au.ts c).map au.of
  | 237,c=>(oJ SS am.ts c).map am.of
  | 257,c=>(oJ SS eW.ts c).map eW.of
  | 262,c=>(oJ SS cu.ts c).map cu.of
  | 265,c=>(oJ SS aV.ts c).map aV.of
  | 267,c=>(oJ SS bE.ts c).map bE.of
  | 269,c=>(oJ SS bh.ts c).map bh.of
  | 272,c=>(oJ SS bN.ts c).map bN.of
  | 274,c=>(oJ SS bG.ts c).map bG.of
  | 276,c=>(oJ SS aY.ts c).map aY.of
  | 278,c=>(oJ SS aP.ts c).map aP.of
  | 280,c=>(oJ SS aF.ts c).map aF.of
  | 282,c=>(oJ SS fq.ts c).map fq.of
  | _,_=>none

def Oj : Nat->Nat
  | 7=>4
  | 13=>2
  | 25=>4
  | 27=>3
  | 29=>19
  | 40=>1
  | 61=>2
  | 77=>2
  | 82=>4
  | 87=>4
  | 93=>3
  | 107=>5
  | 152=>3
  | 220=>4
  | 230=>2
  | 237=>1
  | 257=>2
  | 262=>3
  | 265=>5
  | 267=>10
  | 269=>13
  | 272=>4
  | 274=>10
  | 276=>5
  | 278=>4
  | 280=>2
  | 282=>4
  | _=>0

def MC : Nat->List Ty
  | 7=>al.ts
  | 13=>ai.ts
  | 25=>aa.ts
  | 27=>aw.ts
  | 29=>ab.ts
  | 40=>aq.ts
  | 61=>cp.ts
  | 77=>aO.ts
  | 82=>ak.ts
  | 87=>aD.ts
  | 93=>aG.ts
  | 107=>ac.ts
  | 152=>ay.ts
  | 220=>az.ts
  | 230=>au.ts
  | 237=>am.ts
  | 257=>eW.ts
  | 262=>cu.ts
  | 265=>aV.ts
  | 267=>bE.ts
  | 269=>bh.ts
  | 272=>bN.ts
  | 274=>bG.ts
  | 276=>aY.ts
  | 278=>aP.ts
  | 280=>aF.ts
  | 282=>fq.ts
  | n=>[.st n]

def Ok : TypeId->Option Ty
  | 2=>some (.int .i64)
  | 3=>some (.int .i64)
  | 4=>some .bool
  | 5=>some (.int .u8)
  | 6=>some (.int .u8)
  | 7=>some (.st 7)
  | 8=>some (.st 7)
  | 9=>some .str
  | 10=>some .str
  | 11=>some .str
  | 12=>some (.int .u64)
  | 13=>some (.st 13)
  | 14=>some (.st 13)
  | 21=>some (.int .i32)
  | 22=>some (.sl (.int .u8))
  | 24=>some (.sl (.st 25))
  | 25=>some (.st 25)
  | 26=>some (.st 25)
  | 27=>some (.st 27)
  | 28=>some (.st 27)
  | 29=>some (.st 29)
  | 30=>some (.st 29)
  | 39=>some (.sl (.st 29))
  | 40=>some (.st 40)
  | 41=>some (.st 40)
  | 51=>some (.ptr (.st 93))
  | 53=>some (.sl (.st 107))
  | 60=>some (.ptr (.st 61))
  | 61=>some (.st 61)
  | 62=>some (.st 61)
  | 64=>some (.ptr (.st 29))
  | 70=>some (.sl .str)
  | 74=>some (.sl (.st 77))
  | 77=>some (.st 77)
  | 78=>some (.st 77)
  | 80=>some (.sl (.st 82))
  | 82=>some (.st 82)
  | 83=>some (.st 82)
  | 85=>some (.sl (.st 87))
  | 87=>some (.st 87)
  | 88=>some (.st 87)
  | 92=>some (.int .u64)
  | 93=>some (.st 93)
  | 94=>some (.st 93)
  | 100=>some (.ptr (.st 25))
  | 107=>some (.st 107)
  | 108=>some (.st 107)
  | 113=>some (.sl (.int .i64))
  | 148=>some (.int .u64)
  | 151=>some (.ptr (.st 152))
  | 152=>some (.st 152)
  | 153=>some (.st 152)
  | 191=>some (.int .u32)
  | 210=>some (.int .i64)
  | 219=>some (.ptr (.st 220))
  | 220=>some (.st 220)
  | 221=>some (.st 220)
  | 230=>some (.st 230)
  | 231=>some (.st 230)
  | 236=>some (.ptr (.st 237))
  | 237=>some (.st 237)
  | 238=>some (.st 237)
  | 248=>some (.int .u8)
  | 249=>some (.int .u8)
  | 251=>some (.int .i32)
  | 252=>some (.int .i32)
  | 256=>some (.sl (.st 274))
  | 257=>some (.st 257)
  | 258=>some (.st 257)
  | 259=>some (.sl (.st 276))
  | 260=>some (.sl (.st 278))
  | 261=>some (.sl (.st 280))
  | 262=>some (.st 262)
  | 263=>some (.st 262)
  | 264=>some (.sl (.st 282))
  | 265=>some (.st 265)
  | 266=>some (.st 265)
  | 267=>some (.st 267)
  | 268=>some (.st 267)
  | 269=>some (.st 269)
  | 270=>some (.st 269)
  | 271=>some (.sl (.st 272))
  | 272=>some (.st 272)
  | 273=>some (.st 272)
  | 274=>some (.st 274)
  | 275=>some (.st 274)
  | 276=>some (.st 276)
  | 277=>some (.st 276)
  | 278=>some (.st 278)
  | 279=>some (.st 278)
  | 280=>some (.st 280)
  | 281=>some (.st 280)
  | 282=>some (.st 282)
  | 283=>some (.st 282)
  | _=>none

def sel : Ty->TypeId
  | (.int .i64)=>2
  | (.int .u8)=>5
  | (.st 107)=>108
  | (.st 25)=>26
  | (.st 272)=>273
  | (.st 274)=>275
  | (.st 276)=>277
  | (.st 278)=>279
  | (.st 280)=>281
  | (.st 282)=>283
  | (.st 29)=>30
  | (.st 77)=>78
  | (.st 82)=>83
  | (.st 87)=>88
  | .str=>9
  | _=>0

def sfl : Nat->Bool
  | 7=>true
  | 13=>true
  | 25=>false
  | 27=>true
  | 29=>false
  | 40=>false
  | 61=>false
  | 77=>true
  | 82=>false
  | 87=>false
  | 93=>false
  | 107=>true
  | 152=>false
  | 220=>false
  | 230=>true
  | 237=>true
  | 257=>false
  | 262=>false
  | 265=>false
  | 267=>false
  | 269=>false
  | 272=>true
  | 274=>false
  | 276=>true
  | 278=>false
  | 280=>false
  | 282=>false
  | _=>false

def GG : Sig where
  S:=SS
  csz:=Oj
  cells:=Jl
  make:=Ly
  tyOf:=Ok
  el:=sel
  fl:=sfl
  tre:=fun e=>[88].contains e

theorem al.ok : SOk GG 7 al.ts al.to al.of:=⟨rfl,fun _=>rfl,fun _=>rfl,rfl,fun _=>rfl,rfl⟩

theorem ai.ok : SOk GG 13 ai.ts ai.to ai.of:=⟨rfl,fun _=>rfl,fun _=>rfl,rfl,fun _=>rfl,rfl⟩

theorem aa.ok : SOk GG 25 aa.ts aa.to aa.of:=⟨rfl,fun _=>rfl,fun _=>rfl,rfl,fun _=>rfl,rfl⟩

theorem aw.ok : SOk GG 27 aw.ts aw.to aw.of:=⟨rfl,fun _=>rfl,fun _=>rfl,rfl,fun _=>rfl,rfl⟩

theorem ab.ok : SOk GG 29 ab.ts ab.to ab.of:=⟨rfl,fun _=>rfl,fun _=>rfl,rfl,fun _=>rfl,rfl⟩

theorem aq.ok : SOk GG 40 aq.ts aq.to aq.of:=⟨rfl,fun _=>rfl,fun _=>rfl,rfl,fun _=>rfl,rfl⟩

theorem cp.ok : SOk GG 61 cp.ts cp.to cp.of:=⟨rfl,fun _=>rfl,fun _=>rfl,rfl,fun _=>rfl,rfl⟩

theorem aO.ok : SOk GG 77 aO.ts aO.to aO.of:=⟨rfl,fun _=>rfl,fun _=>rfl,rfl,fun _=>rfl,rfl⟩

theorem ak.ok : SOk GG 82 ak.ts ak.to ak.of:=⟨rfl,fun _=>rfl,fun _=>rfl,rfl,fun _=>rfl,rfl⟩

theorem aD.ok : SOk GG 87 aD.ts aD.to aD.of:=⟨rfl,fun _=>rfl,fun _=>rfl,rfl,fun _=>rfl,rfl⟩

theorem aG.ok : SOk GG 93 aG.ts aG.to aG.of:=⟨rfl,fun _=>rfl,fun _=>rfl,rfl,fun _=>rfl,rfl⟩

theorem ac.ok : SOk GG 107 ac.ts ac.to ac.of:=⟨rfl,fun _=>rfl,fun _=>rfl,rfl,fun _=>rfl,rfl⟩

theorem ay.ok : SOk GG 152 ay.ts ay.to ay.of:=⟨rfl,fun _=>rfl,fun _=>rfl,rfl,fun _=>rfl,rfl⟩

theorem az.ok : SOk GG 220 az.ts az.to az.of:=⟨rfl,fun _=>rfl,fun _=>rfl,rfl,fun _=>rfl,rfl⟩

theorem au.ok : SOk GG 230 au.ts au.to au.of:=⟨rfl,fun _=>rfl,fun _=>rfl,rfl,fun _=>rfl,rfl⟩

theorem am.ok : SOk GG 237 am.ts am.to am.of:=⟨rfl,fun _=>rfl,fun _=>rfl,rfl,fun _=>rfl,rfl⟩

theorem eW.ok : SOk GG 257 eW.ts eW.to eW.of:=⟨rfl,fun _=>rfl,fun _=>rfl,rfl,fun _=>rfl,rfl⟩

theorem cu.ok : SOk GG 262 cu.ts cu.to cu.of:=⟨rfl,fun _=>rfl,fun _=>rfl,rfl,fun _=>rfl,rfl⟩

theorem aV.ok : SOk GG 265 aV.ts aV.to aV.of:=⟨rfl,fun _=>rfl,fun _=>rfl,rfl,fun _=>rfl,rfl⟩

theorem bE.ok : SOk GG 267 bE.ts bE.to bE.of:=⟨rfl,fun _=>rfl,fun _=>rfl,rfl,fun _=>rfl,rfl⟩

theorem bh.ok : SOk GG 269 bh.ts bh.to bh.of:=⟨rfl,fun _=>rfl,fun _=>rfl,rfl,fun _=>rfl,rfl⟩

theorem bN.ok : SOk GG 272 bN.ts bN.to bN.of:=⟨rfl,fun _=>rfl,fun _=>rfl,rfl,fun _=>rfl,rfl⟩

theorem bG.ok : SOk GG 274 bG.ts bG.to bG.of:=⟨rfl,fun _=>rfl,fun _=>rfl,rfl,fun _=>rfl,rfl⟩

theorem aY.ok : SOk GG 276 aY.ts aY.to aY.of:=⟨rfl,fun _=>rfl,fun _=>rfl,rfl,fun _=>rfl,rfl⟩

theorem aP.ok : SOk GG 278 aP.ts aP.to aP.of:=⟨rfl,fun _=>rfl,fun _=>rfl,rfl,fun _=>rfl,rfl⟩

theorem aF.ok : SOk GG 280 aF.ts aF.to aF.of:=⟨rfl,fun _=>rfl,fun _=>rfl,rfl,fun _=>rfl,rfl⟩

theorem fq.ok : SOk GG 282 fq.ts fq.to fq.of:=⟨rfl,fun _=>rfl,fun _=>rfl,rfl,fun _=>rfl,rfl⟩

def al.re (x:al):al:=al.mk x.fX x.fY x.fSigned x.fCode

@[simp] theorem al.re_eq (x:al):x.re=x:=by cases x;rfl

theorem al.eta (x:al):al.mk x.fX x.fY x.fSigned x.fCode=x:=by cases x;rfl

def ai.re (x:ai):ai:=ai.mk x.fMsg x.fAddr

@[simp] theorem ai.re_eq (x:ai):x.re=x:=by cases x;rfl

theorem ai.eta (x:ai):ai.mk x.fMsg x.fAddr=x:=by cases x;rfl

def aa.re (x:aa):aa:=aa.mk x.fKind x.fNum x.fText x.fKids

@[simp] theorem aa.re_eq (x:aa):x.re=x:=by cases x;rfl

theorem aa.eta (x:aa):aa.mk x.fKind x.fNum x.fText x.fKids=x:=by cases x;rfl

def aw.re (x:aw):aw:=aw.mk x.fAlways x.fSuccess x.fFailure

@[simp] theorem aw.re_eq (x:aw):x.re=x:=by cases x;rfl

theorem aw.eta (x:aw):aw.mk x.fAlways x.fSuccess x.fFailure=x:=by cases x;rfl

def ab.re (x:ab):ab:=ab.mk x.fLabel x.fHasSubject x.fSubject x.fHasPattern x.fPattern x.fHasReplace x.fReplace x.fGoto

@[simp] theorem ab.re_eq (x:ab):x.re=x:=by cases x;rfl

theorem ab.eta (x:ab):ab.mk x.fLabel x.fHasSubject x.fSubject x.fHasPattern x.fPattern x.fHasReplace x.fReplace x.fGoto=x:=by cases x;rfl

def aq.re (x:aq):aq:=aq.mk x.fStatements

@[simp] theorem aq.re_eq (x:aq):x.re=x:=by cases x;rfl

theorem aq.eta (x:aq):aq.mk x.fStatements=x:=by cases x;rfl

def cp.re (x:cp):cp:=cp.mk x.fTokens x.fAt

@[simp] theorem cp.re_eq (x:cp):x.re=x:=by cases x;rfl

theorem cp.eta (x:cp):cp.mk x.fTokens x.fAt=x:=by cases x;rfl

def aO.re (x:aO):aO:=aO.mk x.fNumber x.fText

@[simp] theorem aO.re_eq (x:aO):x.re=x:=by cases x;rfl

theorem aO.eta (x:aO):aO.mk x.fNumber x.fText=x:=by cases x;rfl

def ak.re (x:ak):ak:=ak.mk x.fName x.fLines x.fInput x.fOutput

@[simp] theorem ak.re_eq (x:ak):x.re=x:=by cases x;rfl

theorem ak.eta (x:ak):ak.mk x.fName x.fLines x.fInput x.fOutput=x:=by cases x;rfl

def aD.re (x:aD):aD:=aD.mk x.fName x.fSource x.fInput x.fOutput

@[simp] theorem aD.re_eq (x:aD):x.re=x:=by cases x;rfl

theorem aD.eta (x:aD):aD.mk x.fName x.fSource x.fInput x.fOutput=x:=by cases x;rfl

def aG.re (x:aG):aG:=aG.mk x.fCode x.fAt x.fSeed

@[simp] theorem aG.re_eq (x:aG):x.re=x:=by cases x;rfl

theorem aG.eta (x:aG):aG.mk x.fCode x.fAt x.fSeed=x:=by cases x;rfl

def ac.re (x:ac):ac:=ac.mk x.fKind x.fNum x.fText x.fBefore x.fAfter

@[simp] theorem ac.re_eq (x:ac):x.re=x:=by cases x;rfl

theorem ac.eta (x:ac):ac.mk x.fKind x.fNum x.fText x.fBefore x.fAfter=x:=by cases x;rfl

def ay.re (x:ay):ay:=ay.mk x.fTokens x.fAt x.fCode

@[simp] theorem ay.re_eq (x:ay):x.re=x:=by cases x;rfl

theorem ay.eta (x:ay):ay.mk x.fTokens x.fAt x.fCode=x:=by cases x;rfl

def az.re (x:az):az:=az.mk x.fTokens x.fAt x.fArgs x.fCode

@[simp] theorem az.re_eq (x:az):x.re=x:=by cases x;rfl

theorem az.eta (x:az):az.mk x.fTokens x.fAt x.fArgs x.fCode=x:=by cases x;rfl

def au.re (x:au):au:=au.mk x.fLo x.fHi

@[simp] theorem au.re_eq (x:au):x.re=x:=by cases x;rfl

theorem au.eta (x:au):au.mk x.fLo x.fHi=x:=by cases x;rfl

def am.re (x:am):am:=am.mk x.fS

@[simp] theorem am.re_eq (x:am):x.re=x:=by cases x;rfl

theorem am.eta (x:am):am.mk x.fS=x:=by cases x;rfl

def eW.re (x:eW):eW:=eW.mk x.fNext x.fObjects

@[simp] theorem eW.re_eq (x:eW):x.re=x:=by cases x;rfl

theorem eW.eta (x:eW):eW.mk x.fNext x.fObjects=x:=by cases x;rfl

def cu.re (x:cu):cu:=cu.mk x.fVars x.fFunctions x.fTypes

@[simp] theorem cu.re_eq (x:cu):x.re=x:=by cases x;rfl

theorem cu.eta (x:cu):cu.mk x.fVars x.fFunctions x.fTypes=x:=by cases x;rfl

def aV.re (x:aV):aV:=aV.mk x.fInput x.fAt x.fOutput x.fFiles x.fTrace

@[simp] theorem aV.re_eq (x:aV):x.re=x:=by cases x;rfl

theorem aV.eta (x:aV):aV.mk x.fInput x.fAt x.fOutput x.fFiles x.fTrace=x:=by cases x;rfl

def bE.re (x:bE):bE:=bE.mk x.fHeap x.fScope x.fConsole

@[simp] theorem bE.re_eq (x:bE):x.re=x:=by cases x;rfl

theorem bE.eta (x:bE):bE.mk x.fHeap x.fScope x.fConsole=x:=by cases x;rfl

def bh.re (x:bh):bh:=bh.mk x.fMemory x.fAt x.fSteps x.fCode

@[simp] theorem bh.re_eq (x:bh):x.re=x:=by cases x;rfl

theorem bh.eta (x:bh):bh.mk x.fMemory x.fAt x.fSteps x.fCode=x:=by cases x;rfl

def bN.re (x:bN):bN:=bN.mk x.fKind x.fNum x.fText x.fRef

@[simp] theorem bN.re_eq (x:bN):x.re=x:=by cases x;rfl

theorem bN.eta (x:bN):bN.mk x.fKind x.fNum x.fText x.fRef=x:=by cases x;rfl

def bG.re (x:bG):bG:=bG.mk x.fId x.fKind x.fName x.fLow x.fKeys x.fVals x.fDefault

@[simp] theorem bG.re_eq (x:bG):x.re=x:=by cases x;rfl

theorem bG.eta (x:bG):bG.mk x.fId x.fKind x.fName x.fLow x.fKeys x.fVals x.fDefault=x:=by cases x;rfl

def aY.re (x:aY):aY:=aY.mk x.fName x.fValue

@[simp] theorem aY.re_eq (x:aY):x.re=x:=by cases x;rfl

theorem aY.eta (x:aY):aY.mk x.fName x.fValue=x:=by cases x;rfl

def aP.re (x:aP):aP:=aP.mk x.fName x.fParams x.fLocals x.fLabel

@[simp] theorem aP.re_eq (x:aP):x.re=x:=by cases x;rfl

theorem aP.eta (x:aP):aP.mk x.fName x.fParams x.fLocals x.fLabel=x:=by cases x;rfl

def aF.re (x:aF):aF:=aF.mk x.fName x.fFields

@[simp] theorem aF.re_eq (x:aF):x.re=x:=by cases x;rfl

theorem aF.eta (x:aF):aF.mk x.fName x.fFields=x:=by cases x;rfl

def fq.re (x:fq):fq:=fq.mk x.fName x.fLines x.fMode x.fAt

@[simp] theorem fq.re_eq (x:fq):x.re=x:=by cases x;rfl

theorem fq.eta (x:fq):fq.mk x.fName x.fLines x.fMode x.fAt=x:=by cases x;rfl

theorem Ef {n:Nat} (h7:¬ n=7) (h13:¬ n=13) (h25:¬ n=25) (h27:¬ n=27) (h29:¬ n=29) (h40:¬ n=40) (h61:¬ n=61) (h77:¬ n=77) (h82:¬ n=82) (h87:¬ n=87) (h93:¬ n=93) (h107:¬ n=107) (h152:¬ n=152) (h220:¬ n=220) (h230:¬ n=230) (h237:¬ n=237) (h257:¬ n=257) (h262:¬ n=262) (h265:¬ n=265) (h267:¬ n=267) (h269:¬ n=269) (h272:¬ n=272) (h274:¬ n=274) (h276:¬ n=276) (h278:¬ n=278) (h280:¬ n=280) (h282:¬ n=282):SS n=Empty:=by
  unfold SS
  split<;>first | rfl | (exfalso;omega)

theorem GG.law (n:Nat):K4 GG n:=by
  by_cases h7:n=7
  · subst h7;exact al.ok.law
  by_cases h13:n=13
  · subst h13;exact ai.ok.law
  by_cases h25:n=25
  · subst h25;exact aa.ok.law
  by_cases h27:n=27
  · subst h27;exact aw.ok.law
  by_cases h29:n=29
  · subst h29;exact ab.ok.law
  by_cases h40:n=40
  · subst h40;exact aq.ok.law
  by_cases h61:n=61
  · subst h61;exact cp.ok.law
  by_cases h77:n=77
  · subst h77;exact aO.ok.law
  by_cases h82:n=82
  · subst h82;exact ak.ok.law
  by_cases h87:n=87
  · subst h87;exact aD.ok.law
  by_cases h93:n=93
  · subst h93;exact aG.ok.law
  by_cases h107:n=107
  · subst h107;exact ac.ok.law
  by_cases h152:n=152
  · subst h152;exact ay.ok.law
  by_cases h220:n=220
  · subst h220;exact az.ok.law
  by_cases h230:n=230
  · subst h230;exact au.ok.law
  by_cases h237:n=237
  · subst h237;exact am.ok.law
  by_cases h257:n=257
  · subst h257;exact eW.ok.law
  by_cases h262:n=262
  · subst h262;exact cu.ok.law
  by_cases h265:n=265
  · subst h265;exact aV.ok.law
  by_cases h267:n=267
  · subst h267;exact bE.ok.law
  by_cases h269:n=269
  · subst h269;exact bh.ok.law
  by_cases h272:n=272
  · subst h272;exact bN.ok.law
  by_cases h274:n=274
  · subst h274;exact bG.ok.law
  by_cases h276:n=276
  · subst h276;exact aY.ok.law
  by_cases h278:n=278
  · subst h278;exact aP.ok.law
  by_cases h280:n=280
  · subst h280;exact aF.ok.law
  by_cases h282:n=282
  · subst h282;exact fq.ok.law
  exact .empty fun x=>(cast (Ef h7 h13 h25 h27 h29 h40 h61 h77 h82 h87 h93 h107 h152 h220 h230 h237 h257 h262 h265 h267 h269 h272 h274 h276 h278 h280 h282) x).elim

theorem GG.ok : aJ GG:=Ie GG.law

noncomputable def OO : Opn GG where
  P:=Tryz.prog
  tab:=[(2,(.int .i64)),(3,(.int .i64)),(4,.bool),(5,(.int .u8)),(6,(.int .u8)),(7,(.st 7)),(8,(.st 7)),(9,.str),(10,.str),(11,.str),(12,(.int .u64)),(13,(.st 13)),(14,(.st 13)),(21,(.int .i32)),(22,(.sl (.int .u8))),(24,(.sl (.st 25))),(25,(.st 25)),(26,(.st 25)),(27,(.st 27)),(28,(.st 27)),(29,(.st 29)),(30,(.st 29)),(39,(.sl (.st 29))),(40,(.st 40)),(41,(.st 40)),(53,(.sl (.st 107))),(61,(.st 61)),(62,(.st 61)),(70,(.sl .str)),(74,(.sl (.st 77))),(77,(.st 77)),(78,(.st 77)),(80,(.sl (.st 82))),(82,(.st 82)),(83,(.st 82)),(85,(.sl (.st 87))),(87,(.st 87)),(88,(.st 87)),(92,(.int .u64)),(93,(.st 93)),(94,(.st 93)),(107,(.st 107)),(108,(.st 107)),(113,(.sl (.int .i64))),(148,(.int .u64)),(152,(.st 152)),(153,(.st 152)),(191,(.int .u32)),(210,(.int .i64)),(220,(.st 220)),(221,(.st 220)),(230,(.st 230)),(231,(.st 230)),(237,(.st 237)),(238,(.st 237)),(248,(.int .u8)),(249,(.int .u8)),(251,(.int .i32)),(252,(.int .i32)),(256,(.sl (.st 274))),(257,(.st 257)),(258,(.st 257)),(259,(.sl (.st 276))),(260,(.sl (.st 278))),(261,(.sl (.st 280))),(262,(.st 262)),(263,(.st 262)),(264,(.sl (.st 282))),(265,(.st 265)),(266,(.st 265)),(267,(.st 267)),(268,(.st 267)),(269,(.st 269)),(270,(.st 269)),(271,(.sl (.st 272))),(272,(.st 272)),(273,(.st 272)),(274,(.st 274)),(275,(.st 274)),(276,(.st 276)),(277,(.st 276)),(278,(.st 278)),(279,(.st 278)),(280,(.st 280)),(281,(.st 280)),(282,(.st 282)),(283,(.st 282))]
  cty:=MC

theorem OO.tot (n:Nat) (vs:List (V SS)) (h:fU GG (MC n) vs):∃ x,Ly n vs=some x/\Jl n x=vs:=by
  by_cases h7:n=7
  · subst h7;exact al.ok.tot h
  by_cases h13:n=13
  · subst h13;exact ai.ok.tot h
  by_cases h25:n=25
  · subst h25;exact aa.ok.tot h
  by_cases h27:n=27
  · subst h27;exact aw.ok.tot h
  by_cases h29:n=29
  · subst h29;exact ab.ok.tot h
  by_cases h40:n=40
  · subst h40;exact aq.ok.tot h
  by_cases h61:n=61
  · subst h61;exact cp.ok.tot h
  by_cases h77:n=77
  · subst h77;exact aO.ok.tot h
  by_cases h82:n=82
  · subst h82;exact ak.ok.tot h
  by_cases h87:n=87
  · subst h87;exact aD.ok.tot h
  by_cases h93:n=93
  · subst h93;exact aG.ok.tot h
  by_cases h107:n=107
  · subst h107;exact ac.ok.tot h
  by_cases h152:n=152
  · subst h152;exact ay.ok.tot h
  by_cases h220:n=220
  · subst h220;exact az.ok.tot h
  by_cases h230:n=230
  · subst h230;exact au.ok.tot h
  by_cases h237:n=237
  · subst h237;exact am.ok.tot h
  by_cases h257:n=257
  · subst h257;exact eW.ok.tot h
  by_cases h262:n=262
  · subst h262;exact cu.ok.tot h
  by_cases h265:n=265
  · subst h265;exact aV.ok.tot h
  by_cases h267:n=267
  · subst h267;exact bE.ok.tot h
  by_cases h269:n=269
  · subst h269;exact bh.ok.tot h
  by_cases h272:n=272
  · subst h272;exact bN.ok.tot h
  by_cases h274:n=274
  · subst h274;exact bG.ok.tot h
  by_cases h276:n=276
  · subst h276;exact aY.ok.tot h
  by_cases h278:n=278
  · subst h278;exact aP.ok.tot h
  by_cases h280:n=280
  · subst h280;exact aF.ok.tot h
  by_cases h282:n=282
  · subst h282;exact fq.ok.tot h
  exfalso
  have e:MC n=[.st n]:=by
    unfold MC
    split<;>first | rfl | (exfalso;omega)
  rw [e] at h
  obtain ⟨x⟩:=Gt h
  exact (cast (Ef h7 h13 h25 h27 h29 h40 h61 h77 h82 h87 h93 h107 h152 h220 h230 h237 h257 h262 h265 h267 h269 h272 h274 h276 h278 h280 h282) x:Empty).elim

theorem OO.ok : Bk OO:=⟨by kernel_rfl,OO.tot⟩



def Nm : Nat->Option (List (Nat×Option Ty))
  | 9=>some [(2,none),(4,none),(5,none)]
  | 13=>some [(2,none),(4,none),(8,none),(9,none)]
  | _=>none



def Nn : Nat->Option (List (Nat×Option Ty))
  | 8=>some []
  | 4=>some [(1,none),(3,none)]
  | 5=>some [(1,none),(3,none)]
  | _=>none

def No : Nat->Option (List (Nat×Option Ty))
  | 10=>some [(2,none),(8,none),(10,none),(11,none),(12,none),(13,none),(26,none),(27,none),(28,none)]
  | 6=>some [(2,none),(8,none),(26,none),(27,none),(28,none)]
  | _=>none



def Np : Nat->Option (List (Nat×Option Ty))
  | 4=>some [(1,none),(2,none),(3,none)]
  | _=>none

def Nq : Nat->Option (List (Nat×Option Ty))
  | 3=>some [(1,none),(8,none),(9,none),(10,none)]
  | _=>none


def Nr : Nat->Option (List (Nat×Option Ty))
  | 2=>some []
  | 3=>some [(1,none)]
  | 4=>some []
  | 5=>some [(1,none)]
  | 6=>some []
  | 7=>some [(1,none)]
  | _=>none

def Ns : Nat->Option (List (Nat×Option Ty))
  | 11=>some [(3,none)]
  | 6=>some [(1,none),(3,none)]
  | _=>none

def Nt : Nat->Option (List (Nat×Option Ty))
  | 2=>some []
  | 3=>some [(1,none)]
  | 4=>some []
  | 5=>some [(1,none)]
  | _=>none

def Nu : Nat->Option (List (Nat×Option Ty))
  | 10=>some [(3,none)]
  | 6=>some [(1,none),(3,none)]
  | _=>none

def Nv : Nat->Option (List (Nat×Option Ty))
  | 16=>some [(0,none),(5,none),(6,none),(8,none)]
  | 5=>some [(0,none),(5,none),(6,none)]
  | _=>none

def Nw : Nat->Option (List (Nat×Option Ty))
  | 8=>some [(0,none),(6,none)]
  | _=>none

def Nx : Nat->Option (List (Nat×Option Ty))
  | 2=>some [(5,none),(6,none),(7,none)]
  | _=>none



def Ny : Nat->Option (List (Nat×Option Ty))
  | 3=>some [(3,none),(8,none),(9,none),(10,none)]
  | _=>none

def Nz : Nat->Option (List (Nat×Option Ty))
  | 2=>some [(1,none),(2,none),(5,none)]
  | _=>none

def NA : Nat->Option (List (Nat×Option Ty))
  | 3=>some [(1,none),(3,none),(4,none)]
  | _=>none

def NC : Nat->Option (List (Nat×Option Ty))
  | 8=>some [(7,none),(24,none),(25,none),(26,none)]
  | 11=>some [(7,none),(9,none),(24,none),(25,none),(26,none),(32,none),(33,none),(34,none)]
  | _=>none

def ND : Nat->Option (List (Nat×Option Ty))
  | 6=>some [(2,none),(5,none),(8,none),(9,none)]
  | _=>none

def NE : Nat->Option (List (Nat×Option Ty))
  | 3=>some [(0,none),(3,none),(4,none)]
  | _=>none

def NG : Nat->Option (List (Nat×Option Ty))
  | 3=>some [(1,none),(7,none),(8,none),(9,none)]
  | 15=>some [(1,none),(7,none),(8,none),(9,none)]
  | _=>none

def NH : Nat->Option (List (Nat×Option Ty))
  | 3=>some [(3,none),(7,none),(8,none),(9,none)]
  | _=>none


def NI : Nat->Option (List (Nat×Option Ty))
  | 11=>some [(1,none),(4,none),(36,none),(37,none),(38,none)]
  | _=>none

def NJ : Nat->Option (List (Nat×Option Ty))
  | 8=>some [(3,none)]
  | _=>none

def NK : Nat->Option (List (Nat×Option Ty))
  | 2=>some []
  | 3=>some [(1,none)]
  | _=>none

def NL : Nat->Option (List (Nat×Option Ty))
  | 23=>some [(0,none),(3,none),(4,none)]
  | _=>none

def NM : Nat->Option (List (Nat×Option Ty))
  | 8=>some [(1,none),(3,none)]
  | _=>none

def NN : Nat->Option (List (Nat×Option Ty))
  | 2=>some [(0,none),(1,none),(5,none)]
  | 3=>some [(0,none),(1,none),(5,none)]
  | 5=>some []
  | _=>none

def NO : Nat->Option (List (Nat×Option Ty))
  | 4=>some [(0,none),(5,none),(6,none),(7,none)]
  | _=>none

def NP : Nat->Option (List (Nat×Option Ty))
  | 2=>some [(1,none),(7,none),(8,none),(9,none)]
  | _=>none

def NQ : Nat->Option (List (Nat×Option Ty))
  | 2=>some [(0,none),(1,none),(2,none),(7,none)]
  | _=>none

def NR : Nat->Option (List (Nat×Option Ty))
  | 13=>some [(0,none),(1,none)]
  | _=>none

def NS : Nat->Option (List (Nat×Option Ty))
  | 11=>some [(0,none),(2,none),(4,none)]
  | 12=>some [(0,none),(2,none),(4,none),(5,none)]
  | 5=>some [(0,none),(2,none),(4,none),(5,none)]
  | 7=>some [(2,none)]
  | _=>none

def NT : Nat->Option (List (Nat×Option Ty))
  | 2=>some []
  | 3=>some [(0,none),(1,none)]
  | 4=>some [(0,none),(1,none),(5,none)]
  | _=>none


def NU : Nat->Option (List (Nat×Option Ty))
  | 3=>some [(4,none),(10,none),(11,none),(12,none)]
  | 12=>some [(4,none),(10,none),(11,none),(12,none)]
  | _=>none

def NV : Nat->Option (List (Nat×Option Ty))
  | 3=>some [(0,none),(3,none),(4,none),(5,none),(10,none),(11,none)]
  | 14=>some [(0,none),(3,none),(4,none),(5,none),(10,none),(11,none)]
  | _=>none

def NW : Nat->Option (List (Nat×Option Ty))
  | 2=>some [(0,none),(1,none),(7,none),(8,none)]
  | _=>none

def NX : Nat->Option (List (Nat×Option Ty))
  | 18=>some [(5,none),(10,none),(11,none)]
  | 22=>some [(5,none),(10,none),(11,none),(12,none),(13,none)]
  | 6=>some [(5,none),(6,none),(7,none)]
  | 7=>some [(5,none),(6,none),(7,none)]
  | _=>none

def NY : Nat->Option (List (Nat×Option Ty))
  | 32=>some [(2,none),(9,none),(10,none)]
  | 4=>some [(0,none),(2,none),(4,none)]
  | 38=>some [(2,none)]
  | 39=>some [(2,none),(9,none)]
  | 9=>some [(0,none),(2,none),(5,none)]
  | 12=>some [(2,none)]
  | 13=>some [(0,none),(2,none),(5,none)]
  | 22=>some [(2,none),(9,none),(10,none)]
  | 26=>some [(2,none),(9,none),(10,none)]
  | _=>none

def Lz : Nat->Option (List (Nat×Option Ty))
  | 2=>some [(1,none),(7,none),(8,none),(9,none)]
  | _=>none

def LA : Nat->Option (List (Nat×Option Ty))
  | 3=>some [(3,none),(13,none),(14,none),(15,none)]
  | _=>none

def LB : Nat->Option (List (Nat×Option Ty))
  | 21=>some []
  | 11=>some []
  | 12=>some [(3,none)]
  | 20=>some []
  | _=>none


def LC : Nat->Option (List (Nat×Option Ty))
  | 21=>some []
  | 11=>some []
  | 12=>some [(6,none)]
  | 20=>some []
  | _=>none

def LD : Nat->Option (List (Nat×Option Ty))
  | 4=>some [(0,none),(3,none)]
  | _=>none

def LE : Nat->Option (List (Nat×Option Ty))
  | 10=>some [(0,none),(1,none),(4,none),(8,none),(9,none)]
  | 11=>some [(0,none),(1,none),(4,none),(8,none),(9,none)]
  | 13=>some [(1,none),(4,none),(8,none),(9,none)]
  | 18=>some [(0,none),(1,none),(4,none),(6,none),(10,none)]
  | 21=>some [(4,none)]
  | 22=>some [(0,none),(1,none),(4,none),(10,none)]
  | 27=>some [(1,none),(4,none),(6,none),(11,none),(12,none)]
  | _=>none



def LF : Nat->Option (List (Nat×Option Ty))
  | 2=>some [(0,none),(3,none)]
  | _=>none

def LG : Nat->Option (List (Nat×Option Ty))
  | 5=>some [(0,none),(3,none),(4,none),(5,none),(6,none)]
  | 6=>some [(0,none),(3,none),(4,none),(5,none),(6,none)]
  | _=>none

def LH : Nat->Option (List (Nat×Option Ty))
  | 6=>some [(0,none),(2,none),(3,none),(4,none)]
  | 7=>some [(0,none),(2,none),(3,none),(4,none)]
  | 8=>some [(0,none),(2,none),(3,none),(4,none)]
  | 10=>some [(0,none),(2,none),(3,none),(4,none)]
  | 11=>some [(0,none),(2,none),(3,none),(4,none),(5,none)]
  | 12=>some [(0,none),(2,none),(3,none),(4,none)]
  | 13=>some [(0,none),(2,none),(3,none),(4,none)]
  | 15=>some [(2,none),(3,none)]
  | _=>none


def LI : Nat->Option (List (Nat×Option Ty))
  | 5=>some [(1,none),(17,none),(18,none),(19,none)]
  | _=>none

def LJ : Nat->Option (List (Nat×Option Ty))
  | 4=>some [(1,none),(2,none),(15,none),(16,none),(17,none)]
  | _=>none

def LK : Nat->Option (List (Nat×Option Ty))
  | 3=>some [(0,none),(1,none)]
  | 4=>some [(0,none),(1,none)]
  | 5=>some [(1,none)]
  | _=>none

def LM : Nat->Option (List (Nat×Option Ty))
  | 2=>some [(0,none),(1,none),(5,none)]
  | _=>none

def LN : Nat->Option (List (Nat×Option Ty))
  | 11=>some []
  | 12=>some []
  | _=>none


def LO : Nat->Option (List (Nat×Option Ty))
  | 2=>some [(6,none)]
  | 3=>some [(0,none),(1,none),(2,none),(6,none)]
  | _=>none









def LP : Nat->Option (List (Nat×Option Ty))
  | 4=>some [(0,none),(1,none),(5,none),(6,none),(7,none)]
  | _=>none




def LQ : Nat->Option (List (Nat×Option Ty))
  | 19=>some [(1,none),(3,none)]
  | 18=>some [(3,none)]
  | 11=>some []
  | 12=>some [(1,none),(3,none)]
  | _=>none

def LR : Nat->Option (List (Nat×Option Ty))
  | 3=>some [(0,none),(3,none),(4,none)]
  | _=>none

def LS : Nat->Option (List (Nat×Option Ty))
  | 4=>some [(0,none),(3,none)]
  | _=>none



def LT : Nat->Option (List (Nat×Option Ty))
  | 2=>some [(1,none),(7,none),(8,none),(9,none)]
  | _=>none

def LU : Nat->Option (List (Nat×Option Ty))
  | 6=>some [(0,none),(1,none),(4,none),(6,none)]
  | _=>none



def LV : Nat->Option (List (Nat×Option Ty))
  | 4=>some [(0,none),(3,none)]
  | _=>none

def LW : Nat->Option (List (Nat×Option Ty))
  | 9=>some [(1,none),(6,none)]
  | 10=>some [(6,none),(9,none),(10,none)]
  | _=>none



def LX : Nat->Option (List (Nat×Option Ty))
  | 32=>some [(0,none),(3,none),(4,none)]
  | 13=>some [(0,none),(3,none)]
  | 14=>some [(0,none),(4,none),(8,none)]
  | 26=>some [(0,none),(4,none)]
  | 27=>some [(0,none),(4,none),(8,none)]
  | 31=>some []
  | _=>none


def LY : Nat->Option (List (Nat×Option Ty))
  | 8=>some [(0,none),(2,none),(5,none),(6,none)]
  | 13=>some [(2,none),(5,none),(6,none)]
  | 7=>some [(0,none),(2,none),(5,none),(6,none)]
  | _=>none

def LZ : Nat->Option (List (Nat×Option Ty))
  | 8=>some [(0,none),(1,none),(6,none),(7,none)]
  | 10=>some [(0,none),(7,none)]
  | 7=>some [(0,none),(1,none),(6,none),(7,none)]
  | _=>none




def L3 : Nat->Option (List (Nat×Option Ty))
  | 2=>some [(0,none),(2,none),(3,none)]
  | _=>none


def L4 : Nat->Option (List (Nat×Option Ty))
  | 2=>some [(0,none),(1,none),(4,none),(6,none)]
  | _=>none

def L5 : Nat->Option (List (Nat×Option Ty))
  | 8=>some [(3,none),(15,none)]
  | 7=>some [(3,none)]
  | _=>none


def L9 : Nat->Option (List (Nat×Option Ty))
  | 9=>some []
  | 10=>some []
  | _=>none

def Ma : Nat->Option (List (Nat×Option Ty))
  | 26=>some [(2,none),(4,none)]
  | 21=>some [(0,none),(2,none),(4,none)]
  | 22=>some [(0,none),(2,none),(4,none)]
  | _=>none

def Mb : Nat->Option (List (Nat×Option Ty))
  | 2=>some [(0,none),(2,none),(3,none)]
  | _=>none

def Me : Nat->Option (List (Nat×Option Ty))
  | 4=>some [(0,none),(4,none)]
  | _=>none

def Mf : Nat->Option (List (Nat×Option Ty))
  | 2=>some []
  | 3=>some [(0,none)]
  | _=>none

def Mg : Nat->Option (List (Nat×Option Ty))
  | 4=>some [(0,none),(4,none),(5,none)]
  | _=>none

def Mh : Nat->Option (List (Nat×Option Ty))
  | 2=>some [(0,none),(2,none),(3,none)]
  | 6=>some [(0,none),(2,none),(3,none),(4,none)]
  | _=>none

def Mi : Nat->Option (List (Nat×Option Ty))
  | 2=>some []
  | 3=>some [(0,none)]
  | _=>none

def Mj : Nat->Option (List (Nat×Option Ty))
  | 2=>some [(0,none),(2,none),(3,none)]
  | 6=>some [(0,none),(2,none),(3,none),(4,none)]
  | _=>none

def Mk : Nat->Option (List (Nat×Option Ty))
  | 2=>some [(0,none),(2,none),(3,none)]
  | 6=>some [(0,none),(2,none),(3,none),(4,none)]
  | _=>none

def Ol : FuncId->Nat->Option (List (Nat×Option Ty))
  | 10=>Nm
  | 15=>Nn
  | 16=>No
  | 19=>Np
  | 20=>Nq
  | 23=>Nr
  | 24=>Ns
  | 25=>Nt
  | 26=>Nu
  | 32=>Nv
  | 33=>Nw
  | 34=>Nx
  | 42=>Ny
  | 44=>Nz
  | 45=>NA
  | 46=>NC
  | 50=>ND
  | 51=>NE
  | 53=>NG
  | 54=>NH
  | 63=>NI
  | 64=>NJ
  | 66=>NK
  | 69=>NL
  | 70=>NM
  | 71=>NN
  | 72=>NO
  | 73=>NP
  | 78=>NQ
  | 82=>NR
  | 84=>NS
  | 85=>NT
  | 91=>NU
  | 92=>NV
  | 94=>NW
  | 96=>NX
  | 97=>NY
  | 102=>Lz
  | 103=>LA
  | 107=>LB
  | 114=>LC
  | 116=>LD
  | 118=>LE
  | 138=>LF
  | 141=>LG
  | 146=>LH
  | 150=>LI
  | 151=>LJ
  | 156=>LK
  | 159=>LM
  | 162=>LN
  | 169=>LO
  | 180=>LP
  | 192=>LQ
  | 195=>LR
  | 196=>LS
  | 201=>LT
  | 203=>LU
  | 209=>LV
  | 211=>LW
  | 222=>LX
  | 229=>LY
  | 230=>LZ
  | 237=>L3
  | 246=>L4
  | 248=>L5
  | 251=>L9
  | 252=>Ma
  | 254=>Mb
  | 257=>Me
  | 258=>Mf
  | 259=>Mg
  | 260=>Mh
  | 261=>Mi
  | 262=>Mj
  | 263=>Mk
  | _=>fun _=>none

def extT : FuncId->Option (Sigma fun rt:List Ty=>List (V GG.S)->Option (tL GG.S rt))
  | 30=>some ⟨[.str,.str,.bool],JW⟩
  | 99=>some ⟨[.str],JV⟩
  | 109=>some ⟨[.str],JU⟩
  | 123=>some ⟨[.int .i64,.bool],zV⟩
  | 125=>some ⟨[.int .i64],tR⟩
  | 132=>some ⟨[.str],zU⟩
  | 135=>some ⟨[.str],JT⟩
  | 147=>some ⟨[.sl .str],Gu⟩
  | 153=>some ⟨[.bool],wR⟩
  | _=>none

def bldF : FuncId->Option (Nat×TypeId×TypeId)
  | 88=>some (1,119,5)
  | 89=>some (3,119,5)
  | _=>none

def ctorT : FuncId->Option (TypeId×(List (V GG.S)->Option (List (V GG.S))))
  | 22=>some (94,MU)
  | _=>none

noncomputable def CC : Cfg GG where
  P:=Tryz.prog
  refs:=fun f=>[21,33,37,38,39,40,56,57,58,82,83,84,86,100,127,129,130,144,146,184,185,203,229,230,236,237,246,247,250,252,253,254,257,258,259,260,262,263].contains f
  ext:=U.extT
  cut:=Ol
  glob:=fun _=>none
  gint:=fun g=>g==0
  gerr:=fun _=>false
  pint:=fun _=>none
  cln:=fun _=>none
  gtab:=fun | 1=>some ((Lib.pow10Tab.map fun z=>Value.int .u64 z).toArray) | _=>none
  own:=fun _=>none
  bld:=U.bldF
  ctor:=U.ctorT
  eat:=fun _=>none
  trE:=fun e=>[88].contains e
  ownR:=fun f=>[53].contains f
  eatR:=fun f=>[].contains f
  wrf:=fun f=>[].contains f
  grw:=fun _=>none
  unl:=fun f=>[10,33,82].contains f

end Go.Dv.U
