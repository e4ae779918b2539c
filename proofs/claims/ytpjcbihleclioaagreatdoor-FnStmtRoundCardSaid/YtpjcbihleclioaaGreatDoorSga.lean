/- The types of this program and the qL where its loops are cut. -/
import Derived.Test.YtpjcbihleclioaaGreatDoorDvc
import Derived.Test.YtpjcbihleclioaaGreatDoorChecked
set_option linter.all false
set_option linter.unusedVariables false
set_option linter.unusedSimpArgs false
namespace Go.Dv.U

open Go Go.Dv Go.Proofs

set_option maxRecDepth 100000

structure aj where
  fX:Int
  fY:Int
  fSigned:Bool
  fCode:Int

structure ai where
  fMsg:(List UInt8)
  fAddr:Int

structure aa where
  fKind:Int
  fNum:Int
  fText:(List UInt8)
  fKids:(List aa)

structure ax where
  fAlways:(List UInt8)
  fSuccess:(List UInt8)
  fFailure:(List UInt8)

structure ab where
  fLabel:(List UInt8)
  fHasSubject:Bool
  fSubject:aa
  fHasPattern:Bool
  fPattern:aa
  fHasReplace:Bool
  fReplace:aa
  fGoto:ax

structure aT where
  fStatements:(List ab)

structure ae where
  fKind:Int
  fNum:Int
  fText:(List UInt8)
  fBefore:Bool
  fAfter:Bool

structure bO where
  fTokens:(List ae)
  fAt:Int

structure dp where
  fNumber:Int
  fText:(List UInt8)

structure au where
  fName:(List UInt8)
  fLines:(List (List UInt8))
  fInput:(List (List UInt8))
  fOutput:(List (List UInt8))

structure bP where
  fName:(List UInt8)
  fSource:(List (List UInt8))
  fInput:(List (List UInt8))
  fOutput:(List (List UInt8))

structure az where
  fCode:(List Int)
  fAt:Int
  fSeed:Int

structure ap where
  fTokens:(List ae)
  fAt:Int
  fCode:Int

structure aq where
  fTokens:(List ae)
  fAt:Int
  fArgs:Bool
  fCode:Int

structure al where
  fLo:Int
  fHi:Int

structure ak where
  fS:(List UInt8)

structure bp where
  fKind:Int
  fNum:Int
  fText:(List UInt8)
  fRef:Int

structure bi where
  fId:Int
  fKind:Int
  fName:(List UInt8)
  fLow:Int
  fKeys:(List bp)
  fVals:(List bp)
  fDefault:bp

structure dq where
  fNext:Int
  fObjects:(List bi)

structure aR where
  fName:(List UInt8)
  fValue:bp

structure aJ where
  fName:(List UInt8)
  fParams:(List (List UInt8))
  fLocals:(List (List UInt8))
  fLabel:(List UInt8)

structure aw where
  fName:(List UInt8)
  fFields:(List (List UInt8))

structure bT where
  fVars:(List aR)
  fFunctions:(List aJ)
  fTypes:(List aw)

structure dz where
  fName:(List UInt8)
  fLines:(List (List UInt8))
  fMode:Int
  fAt:Int

structure aO where
  fInput:(List (List UInt8))
  fAt:Int
  fOutput:(List (List UInt8))
  fFiles:(List dz)
  fTrace:(List (List UInt8))

structure bg where
  fHeap:dq
  fScope:bT
  fConsole:aO

structure aX where
  fMemory:bg
  fAt:Int
  fSteps:Int
  fCode:Int

def SS : Nat->Type
  | 7=>aj
  | 13=>ai
  | 25=>aa
  | 27=>ax
  | 29=>ab
  | 40=>aT
  | 61=>bO
  | 77=>dp
  | 82=>au
  | 87=>bP
  | 93=>az
  | 107=>ae
  | 152=>ap
  | 220=>aq
  | 230=>al
  | 237=>ak
  | 257=>dq
  | 262=>bT
  | 265=>aO
  | 267=>bg
  | 269=>aX
  | 272=>bp
  | 274=>bi
  | 276=>aR
  | 278=>aJ
  | 280=>aw
  | 282=>dz
  | _=>Empty

def aj.ts : List Ty:=[(.int .i64),(.int .i64),.bool,(.int .u8)]

def aj.to (x:aj):dW SS aj.ts:=(x.fX,x.fY,x.fSigned,x.fCode,())

def aj.of (p:dW SS aj.ts):aj:=(⟨p.1,p.2.1,p.2.2.1,p.2.2.2.1⟩:aj)

def ai.ts : List Ty:=[.str,(.int .u64)]

def ai.to (x:ai):dW SS ai.ts:=(x.fMsg,x.fAddr,())

def ai.of (p:dW SS ai.ts):ai:=(⟨p.1,p.2.1⟩:ai)

def aa.ts : List Ty:=[(.int .i64),(.int .i64),.str,(.sl (.st 25))]

def aa.to (x:aa):dW SS aa.ts:=(x.fKind,x.fNum,x.fText,x.fKids,())

def aa.of (p:dW SS aa.ts):aa:=(⟨p.1,p.2.1,p.2.2.1,p.2.2.2.1⟩:aa)

def ax.ts : List Ty:=[.str,.str,.str]

def ax.to (x:ax):dW SS ax.ts:=(x.fAlways,x.fSuccess,x.fFailure,())

def ax.of (p:dW SS ax.ts):ax:=(⟨p.1,p.2.1,p.2.2.1⟩:ax)

def ab.ts : List Ty:=[.str,.bool,(.int .i64),(.int .i64),.str,(.sl (.st 25)),.bool,(.int .i64),(.int .i64),.str,(.sl (.st 25)),.bool,(.int .i64),(.int .i64),.str,(.sl (.st 25)),.str,.str,.str]

def ab.to (x:ab):dW SS ab.ts:=(x.fLabel,x.fHasSubject,x.fSubject.fKind,x.fSubject.fNum,x.fSubject.fText,x.fSubject.fKids,x.fHasPattern,x.fPattern.fKind,x.fPattern.fNum,x.fPattern.fText,x.fPattern.fKids,x.fHasReplace,x.fReplace.fKind,x.fReplace.fNum,x.fReplace.fText,x.fReplace.fKids,x.fGoto.fAlways,x.fGoto.fSuccess,x.fGoto.fFailure,())

def ab.of (p:dW SS ab.ts):ab:=(⟨p.1,p.2.1,(⟨p.2.2.1,p.2.2.2.1,p.2.2.2.2.1,p.2.2.2.2.2.1⟩:aa),p.2.2.2.2.2.2.1,(⟨p.2.2.2.2.2.2.2.1,p.2.2.2.2.2.2.2.2.1,p.2.2.2.2.2.2.2.2.2.1,p.2.2.2.2.2.2.2.2.2.2.1⟩:aa),p.2.2.2.2.2.2.2.2.2.2.2.1,(⟨p.2.2.2.2.2.2.2.2.2.2.2.2.1,p.2.2.2.2.2.2.2.2.2.2.2.2.2.1,p.2.2.2.2.2.2.2.2.2.2.2.2.2.2.1,p.2.2.2.2.2.2.2.2.2.2.2.2.2.2.2.1⟩:aa),(⟨p.2.2.2.2.2.2.2.2.2.2.2.2.2.2.2.2.1,p.2.2.2.2.2.2.2.2.2.2.2.2.2.2.2.2.2.1,p.2.2.2.2.2.2.2.2.2.2.2.2.2.2.2.2.2.2.1⟩:ax)⟩:ab)

def aT.ts : List Ty:=[(.sl (.st 29))]

def aT.to (x:aT):dW SS aT.ts:=(x.fStatements,())

def aT.of (p:dW SS aT.ts):aT:=(⟨p.1⟩:aT)

def bO.ts : List Ty:=[(.sl (.st 107)),(.int .i64)]

def bO.to (x:bO):dW SS bO.ts:=(x.fTokens,x.fAt,())

def bO.of (p:dW SS bO.ts):bO:=(⟨p.1,p.2.1⟩:bO)

def dp.ts : List Ty:=[(.int .i64),.str]

def dp.to (x:dp):dW SS dp.ts:=(x.fNumber,x.fText,())

def dp.of (p:dW SS dp.ts):dp:=(⟨p.1,p.2.1⟩:dp)

def au.ts : List Ty:=[.str,(.sl .str),(.sl .str),(.sl .str)]

def au.to (x:au):dW SS au.ts:=(x.fName,x.fLines,x.fInput,x.fOutput,())

def au.of (p:dW SS au.ts):au:=(⟨p.1,p.2.1,p.2.2.1,p.2.2.2.1⟩:au)

def bP.ts : List Ty:=[.str,(.sl .str),(.sl .str),(.sl .str)]

def bP.to (x:bP):dW SS bP.ts:=(x.fName,x.fSource,x.fInput,x.fOutput,())

def bP.of (p:dW SS bP.ts):bP:=(⟨p.1,p.2.1,p.2.2.1,p.2.2.2.1⟩:bP)

def az.ts : List Ty:=[(.sl (.int .u8)),(.int .i64),(.int .u64)]

def az.to (x:az):dW SS az.ts:=(x.fCode,x.fAt,x.fSeed,())

def az.of (p:dW SS az.ts):az:=(⟨p.1,p.2.1,p.2.2.1⟩:az)

def ae.ts : List Ty:=[(.int .i64),(.int .i64),.str,.bool,.bool]

def ae.to (x:ae):dW SS ae.ts:=(x.fKind,x.fNum,x.fText,x.fBefore,x.fAfter,())

def ae.of (p:dW SS ae.ts):ae:=(⟨p.1,p.2.1,p.2.2.1,p.2.2.2.1,p.2.2.2.2.1⟩:ae)

def ap.ts : List Ty:=[(.sl (.st 107)),(.int .i64),(.int .i64)]

def ap.to (x:ap):dW SS ap.ts:=(x.fTokens,x.fAt,x.fCode,())

def ap.of (p:dW SS ap.ts):ap:=(⟨p.1,p.2.1,p.2.2.1⟩:ap)

def aq.ts : List Ty:=[(.sl (.st 107)),(.int .i64),.bool,(.int .i64)]

def aq.to (x:aq):dW SS aq.ts:=(x.fTokens,x.fAt,x.fArgs,x.fCode,())

def aq.of (p:dW SS aq.ts):aq:=(⟨p.1,p.2.1,p.2.2.1,p.2.2.2.1⟩:aq)

def al.ts : List Ty:=[(.int .u8),(.int .u8)]

def al.to (x:al):dW SS al.ts:=(x.fLo,x.fHi,())

def al.of (p:dW SS al.ts):al:=(⟨p.1,p.2.1⟩:al)

def ak.ts : List Ty:=[.str]

def ak.to (x:ak):dW SS ak.ts:=(x.fS,())

def ak.of (p:dW SS ak.ts):ak:=(⟨p.1⟩:ak)

def dq.ts : List Ty:=[(.int .i64),(.sl (.st 274))]

def dq.to (x:dq):dW SS dq.ts:=(x.fNext,x.fObjects,())

def dq.of (p:dW SS dq.ts):dq:=(⟨p.1,p.2.1⟩:dq)

def bT.ts : List Ty:=[(.sl (.st 276)),(.sl (.st 278)),(.sl (.st 280))]

def bT.to (x:bT):dW SS bT.ts:=(x.fVars,x.fFunctions,x.fTypes,())

def bT.of (p:dW SS bT.ts):bT:=(⟨p.1,p.2.1,p.2.2.1⟩:bT)

def aO.ts : List Ty:=[(.sl .str),(.int .i64),(.sl .str),(.sl (.st 282)),(.sl .str)]

def aO.to (x:aO):dW SS aO.ts:=(x.fInput,x.fAt,x.fOutput,x.fFiles,x.fTrace,())

def aO.of (p:dW SS aO.ts):aO:=(⟨p.1,p.2.1,p.2.2.1,p.2.2.2.1,p.2.2.2.2.1⟩:aO)

def bg.ts : List Ty:=[(.int .i64),(.sl (.st 274)),(.sl (.st 276)),(.sl (.st 278)),(.sl (.st 280)),(.sl .str),(.int .i64),(.sl .str),(.sl (.st 282)),(.sl .str)]

def bg.to (x:bg):dW SS bg.ts:=(x.fHeap.fNext,x.fHeap.fObjects,x.fScope.fVars,x.fScope.fFunctions,x.fScope.fTypes,x.fConsole.fInput,x.fConsole.fAt,x.fConsole.fOutput,x.fConsole.fFiles,x.fConsole.fTrace,())

def bg.of (p:dW SS bg.ts):bg:=(⟨(⟨p.1,p.2.1⟩:dq),(⟨p.2.2.1,p.2.2.2.1,p.2.2.2.2.1⟩:bT),(⟨p.2.2.2.2.2.1,p.2.2.2.2.2.2.1,p.2.2.2.2.2.2.2.1,p.2.2.2.2.2.2.2.2.1,p.2.2.2.2.2.2.2.2.2.1⟩:aO)⟩:bg)

def aX.ts : List Ty:=[(.int .i64),(.sl (.st 274)),(.sl (.st 276)),(.sl (.st 278)),(.sl (.st 280)),(.sl .str),(.int .i64),(.sl .str),(.sl (.st 282)),(.sl .str),(.int .i64),(.int .i64),(.int .i64)]

def aX.to (x:aX):dW SS aX.ts:=(x.fMemory.fHeap.fNext,x.fMemory.fHeap.fObjects,x.fMemory.fScope.fVars,x.fMemory.fScope.fFunctions,x.fMemory.fScope.fTypes,x.fMemory.fConsole.fInput,x.fMemory.fConsole.fAt,x.fMemory.fConsole.fOutput,x.fMemory.fConsole.fFiles,x.fMemory.fConsole.fTrace,x.fAt,x.fSteps,x.fCode,())

def aX.of (p:dW SS aX.ts):aX:=(⟨(⟨(⟨p.1,p.2.1⟩:dq),(⟨p.2.2.1,p.2.2.2.1,p.2.2.2.2.1⟩:bT),(⟨p.2.2.2.2.2.1,p.2.2.2.2.2.2.1,p.2.2.2.2.2.2.2.1,p.2.2.2.2.2.2.2.2.1,p.2.2.2.2.2.2.2.2.2.1⟩:aO)⟩:bg),p.2.2.2.2.2.2.2.2.2.2.1,p.2.2.2.2.2.2.2.2.2.2.2.1,p.2.2.2.2.2.2.2.2.2.2.2.2.1⟩:aX)

def bp.ts : List Ty:=[(.int .i64),(.int .i64),.str,(.int .i64)]

def bp.to (x:bp):dW SS bp.ts:=(x.fKind,x.fNum,x.fText,x.fRef,())

def bp.of (p:dW SS bp.ts):bp:=(⟨p.1,p.2.1,p.2.2.1,p.2.2.2.1⟩:bp)

def bi.ts : List Ty:=[(.int .i64),(.int .i64),.str,(.int .i64),(.sl (.st 272)),(.sl (.st 272)),(.int .i64),(.int .i64),.str,(.int .i64)]

def bi.to (x:bi):dW SS bi.ts:=(x.fId,x.fKind,x.fName,x.fLow,x.fKeys,x.fVals,x.fDefault.fKind,x.fDefault.fNum,x.fDefault.fText,x.fDefault.fRef,())

def bi.of (p:dW SS bi.ts):bi:=(⟨p.1,p.2.1,p.2.2.1,p.2.2.2.1,p.2.2.2.2.1,p.2.2.2.2.2.1,(⟨p.2.2.2.2.2.2.1,p.2.2.2.2.2.2.2.1,p.2.2.2.2.2.2.2.2.1,p.2.2.2.2.2.2.2.2.2.1⟩:bp)⟩:bi)

def aR.ts : List Ty:=[.str,(.int .i64),(.int .i64),.str,(.int .i64)]

def aR.to (x:aR):dW SS aR.ts:=(x.fName,x.fValue.fKind,x.fValue.fNum,x.fValue.fText,x.fValue.fRef,())

def aR.of (p:dW SS aR.ts):aR:=(⟨p.1,(⟨p.2.1,p.2.2.1,p.2.2.2.1,p.2.2.2.2.1⟩:bp)⟩:aR)

def aJ.ts : List Ty:=[.str,(.sl .str),(.sl .str),.str]

def aJ.to (x:aJ):dW SS aJ.ts:=(x.fName,x.fParams,x.fLocals,x.fLabel,())

def aJ.of (p:dW SS aJ.ts):aJ:=(⟨p.1,p.2.1,p.2.2.1,p.2.2.2.1⟩:aJ)

def aw.ts : List Ty:=[.str,(.sl .str)]

def aw.to (x:aw):dW SS aw.ts:=(x.fName,x.fFields,())

def aw.of (p:dW SS aw.ts):aw:=(⟨p.1,p.2.1⟩:aw)

def dz.ts : List Ty:=[.str,(.sl .str),(.int .i64),(.int .i64)]

def dz.to (x:dz):dW SS dz.ts:=(x.fName,x.fLines,x.fMode,x.fAt,())

def dz.of (p:dW SS dz.ts):dz:=(⟨p.1,p.2.1,p.2.2.1,p.2.2.2.1⟩:dz)

def DQ : (n:Nat)->SS n->List (V SS)
  | 7,x=>cellsL SS aj.ts (aj.to x)
  | 13,x=>cellsL SS ai.ts (ai.to x)
  | 25,x=>cellsL SS aa.ts (aa.to x)
  | 27,x=>cellsL SS ax.ts (ax.to x)
  | 29,x=>cellsL SS ab.ts (ab.to x)
  | 40,x=>cellsL SS aT.ts (aT.to x)
  | 61,x=>cellsL SS bO.ts (bO.to x)
  | 77,x=>cellsL SS dp.ts (dp.to x)
  | 82,x=>cellsL SS au.ts (au.to x)
  | 87,x=>cellsL SS bP.ts (bP.to x)
  | 93,x=>cellsL SS az.ts (az.to x)
  | 107,x=>cellsL SS ae.ts (ae.to x)
  | 152,x=>cellsL SS ap.ts (ap.to x)
  | 220,x=>cellsL SS aq.ts (aq.to x)
  | 230,x=>cellsL SS al.ts (al.to x)
  | 237,x=>cellsL SS ak.ts (ak.to x)
  | 257,x=>cellsL SS dq.ts (dq.to x)
  | 262,x=>cellsL SS bT.ts (bT.to x)
  | 265,x=>cellsL SS aO.ts (aO.to x)
  | 267,x=>cellsL SS bg.ts (bg.to x)
  | 269,x=>cellsL SS aX.ts (aX.to x)
  | 272,x=>cellsL SS bp.ts (bp.to x)
  | 274,x=>cellsL SS bi.ts (bi.to x)
  | 276,x=>cellsL SS aR.ts (aR.to x)
  | 278,x=>cellsL SS aJ.ts (aJ.to x)
  | 280,x=>cellsL SS aw.ts (aw.to x)
  | 282,x=>cellsL SS dz.ts (dz.to x)
  | _,_=>[]

def FQ : (n:Nat)->List (V SS)->Option (SS n)
  | 7,c=>(kF SS aj.ts c).map aj.of
  | 13,c=>(kF SS ai.ts c).map ai.of
  | 25,c=>(kF SS aa.ts c).map aa.of
  | 27,c=>(kF SS ax.ts c).map ax.of
  | 29,c=>(kF SS ab.ts c).map ab.of
  | 40,c=>(kF SS aT.ts c).map aT.of
  | 61,c=>(kF SS bO.ts c).map bO.of
  | 77,c=>(kF SS dp.ts c).map dp.of
  | 82,c=>(kF SS au.ts c).map au.of
  | 87,c=>(kF SS bP.ts c).map bP.of
  | 93,c=>(kF SS az.ts c).map az.of
  | 107,c=>(kF SS ae.ts c).map ae.of
  | 152,c=>(kF SS ap.ts c).map ap.of
  | 220,c=>(kF SS aq.ts c).map aq.of
  | 230,c=>(kF SS al.ts c).map al.of
  | 237,c=>(kF SS ak.ts c).map ak.of
  | 257,c=>(kF SS dq.ts c).map dq.of
  | 262,c=>(kF SS bT.ts c).map bT.of
  | 265,c=>(kF SS aO.ts c).map aO.of
  | 267,c=>(kF SS bg.ts c).map bg.of
  | 269,c=>(kF SS aX.ts c).map aX.of
  | 272,c=>(kF SS bp.ts c).map bp.of
  | 274,c=>(kF SS bi.ts c).map bi.of
  | 276,c=>(kF SS aR.ts c).map aR.of
  | 278,c=>(kF SS aJ.ts c).map aJ.of
  | 280,c=>(kF SS aw.ts c).map aw.of
  | 282,c=>(kF SS dz.ts c).map dz.of
  | _,_=>none

def HH : Nat->Nat
  | 7=>4
  | 13=>2
  | 25=>4
  | 27=>3
  | 29=>19
  | 40=>1
  | 61=>2
  | 77=>2
  | 82=>4
  | 87=>4
  | 93=>3
  | 107=>5
  | 152=>3
  | 220=>4
  | 230=>2
  | 237=>1
  | 257=>2
  | 262=>3
  | 265=>5
  | 267=>10
  | 269=>13
  | 272=>4
  | 274=>10
  | 276=>5
  | 278=>4
  | 280=>2
  | 282=>4
  | _=>0

def Gu : Nat->List Ty
  | 7=>aj.ts
  | 13=>ai.ts
  | 25=>aa.ts
  | 27=>ax.ts
  | 29=>ab.ts
  | 40=>aT.ts
  | 61=>bO.ts
  | 77=>dp.ts
  | 82=>au.ts
  | 87=>bP.ts
  | 93=>az.ts
  | 107=>ae.ts
  | 152=>ap.ts
  | 220=>aq.ts
  | 230=>al.ts
  | 237=>ak.ts
  | 257=>dq.ts
  | 262=>bT.ts
  | 265=>aO.ts
  | 267=>bg.ts
  | 269=>aX.ts
  | 272=>bp.ts
  | 274=>bi.ts
  | 276=>aR.ts
  | 278=>aJ.ts
  | 280=>aw.ts
  | 282=>dz.ts
  | n=>[.st n]

def HI : TypeId->Option Ty
  | 2=>some (.int .i64)
  | 3=>some (.int .i64)
  | 4=>some .bool
  | 5=>some (.int .u8)
  | 6=>some (.int .u8)
  | 7=>some (.st 7)
  | 8=>some (.st 7)
  | 9=>some .str
  | 10=>some .str
  | 11=>some .str
  | 12=>some (.int .u64)
  | 13=>some (.st 13)
  | 14=>some (.st 13)
  | 21=>some (.int .i32)
  | 22=>some (.sl (.int .u8))
  | 24=>some (.sl (.st 25))
  | 25=>some (.st 25)
  | 26=>some (.st 25)
  | 27=>some (.st 27)
  | 28=>some (.st 27)
  | 29=>some (.st 29)
  | 30=>some (.st 29)
  | 39=>some (.sl (.st 29))
  | 40=>some (.st 40)
  | 41=>some (.st 40)
  | 51=>some (.ptr (.st 93))
  | 53=>some (.sl (.st 107))
  | 60=>some (.ptr (.st 61))
  | 61=>some (.st 61)
  | 62=>some (.st 61)
  | 64=>some (.ptr (.st 29))
  | 70=>some (.sl .str)
  | 74=>some (.sl (.st 77))
  | 77=>some (.st 77)
  | 78=>some (.st 77)
  | 80=>some (.sl (.st 82))
  | 82=>some (.st 82)
  | 83=>some (.st 82)
  | 85=>some (.sl (.st 87))
  | 87=>some (.st 87)
  | 88=>some (.st 87)
  | 92=>some (.int .u64)
  | 93=>some (.st 93)
  | 94=>some (.st 93)
  | 100=>some (.ptr (.st 25))
  | 107=>some (.st 107)
  | 108=>some (.st 107)
  | 113=>some (.sl (.int .i64))
  | 148=>some (.int .u64)
  | 151=>some (.ptr (.st 152))
  | 152=>some (.st 152)
  | 153=>some (.st 152)
  | 191=>some (.int .u32)
  | 210=>some (.int .i64)
  | 219=>some (.ptr (.st 220))
  | 220=>some (.st 220)
  | 221=>some (.st 220)
  | 230=>some (.st 230)
  | 231=>some (.st 230)
  | 236=>some (.ptr (.st 237))
  | 237=>some (.st 237)
  | 238=>some (.st 237)
  | 248=>some (.int .u8)
  | 249=>some (.int .u8)
  | 251=>some (.int .i32)
  | 252=>some (.int .i32)
  | 256=>some (.sl (.st 274))
  | 257=>some (.st 257)
  | 258=>some (.st 257)
  | 259=>some (.sl (.st 276))
  | 260=>some (.sl (.st 278))
  | 261=>some (.sl (.st 280))
  | 262=>some (.st 262)
  | 263=>some (.st 262)
  | 264=>some (.sl (.st 282))
  | 265=>some (.st 265)
  | 266=>some (.st 265)
  | 267=>some (.st 267)
  | 268=>some (.st 267)
  | 269=>some (.st 269)
  | 270=>some (.st 269)
  | 271=>some (.sl (.st 272))
  | 272=>some (.st 272)
  | 273=>some (.st 272)
  | 274=>some (.st 274)
  | 275=>some (.st 274)
  | 276=>some (.st 276)
  | 277=>some (.st 276)
  | 278=>some (.st 278)
  | 279=>some (.st 278)
  | 280=>some (.st 280)
  | 281=>some (.st 280)
  | 282=>some (.st 282)
  | 283=>some (.st 282)
  | _=>none

def sel : Ty->TypeId
  | (.int .i64)=>2
  | (.int .u8)=>5
  | (.st 107)=>108
  | (.st 25)=>26
  | (.st 272)=>273
  | (.st 274)=>275
  | (.st 276)=>277
  | (.st 278)=>279
  | (.st 280)=>281
  | (.st 282)=>283
  | (.st 29)=>30
  | (.st 77)=>78
  | (.st 82)=>83
  | (.st 87)=>88
  | .str=>9
  | _=>0

def sfl : Nat->Bool
  | 7=>true
  | 13=>true
  | 25=>false
  | 27=>true
  | 29=>false
  | 40=>false
  | 61=>false
  | 77=>true
  | 82=>false
  | 87=>false
  | 93=>false
  | 107=>true
  | 152=>false
  | 220=>false
  | 230=>true
  | 237=>true
  | 257=>false
  | 262=>false
  | 265=>false
  | 267=>false
  | 269=>false
  | 272=>true
  | 274=>false
  | 276=>true
  | 278=>false
  | 280=>false
  | 282=>false
  | _=>false

def GG : Sig where
  S:=SS
  csz:=HH
  cells:=DQ
  make:=FQ
  tyOf:=HI
  el:=sel
  fl:=sfl
  tre:=fun e=>[88].contains e

theorem aj.ok : SOk GG 7 aj.ts aj.to aj.of:=⟨rfl,fun _=>rfl,fun _=>rfl,rfl,fun _=>rfl,rfl⟩

theorem ai.ok : SOk GG 13 ai.ts ai.to ai.of:=⟨rfl,fun _=>rfl,fun _=>rfl,rfl,fun _=>rfl,rfl⟩

theorem aa.ok : SOk GG 25 aa.ts aa.to aa.of:=⟨rfl,fun _=>rfl,fun _=>rfl,rfl,fun _=>rfl,rfl⟩

theorem ax.ok : SOk GG 27 ax.ts ax.to ax.of:=⟨rfl,fun _=>rfl,fun _=>rfl,rfl,fun _=>rfl,rfl⟩

theorem ab.ok : SOk GG 29 ab.ts ab.to ab.of:=⟨rfl,fun _=>rfl,fun _=>rfl,rfl,fun _=>rfl,rfl⟩

theorem aT.ok : SOk GG 40 aT.ts aT.to aT.of:=⟨rfl,fun _=>rfl,fun _=>rfl,rfl,fun _=>rfl,rfl⟩

theorem bO.ok : SOk GG 61 bO.ts bO.to bO.of:=⟨rfl,fun _=>rfl,fun _=>rfl,rfl,fun _=>rfl,rfl⟩

theorem dp.ok : SOk GG 77 dp.ts dp.to dp.of:=⟨rfl,fun _=>rfl,fun _=>rfl,rfl,fun _=>rfl,rfl⟩

theorem au.ok : SOk GG 82 au.ts au.to au.of:=⟨rfl,fun _=>rfl,fun _=>rfl,rfl,fun _=>rfl,rfl⟩

theorem bP.ok : SOk GG 87 bP.ts bP.to bP.of:=⟨rfl,fun _=>rfl,fun _=>rfl,rfl,fun _=>rfl,rfl⟩

theorem az.ok : SOk GG 93 az.ts az.to az.of:=⟨rfl,fun _=>rfl,fun _=>rfl,rfl,fun _=>rfl,rfl⟩

theorem ae.ok : SOk GG 107 ae.ts ae.to ae.of:=⟨rfl,fun _=>rfl,fun _=>rfl,rfl,fun _=>rfl,rfl⟩

theorem ap.ok : SOk GG 152 ap.ts ap.to ap.of:=⟨rfl,fun _=>rfl,fun _=>rfl,rfl,fun _=>rfl,rfl⟩

theorem aq.ok : SOk GG 220 aq.ts aq.to aq.of:=⟨rfl,fun _=>rfl,fun _=>rfl,rfl,fun _=>rfl,rfl⟩

theorem al.ok : SOk GG 230 al.ts al.to al.of:=⟨rfl,fun _=>rfl,fun _=>rfl,rfl,fun _=>rfl,rfl⟩

theorem ak.ok : SOk GG 237 ak.ts ak.to ak.of:=⟨rfl,fun _=>rfl,fun _=>rfl,rfl,fun _=>rfl,rfl⟩

theorem dq.ok : SOk GG 257 dq.ts dq.to dq.of:=⟨rfl,fun _=>rfl,fun _=>rfl,rfl,fun _=>rfl,rfl⟩

theorem bT.ok : SOk GG 262 bT.ts bT.to bT.of:=⟨rfl,fun _=>rfl,fun _=>rfl,rfl,fun _=>rfl,rfl⟩

theorem aO.ok : SOk GG 265 aO.ts aO.to aO.of:=⟨rfl,fun _=>rfl,fun _=>rfl,rfl,fun _=>rfl,rfl⟩

theorem bg.ok : SOk GG 267 bg.ts bg.to bg.of:=⟨rfl,fun _=>rfl,fun _=>rfl,rfl,fun _=>rfl,rfl⟩

theorem aX.ok : SOk GG 269 aX.ts aX.to aX.of:=⟨rfl,fun _=>rfl,fun _=>rfl,rfl,fun _=>rfl,rfl⟩

theorem bp.ok : SOk GG 272 bp.ts bp.to bp.of:=⟨rfl,fun _=>rfl,fun _=>rfl,rfl,fun _=>rfl,rfl⟩

theorem bi.ok : SOk GG 274 bi.ts bi.to bi.of:=⟨rfl,fun _=>rfl,fun _=>rfl,rfl,fun _=>rfl,rfl⟩

theorem aR.ok : SOk GG 276 aR.ts aR.to aR.of:=⟨rfl,fun _=>rfl,fun _=>rfl,rfl,fun _=>rfl,rfl⟩

theorem aJ.ok : SOk GG 278 aJ.ts aJ.to aJ.of:=⟨rfl,fun _=>rfl,fun _=>rfl,rfl,fun _=>rfl,rfl⟩

theorem aw.ok : SOk GG 280 aw.ts aw.to aw.of:=⟨rfl,fun _=>rfl,fun _=>rfl,rfl,fun _=>rfl,rfl⟩

theorem dz.ok : SOk GG 282 dz.ts dz.to dz.of:=⟨rfl,fun _=>rfl,fun _=>rfl,rfl,fun _=>rfl,rfl⟩

def aj.re (x:aj):aj:=aj.mk x.fX x.fY x.fSigned x.fCode

@[simp] theorem aj.re_eq (x:aj):x.re=x:=by cases x;rfl

theorem aj.eta (x:aj):aj.mk x.fX x.fY x.fSigned x.fCode=x:=by cases x;rfl

def ai.re (x:ai):ai:=ai.mk x.fMsg x.fAddr

@[simp] theorem ai.re_eq (x:ai):x.re=x:=by cases x;rfl

theorem ai.eta (x:ai):ai.mk x.fMsg x.fAddr=x:=by cases x;rfl

def aa.re (x:aa):aa:=aa.mk x.fKind x.fNum x.fText x.fKids

@[simp] theorem aa.re_eq (x:aa):x.re=x:=by cases x;rfl

theorem aa.eta (x:aa):aa.mk x.fKind x.fNum x.fText x.fKids=x:=by cases x;rfl

def ax.re (x:ax):ax:=ax.mk x.fAlways x.fSuccess x.fFailure

@[simp] theorem ax.re_eq (x:ax):x.re=x:=by cases x;rfl

theorem ax.eta (x:ax):ax.mk x.fAlways x.fSuccess x.fFailure=x:=by cases x;rfl

def ab.re (x:ab):ab:=ab.mk x.fLabel x.fHasSubject x.fSubject x.fHasPattern x.fPattern x.fHasReplace x.fReplace x.fGoto

@[simp] theorem ab.re_eq (x:ab):x.re=x:=by cases x;rfl

theorem ab.eta (x:ab):ab.mk x.fLabel x.fHasSubject x.fSubject x.fHasPattern x.fPattern x.fHasReplace x.fReplace x.fGoto=x:=by cases x;rfl

def aT.re (x:aT):aT:=aT.mk x.fStatements

@[simp] theorem aT.re_eq (x:aT):x.re=x:=by cases x;rfl

theorem aT.eta (x:aT):aT.mk x.fStatements=x:=by cases x;rfl

def bO.re (x:bO):bO:=bO.mk x.fTokens x.fAt

@[simp] theorem bO.re_eq (x:bO):x.re=x:=by cases x;rfl

theorem bO.eta (x:bO):bO.mk x.fTokens x.fAt=x:=by cases x;rfl

def dp.re (x:dp):dp:=dp.mk x.fNumber x.fText

@[simp] theorem dp.re_eq (x:dp):x.re=x:=by cases x;rfl

theorem dp.eta (x:dp):dp.mk x.fNumber x.fText=x:=by cases x;rfl

def au.re (x:au):au:=au.mk x.fName x.fLines x.fInput x.fOutput

@[simp] theorem au.re_eq (x:au):x.re=x:=by cases x;rfl

theorem au.eta (x:au):au.mk x.fName x.fLines x.fInput x.fOutput=x:=by cases x;rfl

def bP.re (x:bP):bP:=bP.mk x.fName x.fSource x.fInput x.fOutput

@[simp] theorem bP.re_eq (x:bP):x.re=x:=by cases x;rfl

theorem bP.eta (x:bP):bP.mk x.fName x.fSource x.fInput x.fOutput=x:=by cases x;rfl

def az.re (x:az):az:=az.mk x.fCode x.fAt x.fSeed

@[simp] theorem az.re_eq (x:az):x.re=x:=by cases x;rfl

theorem az.eta (x:az):az.mk x.fCode x.fAt x.fSeed=x:=by cases x;rfl

def ae.re (x:ae):ae:=ae.mk x.fKind x.fNum x.fText x.fBefore x.fAfter

@[simp] theorem ae.re_eq (x:ae):x.re=x:=by cases x;rfl

theorem ae.eta (x:ae):ae.mk x.fKind x.fNum x.fText x.fBefore x.fAfter=x:=by cases x;rfl

def ap.re (x:ap):ap:=ap.mk x.fTokens x.fAt x.fCode

@[simp] theorem ap.re_eq (x:ap):x.re=x:=by cases x;rfl

theorem ap.eta (x:ap):ap.mk x.fTokens x.fAt x.fCode=x:=by cases x;rfl

def aq.re (x:aq):aq:=aq.mk x.fTokens x.fAt x.fArgs x.fCode

@[simp] theorem aq.re_eq (x:aq):x.re=x:=by cases x;rfl

theorem aq.eta (x:aq):aq.mk x.fTokens x.fAt x.fArgs x.fCode=x:=by cases x;rfl

def al.re (x:al):al:=al.mk x.fLo x.fHi

@[simp] theorem al.re_eq (x:al):x.re=x:=by cases x;rfl

theorem al.eta (x:al):al.mk x.fLo x.fHi=x:=by cases x;rfl

def ak.re (x:ak):ak:=ak.mk x.fS

@[simp] theorem ak.re_eq (x:ak):x.re=x:=by cases x;rfl

theorem ak.eta (x:ak):ak.mk x.fS=x:=by cases x;rfl

def dq.re (x:dq):dq:=dq.mk x.fNext x.fObjects

@[simp] theorem dq.re_eq (x:dq):x.re=x:=by cases x;rfl

theorem dq.eta (x:dq):dq.mk x.fNext x.fObjects=x:=by cases x;rfl

def bT.re (x:bT):bT:=bT.mk x.fVars x.fFunctions x.fTypes

@[simp] theorem bT.re_eq (x:bT):x.re=x:=by cases x;rfl

theorem bT.eta (x:bT):bT.mk x.fVars x.fFunctions x.fTypes=x:=by cases x;rfl

def aO.re (x:aO):aO:=aO.mk x.fInput x.fAt x.fOutput x.fFiles x.fTrace

@[simp] theorem aO.re_eq (x:aO):x.re=x:=by cases x;rfl

theorem aO.eta (x:aO):aO.mk x.fInput x.fAt x.fOutput x.fFiles x.fTrace=x:=by cases x;rfl

def bg.re (x:bg):bg:=bg.mk x.fHeap x.fScope x.fConsole

@[simp] theorem bg.re_eq (x:bg):x.re=x:=by cases x;rfl

theorem bg.eta (x:bg):bg.mk x.fHeap x.fScope x.fConsole=x:=by cases x;rfl

def aX.re (x:aX):aX:=aX.mk x.fMemory x.fAt x.fSteps x.fCode

@[simp] theorem aX.re_eq (x:aX):x.re=x:=by cases x;rfl

theorem aX.eta (x:aX):aX.mk x.fMemory x.fAt x.fSteps x.fCode=x:=by cases x;rfl

def bp.re (x:bp):bp:=bp.mk x.fKind x.fNum x.fText x.fRef

@[simp] theorem bp.re_eq (x:bp):x.re=x:=by cases x;rfl

theorem bp.eta (x:bp):bp.mk x.fKind x.fNum x.fText x.fRef=x:=by cases x;rfl

def bi.re (x:bi):bi:=bi.mk x.fId x.fKind x.fName x.fLow x.fKeys x.fVals x.fDefault

@[simp] theorem bi.re_eq (x:bi):x.re=x:=by cases x;rfl

theorem bi.eta (x:bi):bi.mk x.fId x.fKind x.fName x.fLow x.fKeys x.fVals x.fDefault=x:=by cases x;rfl

def aR.re (x:aR):aR:=aR.mk x.fName x.fValue

@[simp] theorem aR.re_eq (x:aR):x.re=x:=by cases x;rfl

theorem aR.eta (x:aR):aR.mk x.fName x.fValue=x:=by cases x;rfl

def aJ.re (x:aJ):aJ:=aJ.mk x.fName x.fParams x.fLocals x.fLabel

@[simp] theorem aJ.re_eq (x:aJ):x.re=x:=by cases x;rfl

theorem aJ.eta (x:aJ):aJ.mk x.fName x.fParams x.fLocals x.fLabel=x:=by cases x;rfl

def aw.re (x:aw):aw:=aw.mk x.fName x.fFields

@[simp] theorem aw.re_eq (x:aw):x.re=x:=by cases x;rfl

theorem aw.eta (x:aw):aw.mk x.fName x.fFields=x:=by cases x;rfl

def dz.re (x:dz):dz:=dz.mk x.fName x.fLines x.fMode x.fAt

@[simp] theorem dz.re_eq (x:dz):x.re=x:=by cases x;rfl

theorem dz.eta (x:dz):dz.mk x.fName x.fLines x.fMode x.fAt=x:=by cases x;rfl

theorem y7 {n:Nat} (h7:¬ n=7) (h13:¬ n=13) (h25:¬ n=25) (h27:¬ n=27) (h29:¬ n=29) (h40:¬ n=40) (h61:¬ n=61) (h77:¬ n=77) (h82:¬ n=82) (h87:¬ n=87) (h93:¬ n=93) (h107:¬ n=107) (h152:¬ n=152) (h220:¬ n=220) (h230:¬ n=230) (h237:¬ n=237) (h257:¬ n=257) (h262:¬ n=262) (h265:¬ n=265) (h267:¬ n=267) (h269:¬ n=269) (h272:¬ n=272) (h274:¬ n=274) (h276:¬ n=276) (h278:¬ n=278) (h280:¬ n=280) (h282:¬ n=282):SS n=Empty:=by
  unfold SS
  split<;>first | rfl | (exfalso;omega)

theorem GG.law (n:Nat):Fv GG n:=by
  by_cases h7:n=7
  · subst h7;exact aj.ok.law
  by_cases h13:n=13
  · subst h13;exact ai.ok.law
  by_cases h25:n=25
  · subst h25;exact aa.ok.law
  by_cases h27:n=27
  · subst h27;exact ax.ok.law
  by_cases h29:n=29
  · subst h29;exact ab.ok.law
  by_cases h40:n=40
  · subst h40;exact aT.ok.law
  by_cases h61:n=61
  · subst h61;exact bO.ok.law
  by_cases h77:n=77
  · subst h77;exact dp.ok.law
  by_cases h82:n=82
  · subst h82;exact au.ok.law
  by_cases h87:n=87
  · subst h87;exact bP.ok.law
  by_cases h93:n=93
  · subst h93;exact az.ok.law
  by_cases h107:n=107
  · subst h107;exact ae.ok.law
  by_cases h152:n=152
  · subst h152;exact ap.ok.law
  by_cases h220:n=220
  · subst h220;exact aq.ok.law
  by_cases h230:n=230
  · subst h230;exact al.ok.law
  by_cases h237:n=237
  · subst h237;exact ak.ok.law
  by_cases h257:n=257
  · subst h257;exact dq.ok.law
  by_cases h262:n=262
  · subst h262;exact bT.ok.law
  by_cases h265:n=265
  · subst h265;exact aO.ok.law
  by_cases h267:n=267
  · subst h267;exact bg.ok.law
  by_cases h269:n=269
  · subst h269;exact aX.ok.law
  by_cases h272:n=272
  · subst h272;exact bp.ok.law
  by_cases h274:n=274
  · subst h274;exact bi.ok.law
  by_cases h276:n=276
  · subst h276;exact aR.ok.law
  by_cases h278:n=278
  · subst h278;exact aJ.ok.law
  by_cases h280:n=280
  · subst h280;exact aw.ok.law
  by_cases h282:n=282
  · subst h282;exact dz.ok.law
  exact .empty fun x=>(cast (y7 h7 h13 h25 h27 h29 h40 h61 h77 h82 h87 h93 h107 h152 h220 h230 h237 h257 h262 h265 h267 h269 h272 h274 h276 h278 h280 h282) x).elim

theorem GG.ok : aD GG:=CU GG.law

noncomputable def OO : Opn GG where
  P:=Tryz.prog
  tab:=[(2,(.int .i64)),(3,(.int .i64)),(4,.bool),(5,(.int .u8)),(6,(.int .u8)),(7,(.st 7)),(8,(.st 7)),(9,.str),(10,.str),(11,.str),(12,(.int .u64)),(13,(.st 13)),(14,(.st 13)),(21,(.int .i32)),(22,(.sl (.int .u8))),(24,(.sl (.st 25))),(25,(.st 25)),(26,(.st 25)),(27,(.st 27)),(28,(.st 27)),(29,(.st 29)),(30,(.st 29)),(39,(.sl (.st 29))),(40,(.st 40)),(41,(.st 40)),(53,(.sl (.st 107))),(61,(.st 61)),(62,(.st 61)),(70,(.sl .str)),(74,(.sl (.st 77))),(77,(.st 77)),(78,(.st 77)),(80,(.sl (.st 82))),(82,(.st 82)),(83,(.st 82)),(85,(.sl (.st 87))),(87,(.st 87)),(88,(.st 87)),(92,(.int .u64)),(93,(.st 93)),(94,(.st 93)),(107,(.st 107)),(108,(.st 107)),(113,(.sl (.int .i64))),(148,(.int .u64)),(152,(.st 152)),(153,(.st 152)),(191,(.int .u32)),(210,(.int .i64)),(220,(.st 220)),(221,(.st 220)),(230,(.st 230)),(231,(.st 230)),(237,(.st 237)),(238,(.st 237)),(248,(.int .u8)),(249,(.int .u8)),(251,(.int .i32)),(252,(.int .i32)),(256,(.sl (.st 274))),(257,(.st 257)),(258,(.st 257)),(259,(.sl (.st 276))),(260,(.sl (.st 278))),(261,(.sl (.st 280))),(262,(.st 262)),(263,(.st 262)),(264,(.sl (.st 282))),(265,(.st 265)),(266,(.st 265)),(267,(.st 267)),(268,(.st 267)),(269,(.st 269)),(270,(.st 269)),(271,(.sl (.st 272))),(272,(.st 272)),(273,(.st 272)),(274,(.st 274)),(275,(.st 274)),(276,(.st 276)),(277,(.st 276)),(278,(.st 278)),(279,(.st 278)),(280,(.st 280)),(281,(.st 280)),(282,(.st 282)),(283,(.st 282))]
  cty:=Gu

theorem OO.tot (n:Nat) (vs:List (V SS)) (h:dV GG (Gu n) vs):∃ x,FQ n vs=some x/\DQ n x=vs:=by
  by_cases h7:n=7
  · subst h7;exact aj.ok.tot h
  by_cases h13:n=13
  · subst h13;exact ai.ok.tot h
  by_cases h25:n=25
  · subst h25;exact aa.ok.tot h
  by_cases h27:n=27
  · subst h27;exact ax.ok.tot h
  by_cases h29:n=29
  · subst h29;exact ab.ok.tot h
  by_cases h40:n=40
  · subst h40;exact aT.ok.tot h
  by_cases h61:n=61
  · subst h61;exact bO.ok.tot h
  by_cases h77:n=77
  · subst h77;exact dp.ok.tot h
  by_cases h82:n=82
  · subst h82;exact au.ok.tot h
  by_cases h87:n=87
  · subst h87;exact bP.ok.tot h
  by_cases h93:n=93
  · subst h93;exact az.ok.tot h
  by_cases h107:n=107
  · subst h107;exact ae.ok.tot h
  by_cases h152:n=152
  · subst h152;exact ap.ok.tot h
  by_cases h220:n=220
  · subst h220;exact aq.ok.tot h
  by_cases h230:n=230
  · subst h230;exact al.ok.tot h
  by_cases h237:n=237
  · subst h237;exact ak.ok.tot h
  by_cases h257:n=257
  · subst h257;exact dq.ok.tot h
  by_cases h262:n=262
  · subst h262;exact bT.ok.tot h
  by_cases h265:n=265
  · subst h265;exact aO.ok.tot h
  by_cases h267:n=267
  · subst h267;exact bg.ok.tot h
  by_cases h269:n=269
  · subst h269;exact aX.ok.tot h
  by_cases h272:n=272
  · subst h272;exact bp.ok.tot h
  by_cases h274:n=274
  · subst h274;exact bi.ok.tot h
  by_cases h276:n=276
  · subst h276;exact aR.ok.tot h
  by_cases h278:n=278
  · subst h278;exact aJ.ok.tot h
  by_cases h280:n=280
  · subst h280;exact aw.ok.tot h
  by_cases h282:n=282
  · subst h282;exact dz.ok.tot h
  exfalso
  have e:Gu n=[.st n]:=by
    unfold Gu
    split<;>first | rfl | (exfalso;omega)
  rw [e] at h
  obtain ⟨x⟩:=Bl h
  exact (cast (y7 h7 h13 h25 h27 h29 h40 h61 h77 h82 h87 h93 h107 h152 h220 h230 h237 h257 h262 h265 h267 h269 h272 h274 h276 h278 h280 h282) x:Empty).elim

theorem OO.ok : wm OO:=⟨by kernel_rfl,OO.tot⟩

def HJ : Nat->Option (List (Nat×Option Ty))
  | 10=>some []
  | 11=>some [(1,none)]
  | _=>none


def G1 : Nat->Option (List (Nat×Option Ty))
  | 9=>some [(2,none),(4,none),(5,none)]
  | 13=>some [(2,none),(4,none),(8,none),(9,none)]
  | _=>none

def G2 : Nat->Option (List (Nat×Option Ty))
  | 2=>some []
  | 3=>some [(2,none),(3,none)]
  | _=>none

def G3 : Nat->Option (List (Nat×Option Ty))
  | 9=>some [(5,none)]
  | 10=>some [(3,none),(5,none)]
  | _=>none







def G4 : Nat->Option (List (Nat×Option Ty))
  | 24=>some [(2,none),(3,none)]
  | 10=>some [(0,none),(2,none),(3,none)]
  | 13=>some [(0,none),(2,none),(3,none)]
  | _=>none

def G5 : Nat->Option (List (Nat×Option Ty))
  | 2=>some []
  | 3=>some [(1,none)]
  | 4=>some []
  | 5=>some [(1,none)]
  | 6=>some []
  | 7=>some [(1,none)]
  | _=>none

def G6 : Nat->Option (List (Nat×Option Ty))
  | 11=>some [(3,none)]
  | 6=>some [(1,none),(3,none)]
  | _=>none

def G7 : Nat->Option (List (Nat×Option Ty))
  | 2=>some []
  | 3=>some [(1,none)]
  | 4=>some []
  | 5=>some [(1,none)]
  | _=>none

def G8 : Nat->Option (List (Nat×Option Ty))
  | 10=>some [(3,none)]
  | 6=>some [(1,none),(3,none)]
  | _=>none

def G9 : Nat->Option (List (Nat×Option Ty))
  | 16=>some [(0,none),(5,none),(6,none),(8,none)]
  | 5=>some [(0,none),(5,none),(6,none)]
  | _=>none

def Ha : Nat->Option (List (Nat×Option Ty))
  | 8=>some [(0,none),(6,none)]
  | _=>none

def Hb : Nat->Option (List (Nat×Option Ty))
  | 2=>some [(5,none),(6,none),(7,none)]
  | _=>none











def Hc : Nat->Option (List (Nat×Option Ty))
  | 5=>some [(0,none),(4,none)]
  | 6=>some [(0,none),(4,none),(17,none)]
  | 22=>some [(0,none),(1,none),(4,none),(7,none),(8,none)]
  | _=>none

def Hd : Nat->Option (List (Nat×Option Ty))
  | 11=>some [(1,none),(4,none),(36,none),(37,none),(38,none)]
  | _=>none

def He : Nat->Option (List (Nat×Option Ty))
  | 8=>some [(3,none)]
  | _=>none

def Hf : Nat->Option (List (Nat×Option Ty))
  | 2=>some []
  | 3=>some [(1,none)]
  | _=>none

def Hg : Nat->Option (List (Nat×Option Ty))
  | 23=>some [(0,none),(3,none),(4,none)]
  | _=>none

def Hh : Nat->Option (List (Nat×Option Ty))
  | 8=>some [(1,none),(3,none)]
  | _=>none

def Hi : Nat->Option (List (Nat×Option Ty))
  | 2=>some [(0,none),(1,none),(5,none)]
  | 3=>some [(0,none),(1,none),(5,none)]
  | 5=>some []
  | _=>none

def Hj : Nat->Option (List (Nat×Option Ty))
  | 4=>some [(0,none),(5,none),(6,none),(7,none)]
  | _=>none

def Hk : Nat->Option (List (Nat×Option Ty))
  | 2=>some [(1,none),(7,none),(8,none),(9,none)]
  | _=>none

def Hl : Nat->Option (List (Nat×Option Ty))
  | 2=>some [(0,none),(1,none),(2,none),(7,none)]
  | _=>none

def Hm : Nat->Option (List (Nat×Option Ty))
  | 13=>some [(0,none),(1,none)]
  | _=>none

def Hn : Nat->Option (List (Nat×Option Ty))
  | 11=>some [(0,none),(2,none),(4,none)]
  | 12=>some [(0,none),(2,none),(4,none),(5,none)]
  | 5=>some [(0,none),(2,none),(4,none),(5,none)]
  | 7=>some [(2,none)]
  | _=>none

def Ho : Nat->Option (List (Nat×Option Ty))
  | 2=>some []
  | 3=>some [(0,none),(1,none)]
  | 4=>some [(0,none),(1,none),(5,none)]
  | _=>none







def FR : Nat->Option (List (Nat×Option Ty))
  | 2=>some [(1,none),(7,none),(8,none),(9,none)]
  | _=>none

def FS : Nat->Option (List (Nat×Option Ty))
  | 3=>some [(3,none),(13,none),(14,none),(15,none)]
  | _=>none

def FT : Nat->Option (List (Nat×Option Ty))
  | 21=>some []
  | 11=>some []
  | 12=>some [(3,none)]
  | 20=>some []
  | _=>none


def FU : Nat->Option (List (Nat×Option Ty))
  | 21=>some []
  | 11=>some []
  | 12=>some [(6,none)]
  | 20=>some []
  | _=>none

def FV : Nat->Option (List (Nat×Option Ty))
  | 4=>some [(0,none),(3,none)]
  | _=>none

def FW : Nat->Option (List (Nat×Option Ty))
  | 10=>some [(0,none),(1,none),(4,none),(8,none),(9,none)]
  | 11=>some [(0,none),(1,none),(4,none),(8,none),(9,none)]
  | 13=>some [(1,none),(4,none),(8,none),(9,none)]
  | 18=>some [(0,none),(1,none),(4,none),(6,none),(10,none)]
  | 21=>some [(4,none)]
  | 22=>some [(0,none),(1,none),(4,none),(10,none)]
  | 27=>some [(1,none),(4,none),(6,none),(11,none),(12,none)]
  | _=>none







def FX : Nat->Option (List (Nat×Option Ty))
  | 5=>some [(1,none),(17,none),(18,none),(19,none)]
  | _=>none

def FY : Nat->Option (List (Nat×Option Ty))
  | 4=>some [(1,none),(2,none),(15,none),(16,none),(17,none)]
  | _=>none

def FZ : Nat->Option (List (Nat×Option Ty))
  | 3=>some [(0,none),(1,none)]
  | 4=>some [(0,none),(1,none)]
  | 5=>some [(1,none)]
  | _=>none

def F0 : Nat->Option (List (Nat×Option Ty))
  | 2=>some [(0,none),(1,none),(5,none)]
  | _=>none

def F1 : Nat->Option (List (Nat×Option Ty))
  | 11=>some []
  | 12=>some []
  | _=>none


def F2 : Nat->Option (List (Nat×Option Ty))
  | 2=>some [(6,none)]
  | 3=>some [(0,none),(1,none),(2,none),(6,none)]
  | _=>none













def F3 : Nat->Option (List (Nat×Option Ty))
  | 19=>some [(1,none),(3,none)]
  | 18=>some [(3,none)]
  | 11=>some []
  | 12=>some [(1,none),(3,none)]
  | _=>none

def F4 : Nat->Option (List (Nat×Option Ty))
  | 3=>some [(0,none),(3,none),(4,none)]
  | _=>none

def F5 : Nat->Option (List (Nat×Option Ty))
  | 4=>some [(0,none),(3,none)]
  | _=>none



def F6 : Nat->Option (List (Nat×Option Ty))
  | 2=>some [(1,none),(7,none),(8,none),(9,none)]
  | _=>none

def F7 : Nat->Option (List (Nat×Option Ty))
  | 6=>some [(0,none),(1,none),(4,none),(6,none)]
  | _=>none







def F8 : Nat->Option (List (Nat×Option Ty))
  | 32=>some [(0,none),(3,none),(4,none)]
  | 13=>some [(0,none),(3,none)]
  | 14=>some [(0,none),(4,none),(8,none)]
  | 26=>some [(0,none),(4,none)]
  | 27=>some [(0,none),(4,none),(8,none)]
  | 31=>some []
  | _=>none


def F9 : Nat->Option (List (Nat×Option Ty))
  | 8=>some [(0,none),(2,none),(5,none),(6,none)]
  | 13=>some [(2,none),(5,none),(6,none)]
  | 7=>some [(0,none),(2,none),(5,none),(6,none)]
  | _=>none

def Ga : Nat->Option (List (Nat×Option Ty))
  | 8=>some [(0,none),(1,none),(6,none),(7,none)]
  | 10=>some [(0,none),(7,none)]
  | 7=>some [(0,none),(1,none),(6,none),(7,none)]
  | _=>none






def Gb : Nat->Option (List (Nat×Option Ty))
  | 2=>some [(0,none),(1,none),(4,none),(6,none)]
  | _=>none

def Gc : Nat->Option (List (Nat×Option Ty))
  | 8=>some [(3,none),(15,none)]
  | 7=>some [(3,none)]
  | _=>none





def Gd : Nat->Option (List (Nat×Option Ty))
  | 4=>some [(0,none),(4,none)]
  | _=>none







def HK : FuncId->Nat->Option (List (Nat×Option Ty))
  | 3=>HJ
  | 10=>G1
  | 11=>G2
  | 12=>G3
  | 21=>G4
  | 23=>G5
  | 24=>G6
  | 25=>G7
  | 26=>G8
  | 32=>G9
  | 33=>Ha
  | 34=>Hb
  | 58=>Hc
  | 63=>Hd
  | 64=>He
  | 66=>Hf
  | 69=>Hg
  | 70=>Hh
  | 71=>Hi
  | 72=>Hj
  | 73=>Hk
  | 78=>Hl
  | 82=>Hm
  | 84=>Hn
  | 85=>Ho
  | 102=>FR
  | 103=>FS
  | 107=>FT
  | 114=>FU
  | 116=>FV
  | 118=>FW
  | 150=>FX
  | 151=>FY
  | 156=>FZ
  | 159=>F0
  | 162=>F1
  | 169=>F2
  | 192=>F3
  | 195=>F4
  | 196=>F5
  | 201=>F6
  | 203=>F7
  | 222=>F8
  | 229=>F9
  | 230=>Ga
  | 246=>Gb
  | 248=>Gc
  | 257=>Gd
  | _=>fun _=>none

def extT : FuncId->Option (Sigma fun rt:List Ty=>List (V GG.S)->Option (oA GG.S rt))
  | 30=>some ⟨[.str,.str,.bool],Es⟩
  | 99=>some ⟨[.str],Er⟩
  | 109=>some ⟨[.str],Eq⟩
  | 123=>some ⟨[.int .i64,.bool],uK⟩
  | 125=>some ⟨[.int .i64],oH⟩
  | 132=>some ⟨[.str],uJ⟩
  | 135=>some ⟨[.str],Ep⟩
  | 147=>some ⟨[.sl .str],Bm⟩
  | 153=>some ⟨[.bool],rH⟩
  | _=>none

def bldF : FuncId->Option (Nat×TypeId×TypeId)
  | 88=>some (1,119,5)
  | 89=>some (3,119,5)
  | _=>none

def ctorT : FuncId->Option (TypeId×(List (V GG.S)->Option (List (V GG.S))))
  | 22=>some (94,GM)
  | _=>none

noncomputable def CC : Cfg GG where
  P:=Tryz.prog
  refs:=fun f=>[21,33,37,38,39,40,56,57,58,82,83,84,86,100,127,129,130,144,146,184,185,203,229,230,236,237,246,247,250,252,253,254,257,258,259,260,262,263].contains f
  ext:=U.extT
  cut:=HK
  glob:=fun _=>none
  gint:=fun g=>g==0
  gerr:=fun _=>false
  pint:=fun _=>none
  cln:=fun _=>none
  gtab:=fun | 1=>some ((Lib.pow10Tab.map fun z=>Value.int .u64 z).toArray) | _=>none
  own:=fun _=>none
  bld:=U.bldF
  ctor:=U.ctorT
  eat:=fun _=>none
  trE:=fun e=>[88].contains e
  ownR:=fun f=>[53].contains f
  eatR:=fun f=>[].contains f
  wrf:=fun f=>[].contains f
  grw:=fun _=>none
  unl:=fun f=>[10,33,82].contains f

end Go.Dv.U
