/- The types of this program and the Ap where its loops are cut. -/
import Derived.Test.YtikhhcienngnbaaGreatDoorDvc
import Derived.Test.YtikhhcienngnbaaGreatDoorChecked
set_option linter.all false
set_option linter.unusedVariables false
set_option linter.unusedSimpArgs false
namespace Go.Dv.U

open Go Go.Dv Go.Proofs

set_option maxRecDepth 100000

structure aD where
  fX:Int
  fY:Int
  fSigned:Bool
  fCode:Int

structure ax where
  fMsg:(List UInt8)
  fAddr:Int

structure ai where
  fKind:Int
  fNum:Int
  fText:(List UInt8)
  fKids:(List ai)

structure aK where
  fAlways:(List UInt8)
  fSuccess:(List UInt8)
  fFailure:(List UInt8)

structure aa where
  fLabel:(List UInt8)
  fHasSubject:Bool
  fSubject:ai
  fHasPattern:Bool
  fPattern:ai
  fHasReplace:Bool
  fReplace:ai
  fGoto:aK

structure aj where
  fStatements:(List aa)

structure ap where
  fKind:Int
  fNum:Int
  fText:(List UInt8)
  fRef:Int

structure am where
  fId:Int
  fKind:Int
  fName:(List UInt8)
  fLow:Int
  fKeys:(List ap)
  fVals:(List ap)
  fDefault:ap

structure aJ where
  fNext:Int
  fObjects:(List am)

structure ak where
  fName:(List UInt8)
  fValue:ap

structure ah where
  fName:(List UInt8)
  fParams:(List (List UInt8))
  fLocals:(List (List UInt8))
  fLabel:(List UInt8)

structure ac where
  fName:(List UInt8)
  fFields:(List (List UInt8))

structure aB where
  fVars:(List ak)
  fFunctions:(List ah)
  fTypes:(List ac)

structure aE where
  fName:(List UInt8)
  fLines:(List (List UInt8))
  fMode:Int
  fAt:Int

structure au where
  fInput:(List (List UInt8))
  fAt:Int
  fOutput:(List (List UInt8))
  fFiles:(List aE)
  fTrace:(List (List UInt8))

structure ay where
  fHeap:aJ
  fScope:aB
  fConsole:au

structure ae where
  fName:(List UInt8)
  fSaved:(List ak)
  fPC:Int
  fBase:Int
  fAt:Int

structure aq where
  fStatus:Int
  fCode:Int
  fMemory:ay
  fStack:(List ap)
  fFrames:(List ae)
  fPC:Int
  fBase:Int
  fAt:Int
  fSteps:Int
  fFuel:Int

structure av where
  fOp:Int
  fA:Int
  fText:(List UInt8)

structure b9 where
  fInstrs:(List av)
  fEntries:(List Int)
  fFails:(List Int)

structure aQ where
  fP:aj
  fCode:b9
  fHeights:(List Int)

structure aN where
  fKind:Int
  fNum:Int
  fText:(List UInt8)
  fBefore:Bool
  fAfter:Bool

structure aI where
  fWord:(List UInt8)
  fHasNumber:Bool
  fLow:Int
  fHigh:Int
  fHasText:Bool
  fNeeds:Int
  fLeaves:Int

structure ew where
  fPrefix:(List av)
  fPeek:av
  fStore:av

structure aF where
  fS:(List UInt8)

def SS : Nat->Type
  | 7=>aD
  | 13=>ax
  | 23=>aj
  | 26=>aJ
  | 31=>aB
  | 35=>au
  | 37=>ay
  | 41=>aq
  | 79=>b9
  | 86=>aQ
  | 96=>ai
  | 98=>aK
  | 100=>aa
  | 106=>ap
  | 109=>ae
  | 128=>av
  | 203=>am
  | 207=>ak
  | 227=>ah
  | 230=>ac
  | 233=>aE
  | 267=>aN
  | 276=>aI
  | 347=>ew
  | 411=>aF
  | _=>Empty

def aD.ts : List Ty:=[(.int .i64),(.int .i64),.bool,(.int .u8)]

def aD.to (x:aD):ii SS aD.ts:=(x.fX,x.fY,x.fSigned,x.fCode,())

def aD.of (p:ii SS aD.ts):aD:=(⟨p.1,p.2.1,p.2.2.1,p.2.2.2.1⟩:aD)

def ax.ts : List Ty:=[.str,(.int .u64)]

def ax.to (x:ax):ii SS ax.ts:=(x.fMsg,x.fAddr,())

def ax.of (p:ii SS ax.ts):ax:=(⟨p.1,p.2.1⟩:ax)

def aj.ts : List Ty:=[(.sl (.st 100))]

def aj.to (x:aj):ii SS aj.ts:=(x.fStatements,())

def aj.of (p:ii SS aj.ts):aj:=(⟨p.1⟩:aj)

def aJ.ts : List Ty:=[(.int .i64),(.sl (.st 203))]

def aJ.to (x:aJ):ii SS aJ.ts:=(x.fNext,x.fObjects,())

def aJ.of (p:ii SS aJ.ts):aJ:=(⟨p.1,p.2.1⟩:aJ)

def aB.ts : List Ty:=[(.sl (.st 207)),(.sl (.st 227)),(.sl (.st 230))]

def aB.to (x:aB):ii SS aB.ts:=(x.fVars,x.fFunctions,x.fTypes,())

def aB.of (p:ii SS aB.ts):aB:=(⟨p.1,p.2.1,p.2.2.1⟩:aB)

def au.ts : List Ty:=[(.sl .str),(.int .i64),(.sl .str),(.sl (.st 233)),(.sl .str)]

def au.to (x:au):ii SS au.ts:=(x.fInput,x.fAt,x.fOutput,x.fFiles,x.fTrace,())

def au.of (p:ii SS au.ts):au:=(⟨p.1,p.2.1,p.2.2.1,p.2.2.2.1,p.2.2.2.2.1⟩:au)

def ay.ts : List Ty:=[(.int .i64),(.sl (.st 203)),(.sl (.st 207)),(.sl (.st 227)),(.sl (.st 230)),(.sl .str),(.int .i64),(.sl .str),(.sl (.st 233)),(.sl .str)]

def ay.to (x:ay):ii SS ay.ts:=(x.fHeap.fNext,x.fHeap.fObjects,x.fScope.fVars,x.fScope.fFunctions,x.fScope.fTypes,x.fConsole.fInput,x.fConsole.fAt,x.fConsole.fOutput,x.fConsole.fFiles,x.fConsole.fTrace,())

def ay.of (p:ii SS ay.ts):ay:=(⟨(⟨p.1,p.2.1⟩:aJ),(⟨p.2.2.1,p.2.2.2.1,p.2.2.2.2.1⟩:aB),(⟨p.2.2.2.2.2.1,p.2.2.2.2.2.2.1,p.2.2.2.2.2.2.2.1,p.2.2.2.2.2.2.2.2.1,p.2.2.2.2.2.2.2.2.2.1⟩:au)⟩:ay)

def aq.ts : List Ty:=[(.int .i64),(.int .i64),(.int .i64),(.sl (.st 203)),(.sl (.st 207)),(.sl (.st 227)),(.sl (.st 230)),(.sl .str),(.int .i64),(.sl .str),(.sl (.st 233)),(.sl .str),(.sl (.st 106)),(.sl (.st 109)),(.int .i64),(.int .i64),(.int .i64),(.int .i64),(.int .i64)]

def aq.to (x:aq):ii SS aq.ts:=(x.fStatus,x.fCode,x.fMemory.fHeap.fNext,x.fMemory.fHeap.fObjects,x.fMemory.fScope.fVars,x.fMemory.fScope.fFunctions,x.fMemory.fScope.fTypes,x.fMemory.fConsole.fInput,x.fMemory.fConsole.fAt,x.fMemory.fConsole.fOutput,x.fMemory.fConsole.fFiles,x.fMemory.fConsole.fTrace,x.fStack,x.fFrames,x.fPC,x.fBase,x.fAt,x.fSteps,x.fFuel,())

def aq.of (p:ii SS aq.ts):aq:=(⟨p.1,p.2.1,(⟨(⟨p.2.2.1,p.2.2.2.1⟩:aJ),(⟨p.2.2.2.2.1,p.2.2.2.2.2.1,p.2.2.2.2.2.2.1⟩:aB),(⟨p.2.2.2.2.2.2.2.1,p.2.2.2.2.2.2.2.2.1,p.2.2.2.2.2.2.2.2.2.1,p.2.2.2.2.2.2.2.2.2.2.1,p.2.2.2.2.2.2.2.2.2.2.2.1⟩:au)⟩:ay),p.2.2.2.2.2.2.2.2.2.2.2.2.1,p.2.2.2.2.2.2.2.2.2.2.2.2.2.1,p.2.2.2.2.2.2.2.2.2.2.2.2.2.2.1,p.2.2.2.2.2.2.2.2.2.2.2.2.2.2.2.1,p.2.2.2.2.2.2.2.2.2.2.2.2.2.2.2.2.1,p.2.2.2.2.2.2.2.2.2.2.2.2.2.2.2.2.2.1,p.2.2.2.2.2.2.2.2.2.2.2.2.2.2.2.2.2.2.1⟩:aq)

def b9.ts : List Ty:=[(.sl (.st 128)),(.sl (.int .i64)),(.sl (.int .i64))]

def b9.to (x:b9):ii SS b9.ts:=(x.fInstrs,x.fEntries,x.fFails,())

def b9.of (p:ii SS b9.ts):b9:=(⟨p.1,p.2.1,p.2.2.1⟩:b9)

def aQ.ts : List Ty:=[(.sl (.st 100)),(.sl (.st 128)),(.sl (.int .i64)),(.sl (.int .i64)),(.sl (.int .i64))]

def aQ.to (x:aQ):ii SS aQ.ts:=(x.fP.fStatements,x.fCode.fInstrs,x.fCode.fEntries,x.fCode.fFails,x.fHeights,())

def aQ.of (p:ii SS aQ.ts):aQ:=(⟨(⟨p.1⟩:aj),(⟨p.2.1,p.2.2.1,p.2.2.2.1⟩:b9),p.2.2.2.2.1⟩:aQ)

def ai.ts : List Ty:=[(.int .i64),(.int .i64),.str,(.sl (.st 96))]

def ai.to (x:ai):ii SS ai.ts:=(x.fKind,x.fNum,x.fText,x.fKids,())

def ai.of (p:ii SS ai.ts):ai:=(⟨p.1,p.2.1,p.2.2.1,p.2.2.2.1⟩:ai)

def aK.ts : List Ty:=[.str,.str,.str]

def aK.to (x:aK):ii SS aK.ts:=(x.fAlways,x.fSuccess,x.fFailure,())

def aK.of (p:ii SS aK.ts):aK:=(⟨p.1,p.2.1,p.2.2.1⟩:aK)

def aa.ts : List Ty:=[.str,.bool,(.int .i64),(.int .i64),.str,(.sl (.st 96)),.bool,(.int .i64),(.int .i64),.str,(.sl (.st 96)),.bool,(.int .i64),(.int .i64),.str,(.sl (.st 96)),.str,.str,.str]

def aa.to (x:aa):ii SS aa.ts:=(x.fLabel,x.fHasSubject,x.fSubject.fKind,x.fSubject.fNum,x.fSubject.fText,x.fSubject.fKids,x.fHasPattern,x.fPattern.fKind,x.fPattern.fNum,x.fPattern.fText,x.fPattern.fKids,x.fHasReplace,x.fReplace.fKind,x.fReplace.fNum,x.fReplace.fText,x.fReplace.fKids,x.fGoto.fAlways,x.fGoto.fSuccess,x.fGoto.fFailure,())

def aa.of (p:ii SS aa.ts):aa:=(⟨p.1,p.2.1,(⟨p.2.2.1,p.2.2.2.1,p.2.2.2.2.1,p.2.2.2.2.2.1⟩:ai),p.2.2.2.2.2.2.1,(⟨p.2.2.2.2.2.2.2.1,p.2.2.2.2.2.2.2.2.1,p.2.2.2.2.2.2.2.2.2.1,p.2.2.2.2.2.2.2.2.2.2.1⟩:ai),p.2.2.2.2.2.2.2.2.2.2.2.1,(⟨p.2.2.2.2.2.2.2.2.2.2.2.2.1,p.2.2.2.2.2.2.2.2.2.2.2.2.2.1,p.2.2.2.2.2.2.2.2.2.2.2.2.2.2.1,p.2.2.2.2.2.2.2.2.2.2.2.2.2.2.2.1⟩:ai),(⟨p.2.2.2.2.2.2.2.2.2.2.2.2.2.2.2.2.1,p.2.2.2.2.2.2.2.2.2.2.2.2.2.2.2.2.2.1,p.2.2.2.2.2.2.2.2.2.2.2.2.2.2.2.2.2.2.1⟩:aK)⟩:aa)

def ap.ts : List Ty:=[(.int .i64),(.int .i64),.str,(.int .i64)]

def ap.to (x:ap):ii SS ap.ts:=(x.fKind,x.fNum,x.fText,x.fRef,())

def ap.of (p:ii SS ap.ts):ap:=(⟨p.1,p.2.1,p.2.2.1,p.2.2.2.1⟩:ap)

def ae.ts : List Ty:=[.str,(.sl (.st 207)),(.int .i64),(.int .i64),(.int .i64)]

def ae.to (x:ae):ii SS ae.ts:=(x.fName,x.fSaved,x.fPC,x.fBase,x.fAt,())

def ae.of (p:ii SS ae.ts):ae:=(⟨p.1,p.2.1,p.2.2.1,p.2.2.2.1,p.2.2.2.2.1⟩:ae)

def av.ts : List Ty:=[(.int .i64),(.int .i64),.str]

def av.to (x:av):ii SS av.ts:=(x.fOp,x.fA,x.fText,())

def av.of (p:ii SS av.ts):av:=(⟨p.1,p.2.1,p.2.2.1⟩:av)

def am.ts : List Ty:=[(.int .i64),(.int .i64),.str,(.int .i64),(.sl (.st 106)),(.sl (.st 106)),(.int .i64),(.int .i64),.str,(.int .i64)]

def am.to (x:am):ii SS am.ts:=(x.fId,x.fKind,x.fName,x.fLow,x.fKeys,x.fVals,x.fDefault.fKind,x.fDefault.fNum,x.fDefault.fText,x.fDefault.fRef,())

def am.of (p:ii SS am.ts):am:=(⟨p.1,p.2.1,p.2.2.1,p.2.2.2.1,p.2.2.2.2.1,p.2.2.2.2.2.1,(⟨p.2.2.2.2.2.2.1,p.2.2.2.2.2.2.2.1,p.2.2.2.2.2.2.2.2.1,p.2.2.2.2.2.2.2.2.2.1⟩:ap)⟩:am)

def ak.ts : List Ty:=[.str,(.int .i64),(.int .i64),.str,(.int .i64)]

def ak.to (x:ak):ii SS ak.ts:=(x.fName,x.fValue.fKind,x.fValue.fNum,x.fValue.fText,x.fValue.fRef,())

def ak.of (p:ii SS ak.ts):ak:=(⟨p.1,(⟨p.2.1,p.2.2.1,p.2.2.2.1,p.2.2.2.2.1⟩:ap)⟩:ak)

def ah.ts : List Ty:=[.str,(.sl .str),(.sl .str),.str]

def ah.to (x:ah):ii SS ah.ts:=(x.fName,x.fParams,x.fLocals,x.fLabel,())

def ah.of (p:ii SS ah.ts):ah:=(⟨p.1,p.2.1,p.2.2.1,p.2.2.2.1⟩:ah)

def ac.ts : List Ty:=[.str,(.sl .str)]

def ac.to (x:ac):ii SS ac.ts:=(x.fName,x.fFields,())

def ac.of (p:ii SS ac.ts):ac:=(⟨p.1,p.2.1⟩:ac)

def aE.ts : List Ty:=[.str,(.sl .str),(.int .i64),(.int .i64)]

def aE.to (x:aE):ii SS aE.ts:=(x.fName,x.fLines,x.fMode,x.fAt,())

def aE.of (p:ii SS aE.ts):aE:=(⟨p.1,p.2.1,p.2.2.1,p.2.2.2.1⟩:aE)

def aN.ts : List Ty:=[(.int .i64),(.int .i64),.str,.bool,.bool]

def aN.to (x:aN):ii SS aN.ts:=(x.fKind,x.fNum,x.fText,x.fBefore,x.fAfter,())

def aN.of (p:ii SS aN.ts):aN:=(⟨p.1,p.2.1,p.2.2.1,p.2.2.2.1,p.2.2.2.2.1⟩:aN)

def aI.ts : List Ty:=[.str,.bool,(.int .i64),(.int .i64),.bool,(.int .i64),(.int .i64)]

def aI.to (x:aI):ii SS aI.ts:=(x.fWord,x.fHasNumber,x.fLow,x.fHigh,x.fHasText,x.fNeeds,x.fLeaves,())

def aI.of (p:ii SS aI.ts):aI:=(⟨p.1,p.2.1,p.2.2.1,p.2.2.2.1,p.2.2.2.2.1,p.2.2.2.2.2.1,p.2.2.2.2.2.2.1⟩:aI)

def ew.ts : List Ty:=[(.sl (.st 128)),(.int .i64),(.int .i64),.str,(.int .i64),(.int .i64),.str]

def ew.to (x:ew):ii SS ew.ts:=(x.fPrefix,x.fPeek.fOp,x.fPeek.fA,x.fPeek.fText,x.fStore.fOp,x.fStore.fA,x.fStore.fText,())

def ew.of (p:ii SS ew.ts):ew:=(⟨p.1,(⟨p.2.1,p.2.2.1,p.2.2.2.1⟩:av),(⟨p.2.2.2.2.1,p.2.2.2.2.2.1,p.2.2.2.2.2.2.1⟩:av)⟩:ew)

def aF.ts : List Ty:=[.str]

def aF.to (x:aF):ii SS aF.ts:=(x.fS,())

def aF.of (p:ii SS aF.ts):aF:=(⟨p.1⟩:aF)

def Ps : (n:Nat)->SS n->List (V SS)
  | 7,x=>cellsL SS aD.ts (aD.to x)
  | 13,x=>cellsL SS ax.ts (ax.to x)
  | 23,x=>cellsL SS aj.ts (aj.to x)
  | 26,x=>cellsL SS aJ.ts (aJ.to x)
  | 31,x=>cellsL SS aB.ts (aB.to x)
  | 35,x=>cellsL SS au.ts (au.to x)
  | 37,x=>cellsL SS ay.ts (ay.to x)
  | 41,x=>cellsL SS aq.ts (aq.to x)
  | 79,x=>cellsL SS b9.ts (b9.to x)
  | 86,x=>cellsL SS aQ.ts (aQ.to x)
  | 96,x=>cellsL SS ai.ts (ai.to x)
  | 98,x=>cellsL SS aK.ts (aK.to x)
  | 100,x=>cellsL SS aa.ts (aa.to x)
  | 106,x=>cellsL SS ap.ts (ap.to x)
  | 109,x=>cellsL SS ae.ts (ae.to x)
  | 128,x=>cellsL SS av.ts (av.to x)
  | 203,x=>cellsL SS am.ts (am.to x)
  | 207,x=>cellsL SS ak.ts (ak.to x)
  | 227,x=>cellsL SS ah.ts (ah.to x)
  | 230,x=>cellsL SS ac.ts (ac.to x)
  | 233,x=>cellsL SS aE.ts (aE.to x)
  | 267,x=>cellsL SS aN.ts (aN.to x)
  | 276,x=>cellsL SS aI.ts (aI.to x)
  | 347,x=>cellsL SS ew.ts (ew.to x)
  | 411,x=>cellsL SS aF.ts (aF.to x)
  | _,_=>[]

def Q6 : (n:Nat)->List (V SS)->Option (SS n)
  | 7,c=>(qx SS aD.ts c).map aD.of
  | 13,c=>(qx SS ax.ts c).map ax.of
  | 23,c=>(qx SS aj.ts c).map aj.of
  | 26,c=>(qx SS aJ.ts c).map aJ.of
  | 31,c=>(qx SS aB.ts c).map aB.of
  | 35,c=>(qx SS au.ts c).map au.of
  | 37,c=>(qx SS ay.ts c).map ay.of
  | 41,c=>(qx SS aq.ts c).map aq.of
  | 79,c=>(qx SS b9.ts c).map b9.of
  | 86,c=>(qx SS aQ.ts c).map aQ.of
  | 96,c=>(qx SS ai.ts c).map ai.of
  | 98,c=>(qx SS aK.ts c).map aK.of
  | 100,c=>(qx SS aa.ts c).map aa.of
  | 106,c=>(qx SS ap.ts c).map ap.of
  | 109,c=>(qx SS ae.ts c).map ae.of
  | 128,c=>(qx SS av.ts c).map av.of
  | 203,c=>(qx SS am.ts c).map am.of
  | 207,c=>(qx SS ak.ts c).map ak.of
  | 227,c=>(qx SS ah.ts c).map ah.of
  | 230,c=>(qx SS ac.ts c).map ac.of
  | 233,c=>(qx SS aE.ts c).map aE.of
  | 267,c=>(qx SS aN.ts c).map aN.of
  | 276,c=>(qx SS aI.ts c).map aI.of
  | 347,c=>(qx SS ew.ts c).map ew.of
  | 411,c=>(qx SS aF.ts c).map aF.of
  | _,_=>none

def TO : Nat->Nat
  | 7=>4
  | 13=>2
  | 23=>1
  | 26=>2
  | 31=>3
  | 35=>5
  | 37=>10
  | 41=>19
  | 79=>3
  | 86=>5
  | 96=>4
  | 98=>3
  | 100=>19
  | 106=>4
  | 109=>5
  | 128=>3
  | 203=>10
  | 207=>5
  | 227=>4
  | 230=>2
  | 233=>4
  | 267=>5
  | 276=>7
  | 347=>7
  | 411=>1
  | _=>0

def SE : Nat->List Ty
  | 7=>aD.ts
  | 13=>ax.ts
  | 23=>aj.ts
  | 26=>aJ.ts
  | 31=>aB.ts
  | 35=>au.ts
  | 37=>ay.ts
  | 41=>aq.ts
  | 79=>b9.ts
  | 86=>aQ.ts
  | 96=>ai.ts
  | 98=>aK.ts
  | 100=>aa.ts
  | 106=>ap.ts
  | 109=>ae.ts
  | 128=>av.ts
  | 203=>am.ts
  | 207=>ak.ts
  | 227=>ah.ts
  | 230=>ac.ts
  | 233=>aE.ts
  | 267=>aN.ts
  | 276=>aI.ts
  | 347=>ew.ts
  | 411=>aF.ts
  | n=>[.st n]

def TP : TypeId->Option Ty
  | 2=>some (.int .i64)
  | 3=>some (.int .i64)
  | 4=>some .bool
  | 5=>some (.int .u8)
  | 6=>some (.int .u8)
  | 7=>some (.st 7)
  | 8=>some (.st 7)
  | 9=>some .str
  | 10=>some .str
  | 11=>some .str
  | 12=>some (.int .u64)
  | 13=>some (.st 13)
  | 14=>some (.st 13)
  | 21=>some (.int .i32)
  | 22=>some (.sl (.st 100))
  | 23=>some (.st 23)
  | 24=>some (.st 23)
  | 25=>some (.sl (.st 203))
  | 26=>some (.st 26)
  | 27=>some (.st 26)
  | 28=>some (.sl (.st 207))
  | 29=>some (.sl (.st 227))
  | 30=>some (.sl (.st 230))
  | 31=>some (.st 31)
  | 32=>some (.st 31)
  | 33=>some (.sl .str)
  | 34=>some (.sl (.st 233))
  | 35=>some (.st 35)
  | 36=>some (.st 35)
  | 37=>some (.st 37)
  | 38=>some (.st 37)
  | 39=>some (.sl (.st 106))
  | 40=>some (.sl (.st 109))
  | 41=>some (.st 41)
  | 42=>some (.st 41)
  | 46=>some (.sl (.st 100))
  | 47=>some (.st 23)
  | 48=>some (.st 23)
  | 50=>some (.sl (.st 203))
  | 51=>some (.st 26)
  | 52=>some (.st 26)
  | 53=>some (.sl (.st 207))
  | 54=>some (.sl (.st 227))
  | 55=>some (.sl (.st 230))
  | 56=>some (.st 31)
  | 57=>some (.st 31)
  | 58=>some (.sl (.st 233))
  | 59=>some (.st 35)
  | 60=>some (.st 35)
  | 61=>some (.st 37)
  | 62=>some (.st 37)
  | 63=>some (.sl (.st 106))
  | 64=>some (.sl (.st 109))
  | 65=>some (.st 41)
  | 66=>some (.st 41)
  | 77=>some (.sl (.st 128))
  | 78=>some (.sl (.int .i64))
  | 79=>some (.st 79)
  | 80=>some (.st 79)
  | 86=>some (.st 86)
  | 87=>some (.st 86)
  | 95=>some (.sl (.st 96))
  | 96=>some (.st 96)
  | 97=>some (.st 96)
  | 98=>some (.st 98)
  | 99=>some (.st 98)
  | 100=>some (.st 100)
  | 101=>some (.st 100)
  | 106=>some (.st 106)
  | 107=>some (.st 106)
  | 109=>some (.st 109)
  | 110=>some (.st 109)
  | 111=>some (.sl (.st 96))
  | 112=>some (.st 96)
  | 113=>some (.st 96)
  | 114=>some (.st 98)
  | 115=>some (.st 100)
  | 116=>some (.st 100)
  | 125=>some (.st 109)
  | 126=>some (.st 109)
  | 128=>some (.st 128)
  | 129=>some (.st 128)
  | 136=>some (.st 106)
  | 164=>some (.sl (.st 267))
  | 176=>some (.ptr (.st 100))
  | 191=>some (.sl (.int .u8))
  | 203=>some (.st 203)
  | 204=>some (.st 203)
  | 207=>some (.st 207)
  | 208=>some (.st 207)
  | 221=>some (.st 203)
  | 222=>some (.st 203)
  | 224=>some (.st 207)
  | 225=>some (.st 207)
  | 227=>some (.st 227)
  | 228=>some (.st 227)
  | 230=>some (.st 230)
  | 231=>some (.st 230)
  | 233=>some (.st 233)
  | 234=>some (.st 233)
  | 236=>some (.ptr (.st 96))
  | 241=>some (.ptr (.st 26))
  | 243=>some (.st 227)
  | 245=>some (.st 230)
  | 247=>some (.ptr (.st 35))
  | 259=>some (.st 233)
  | 267=>some (.st 267)
  | 268=>some (.st 267)
  | 276=>some (.st 276)
  | 277=>some (.st 276)
  | 312=>some (.ptr (.st 203))
  | 329=>some (.sl (.st 276))
  | 334=>some (.int .u64)
  | 347=>some (.st 347)
  | 348=>some (.st 347)
  | 356=>some (.sl (.sl (.st 106)))
  | 359=>some (.sl (.sl .str))
  | 365=>some (.sl (.sl (.st 128)))
  | 373=>some (.int .u64)
  | 379=>some (.int .i64)
  | 386=>some (.int .i64)
  | 392=>some (.int .u32)
  | 402=>some (.int .u64)
  | 410=>some (.ptr (.st 411))
  | 411=>some (.st 411)
  | 412=>some (.st 411)
  | 424=>some (.int .u8)
  | 425=>some (.int .u8)
  | 427=>some (.int .i32)
  | 428=>some (.int .i32)
  | _=>none

def sel : Ty->TypeId
  | (.int .i64)=>2
  | (.int .u8)=>5
  | (.sl (.st 106))=>63
  | (.sl (.st 128))=>77
  | (.sl .str)=>33
  | (.st 100)=>116
  | (.st 106)=>136
  | (.st 109)=>126
  | (.st 128)=>129
  | (.st 203)=>204
  | (.st 207)=>208
  | (.st 227)=>243
  | (.st 230)=>245
  | (.st 233)=>259
  | (.st 267)=>268
  | (.st 276)=>277
  | (.st 96)=>113
  | .str=>9
  | _=>0

def sfl : Nat->Bool
  | 7=>true
  | 13=>true
  | 23=>false
  | 26=>false
  | 31=>false
  | 35=>false
  | 37=>false
  | 41=>false
  | 79=>false
  | 86=>false
  | 96=>false
  | 98=>true
  | 100=>false
  | 106=>true
  | 109=>false
  | 128=>true
  | 203=>false
  | 207=>true
  | 227=>false
  | 230=>false
  | 233=>false
  | 267=>true
  | 276=>true
  | 347=>false
  | 411=>true
  | _=>false

def GG : Sig where
  S:=SS
  csz:=TO
  cells:=Ps
  make:=Q6
  tyOf:=TP
  el:=sel
  fl:=sfl
  tre:=fun e=>false

theorem aD.ok : SOk GG 7 aD.ts aD.to aD.of:=⟨rfl,fun _=>rfl,fun _=>rfl,rfl,fun _=>rfl,rfl⟩

theorem ax.ok : SOk GG 13 ax.ts ax.to ax.of:=⟨rfl,fun _=>rfl,fun _=>rfl,rfl,fun _=>rfl,rfl⟩

theorem aj.ok : SOk GG 23 aj.ts aj.to aj.of:=⟨rfl,fun _=>rfl,fun _=>rfl,rfl,fun _=>rfl,rfl⟩

theorem aJ.ok : SOk GG 26 aJ.ts aJ.to aJ.of:=⟨rfl,fun _=>rfl,fun _=>rfl,rfl,fun _=>rfl,rfl⟩

theorem aB.ok : SOk GG 31 aB.ts aB.to aB.of:=⟨rfl,fun _=>rfl,fun _=>rfl,rfl,fun _=>rfl,rfl⟩

theorem au.ok : SOk GG 35 au.ts au.to au.of:=⟨rfl,fun _=>rfl,fun _=>rfl,rfl,fun _=>rfl,rfl⟩

theorem ay.ok : SOk GG 37 ay.ts ay.to ay.of:=⟨rfl,fun _=>rfl,fun _=>rfl,rfl,fun _=>rfl,rfl⟩

theorem aq.ok : SOk GG 41 aq.ts aq.to aq.of:=⟨rfl,fun _=>rfl,fun _=>rfl,rfl,fun _=>rfl,rfl⟩

theorem b9.ok : SOk GG 79 b9.ts b9.to b9.of:=⟨rfl,fun _=>rfl,fun _=>rfl,rfl,fun _=>rfl,rfl⟩

theorem aQ.ok : SOk GG 86 aQ.ts aQ.to aQ.of:=⟨rfl,fun _=>rfl,fun _=>rfl,rfl,fun _=>rfl,rfl⟩

theorem ai.ok : SOk GG 96 ai.ts ai.to ai.of:=⟨rfl,fun _=>rfl,fun _=>rfl,rfl,fun _=>rfl,rfl⟩

theorem aK.ok : SOk GG 98 aK.ts aK.to aK.of:=⟨rfl,fun _=>rfl,fun _=>rfl,rfl,fun _=>rfl,rfl⟩

theorem aa.ok : SOk GG 100 aa.ts aa.to aa.of:=⟨rfl,fun _=>rfl,fun _=>rfl,rfl,fun _=>rfl,rfl⟩

theorem ap.ok : SOk GG 106 ap.ts ap.to ap.of:=⟨rfl,fun _=>rfl,fun _=>rfl,rfl,fun _=>rfl,rfl⟩

theorem ae.ok : SOk GG 109 ae.ts ae.to ae.of:=⟨rfl,fun _=>rfl,fun _=>rfl,rfl,fun _=>rfl,rfl⟩

theorem av.ok : SOk GG 128 av.ts av.to av.of:=⟨rfl,fun _=>rfl,fun _=>rfl,rfl,fun _=>rfl,rfl⟩

theorem am.ok : SOk GG 203 am.ts am.to am.of:=⟨rfl,fun _=>rfl,fun _=>rfl,rfl,fun _=>rfl,rfl⟩

theorem ak.ok : SOk GG 207 ak.ts ak.to ak.of:=⟨rfl,fun _=>rfl,fun _=>rfl,rfl,fun _=>rfl,rfl⟩

theorem ah.ok : SOk GG 227 ah.ts ah.to ah.of:=⟨rfl,fun _=>rfl,fun _=>rfl,rfl,fun _=>rfl,rfl⟩

theorem ac.ok : SOk GG 230 ac.ts ac.to ac.of:=⟨rfl,fun _=>rfl,fun _=>rfl,rfl,fun _=>rfl,rfl⟩

theorem aE.ok : SOk GG 233 aE.ts aE.to aE.of:=⟨rfl,fun _=>rfl,fun _=>rfl,rfl,fun _=>rfl,rfl⟩

theorem aN.ok : SOk GG 267 aN.ts aN.to aN.of:=⟨rfl,fun _=>rfl,fun _=>rfl,rfl,fun _=>rfl,rfl⟩

theorem aI.ok : SOk GG 276 aI.ts aI.to aI.of:=⟨rfl,fun _=>rfl,fun _=>rfl,rfl,fun _=>rfl,rfl⟩

theorem ew.ok : SOk GG 347 ew.ts ew.to ew.of:=⟨rfl,fun _=>rfl,fun _=>rfl,rfl,fun _=>rfl,rfl⟩

theorem aF.ok : SOk GG 411 aF.ts aF.to aF.of:=⟨rfl,fun _=>rfl,fun _=>rfl,rfl,fun _=>rfl,rfl⟩

def aD.re (x:aD):aD:=aD.mk x.fX x.fY x.fSigned x.fCode

@[simp] theorem aD.re_eq (x:aD):x.re=x:=by cases x;rfl

theorem aD.eta (x:aD):aD.mk x.fX x.fY x.fSigned x.fCode=x:=by cases x;rfl

def ax.re (x:ax):ax:=ax.mk x.fMsg x.fAddr

@[simp] theorem ax.re_eq (x:ax):x.re=x:=by cases x;rfl

theorem ax.eta (x:ax):ax.mk x.fMsg x.fAddr=x:=by cases x;rfl

def aj.re (x:aj):aj:=aj.mk x.fStatements

@[simp] theorem aj.re_eq (x:aj):x.re=x:=by cases x;rfl

theorem aj.eta (x:aj):aj.mk x.fStatements=x:=by cases x;rfl

def aJ.re (x:aJ):aJ:=aJ.mk x.fNext x.fObjects

@[simp] theorem aJ.re_eq (x:aJ):x.re=x:=by cases x;rfl

theorem aJ.eta (x:aJ):aJ.mk x.fNext x.fObjects=x:=by cases x;rfl

def aB.re (x:aB):aB:=aB.mk x.fVars x.fFunctions x.fTypes

@[simp] theorem aB.re_eq (x:aB):x.re=x:=by cases x;rfl

theorem aB.eta (x:aB):aB.mk x.fVars x.fFunctions x.fTypes=x:=by cases x;rfl

def au.re (x:au):au:=au.mk x.fInput x.fAt x.fOutput x.fFiles x.fTrace

@[simp] theorem au.re_eq (x:au):x.re=x:=by cases x;rfl

theorem au.eta (x:au):au.mk x.fInput x.fAt x.fOutput x.fFiles x.fTrace=x:=by cases x;rfl

def ay.re (x:ay):ay:=ay.mk x.fHeap x.fScope x.fConsole

@[simp] theorem ay.re_eq (x:ay):x.re=x:=by cases x;rfl

theorem ay.eta (x:ay):ay.mk x.fHeap x.fScope x.fConsole=x:=by cases x;rfl

def aq.re (x:aq):aq:=aq.mk x.fStatus x.fCode x.fMemory x.fStack x.fFrames x.fPC x.fBase x.fAt x.fSteps x.fFuel

@[simp] theorem aq.re_eq (x:aq):x.re=x:=by cases x;rfl

theorem aq.eta (x:aq):aq.mk x.fStatus x.fCode x.fMemory x.fStack x.fFrames x.fPC x.fBase x.fAt x.fSteps x.fFuel=x:=by cases x;rfl

def b9.re (x:b9):b9:=b9.mk x.fInstrs x.fEntries x.fFails

@[simp] theorem b9.re_eq (x:b9):x.re=x:=by cases x;rfl

theorem b9.eta (x:b9):b9.mk x.fInstrs x.fEntries x.fFails=x:=by cases x;rfl

def aQ.re (x:aQ):aQ:=aQ.mk x.fP x.fCode x.fHeights

@[simp] theorem aQ.re_eq (x:aQ):x.re=x:=by cases x;rfl

theorem aQ.eta (x:aQ):aQ.mk x.fP x.fCode x.fHeights=x:=by cases x;rfl

def ai.re (x:ai):ai:=ai.mk x.fKind x.fNum x.fText x.fKids

@[simp] theorem ai.re_eq (x:ai):x.re=x:=by cases x;rfl

theorem ai.eta (x:ai):ai.mk x.fKind x.fNum x.fText x.fKids=x:=by cases x;rfl

def aK.re (x:aK):aK:=aK.mk x.fAlways x.fSuccess x.fFailure

@[simp] theorem aK.re_eq (x:aK):x.re=x:=by cases x;rfl

theorem aK.eta (x:aK):aK.mk x.fAlways x.fSuccess x.fFailure=x:=by cases x;rfl

def aa.re (x:aa):aa:=aa.mk x.fLabel x.fHasSubject x.fSubject x.fHasPattern x.fPattern x.fHasReplace x.fReplace x.fGoto

@[simp] theorem aa.re_eq (x:aa):x.re=x:=by cases x;rfl

theorem aa.eta (x:aa):aa.mk x.fLabel x.fHasSubject x.fSubject x.fHasPattern x.fPattern x.fHasReplace x.fReplace x.fGoto=x:=by cases x;rfl

def ap.re (x:ap):ap:=ap.mk x.fKind x.fNum x.fText x.fRef

@[simp] theorem ap.re_eq (x:ap):x.re=x:=by cases x;rfl

theorem ap.eta (x:ap):ap.mk x.fKind x.fNum x.fText x.fRef=x:=by cases x;rfl

def ae.re (x:ae):ae:=ae.mk x.fName x.fSaved x.fPC x.fBase x.fAt

@[simp] theorem ae.re_eq (x:ae):x.re=x:=by cases x;rfl

theorem ae.eta (x:ae):ae.mk x.fName x.fSaved x.fPC x.fBase x.fAt=x:=by cases x;rfl

def av.re (x:av):av:=av.mk x.fOp x.fA x.fText

@[simp] theorem av.re_eq (x:av):x.re=x:=by cases x;rfl

theorem av.eta (x:av):av.mk x.fOp x.fA x.fText=x:=by cases x;rfl

def am.re (x:am):am:=am.mk x.fId x.fKind x.fName x.fLow x.fKeys x.fVals x.fDefault

@[simp] theorem am.re_eq (x:am):x.re=x:=by cases x;rfl

theorem am.eta (x:am):am.mk x.fId x.fKind x.fName x.fLow x.fKeys x.fVals x.fDefault=x:=by cases x;rfl

def ak.re (x:ak):ak:=ak.mk x.fName x.fValue

@[simp] theorem ak.re_eq (x:ak):x.re=x:=by cases x;rfl

theorem ak.eta (x:ak):ak.mk x.fName x.fValue=x:=by cases x;rfl

def ah.re (x:ah):ah:=ah.mk x.fName x.fParams x.fLocals x.fLabel

@[simp] theorem ah.re_eq (x:ah):x.re=x:=by cases x;rfl

theorem ah.eta (x:ah):ah.mk x.fName x.fParams x.fLocals x.fLabel=x:=by cases x;rfl

def ac.re (x:ac):ac:=ac.mk x.fName x.fFields

@[simp] theorem ac.re_eq (x:ac):x.re=x:=by cases x;rfl

theorem ac.eta (x:ac):ac.mk x.fName x.fFields=x:=by cases x;rfl

def aE.re (x:aE):aE:=aE.mk x.fName x.fLines x.fMode x.fAt

@[simp] theorem aE.re_eq (x:aE):x.re=x:=by cases x;rfl

theorem aE.eta (x:aE):aE.mk x.fName x.fLines x.fMode x.fAt=x:=by cases x;rfl

def aN.re (x:aN):aN:=aN.mk x.fKind x.fNum x.fText x.fBefore x.fAfter

@[simp] theorem aN.re_eq (x:aN):x.re=x:=by cases x;rfl

theorem aN.eta (x:aN):aN.mk x.fKind x.fNum x.fText x.fBefore x.fAfter=x:=by cases x;rfl

def aI.re (x:aI):aI:=aI.mk x.fWord x.fHasNumber x.fLow x.fHigh x.fHasText x.fNeeds x.fLeaves

@[simp] theorem aI.re_eq (x:aI):x.re=x:=by cases x;rfl

theorem aI.eta (x:aI):aI.mk x.fWord x.fHasNumber x.fLow x.fHigh x.fHasText x.fNeeds x.fLeaves=x:=by cases x;rfl

def ew.re (x:ew):ew:=ew.mk x.fPrefix x.fPeek x.fStore

@[simp] theorem ew.re_eq (x:ew):x.re=x:=by cases x;rfl

theorem ew.eta (x:ew):ew.mk x.fPrefix x.fPeek x.fStore=x:=by cases x;rfl

def aF.re (x:aF):aF:=aF.mk x.fS

@[simp] theorem aF.re_eq (x:aF):x.re=x:=by cases x;rfl

theorem aF.eta (x:aF):aF.mk x.fS=x:=by cases x;rfl

theorem Kn {n:Nat} (h7:¬ n=7) (h13:¬ n=13) (h23:¬ n=23) (h26:¬ n=26) (h31:¬ n=31) (h35:¬ n=35) (h37:¬ n=37) (h41:¬ n=41) (h79:¬ n=79) (h86:¬ n=86) (h96:¬ n=96) (h98:¬ n=98) (h100:¬ n=100) (h106:¬ n=106) (h109:¬ n=109) (h128:¬ n=128) (h203:¬ n=203) (h207:¬ n=207) (h227:¬ n=227) (h230:¬ n=230) (h233:¬ n=233) (h267:¬ n=267) (h276:¬ n=276) (h347:¬ n=347) (h411:¬ n=411):SS n=Empty:=by
  unfold SS
  split<;>first | rfl | (exfalso;omega)

theorem GG.law (n:Nat):QQ GG n:=by
  by_cases h7:n=7
  · subst h7;exact aD.ok.law
  by_cases h13:n=13
  · subst h13;exact ax.ok.law
  by_cases h23:n=23
  · subst h23;exact aj.ok.law
  by_cases h26:n=26
  · subst h26;exact aJ.ok.law
  by_cases h31:n=31
  · subst h31;exact aB.ok.law
  by_cases h35:n=35
  · subst h35;exact au.ok.law
  by_cases h37:n=37
  · subst h37;exact ay.ok.law
  by_cases h41:n=41
  · subst h41;exact aq.ok.law
  by_cases h79:n=79
  · subst h79;exact b9.ok.law
  by_cases h86:n=86
  · subst h86;exact aQ.ok.law
  by_cases h96:n=96
  · subst h96;exact ai.ok.law
  by_cases h98:n=98
  · subst h98;exact aK.ok.law
  by_cases h100:n=100
  · subst h100;exact aa.ok.law
  by_cases h106:n=106
  · subst h106;exact ap.ok.law
  by_cases h109:n=109
  · subst h109;exact ae.ok.law
  by_cases h128:n=128
  · subst h128;exact av.ok.law
  by_cases h203:n=203
  · subst h203;exact am.ok.law
  by_cases h207:n=207
  · subst h207;exact ak.ok.law
  by_cases h227:n=227
  · subst h227;exact ah.ok.law
  by_cases h230:n=230
  · subst h230;exact ac.ok.law
  by_cases h233:n=233
  · subst h233;exact aE.ok.law
  by_cases h267:n=267
  · subst h267;exact aN.ok.law
  by_cases h276:n=276
  · subst h276;exact aI.ok.law
  by_cases h347:n=347
  · subst h347;exact ew.ok.law
  by_cases h411:n=411
  · subst h411;exact aF.ok.law
  exact .empty fun x=>(cast (Kn h7 h13 h23 h26 h31 h35 h37 h41 h79 h86 h96 h98 h100 h106 h109 h128 h203 h207 h227 h230 h233 h267 h276 h347 h411) x).elim

theorem GG.ok : bG GG:=OK GG.law

noncomputable def OO : Opn GG where
  P:=Tryz.prog
  tab:=[(2,(.int .i64)),(3,(.int .i64)),(4,.bool),(5,(.int .u8)),(6,(.int .u8)),(7,(.st 7)),(8,(.st 7)),(9,.str),(10,.str),(11,.str),(12,(.int .u64)),(13,(.st 13)),(14,(.st 13)),(21,(.int .i32)),(22,(.sl (.st 100))),(23,(.st 23)),(24,(.st 23)),(25,(.sl (.st 203))),(26,(.st 26)),(27,(.st 26)),(28,(.sl (.st 207))),(29,(.sl (.st 227))),(30,(.sl (.st 230))),(31,(.st 31)),(32,(.st 31)),(33,(.sl .str)),(34,(.sl (.st 233))),(35,(.st 35)),(36,(.st 35)),(37,(.st 37)),(38,(.st 37)),(39,(.sl (.st 106))),(40,(.sl (.st 109))),(41,(.st 41)),(42,(.st 41)),(46,(.sl (.st 100))),(47,(.st 23)),(48,(.st 23)),(50,(.sl (.st 203))),(51,(.st 26)),(52,(.st 26)),(53,(.sl (.st 207))),(54,(.sl (.st 227))),(55,(.sl (.st 230))),(56,(.st 31)),(57,(.st 31)),(58,(.sl (.st 233))),(59,(.st 35)),(60,(.st 35)),(61,(.st 37)),(62,(.st 37)),(63,(.sl (.st 106))),(64,(.sl (.st 109))),(65,(.st 41)),(66,(.st 41)),(77,(.sl (.st 128))),(78,(.sl (.int .i64))),(79,(.st 79)),(80,(.st 79)),(86,(.st 86)),(87,(.st 86)),(95,(.sl (.st 96))),(96,(.st 96)),(97,(.st 96)),(98,(.st 98)),(99,(.st 98)),(100,(.st 100)),(101,(.st 100)),(106,(.st 106)),(107,(.st 106)),(109,(.st 109)),(110,(.st 109)),(111,(.sl (.st 96))),(112,(.st 96)),(113,(.st 96)),(114,(.st 98)),(115,(.st 100)),(116,(.st 100)),(125,(.st 109)),(126,(.st 109)),(128,(.st 128)),(129,(.st 128)),(136,(.st 106)),(164,(.sl (.st 267))),(191,(.sl (.int .u8))),(203,(.st 203)),(204,(.st 203)),(207,(.st 207)),(208,(.st 207)),(221,(.st 203)),(222,(.st 203)),(224,(.st 207)),(225,(.st 207)),(227,(.st 227)),(228,(.st 227)),(230,(.st 230)),(231,(.st 230)),(233,(.st 233)),(234,(.st 233)),(243,(.st 227)),(245,(.st 230)),(259,(.st 233)),(267,(.st 267)),(268,(.st 267)),(276,(.st 276)),(277,(.st 276)),(329,(.sl (.st 276))),(334,(.int .u64)),(347,(.st 347)),(348,(.st 347)),(356,(.sl (.sl (.st 106)))),(359,(.sl (.sl .str))),(365,(.sl (.sl (.st 128)))),(373,(.int .u64)),(379,(.int .i64)),(386,(.int .i64)),(392,(.int .u32)),(402,(.int .u64)),(411,(.st 411)),(412,(.st 411)),(424,(.int .u8)),(425,(.int .u8)),(427,(.int .i32)),(428,(.int .i32))]
  cty:=SE

theorem OO.tot (n:Nat) (vs:List (V SS)) (h:gJ GG (SE n) vs):∃ x,Q6 n vs=some x/\Ps n x=vs:=by
  by_cases h7:n=7
  · subst h7;exact aD.ok.tot h
  by_cases h13:n=13
  · subst h13;exact ax.ok.tot h
  by_cases h23:n=23
  · subst h23;exact aj.ok.tot h
  by_cases h26:n=26
  · subst h26;exact aJ.ok.tot h
  by_cases h31:n=31
  · subst h31;exact aB.ok.tot h
  by_cases h35:n=35
  · subst h35;exact au.ok.tot h
  by_cases h37:n=37
  · subst h37;exact ay.ok.tot h
  by_cases h41:n=41
  · subst h41;exact aq.ok.tot h
  by_cases h79:n=79
  · subst h79;exact b9.ok.tot h
  by_cases h86:n=86
  · subst h86;exact aQ.ok.tot h
  by_cases h96:n=96
  · subst h96;exact ai.ok.tot h
  by_cases h98:n=98
  · subst h98;exact aK.ok.tot h
  by_cases h100:n=100
  · subst h100;exact aa.ok.tot h
  by_cases h106:n=106
  · subst h106;exact ap.ok.tot h
  by_cases h109:n=109
  · subst h109;exact ae.ok.tot h
  by_cases h128:n=128
  · subst h128;exact av.ok.tot h
  by_cases h203:n=203
  · subst h203;exact am.ok.tot h
  by_cases h207:n=207
  · subst h207;exact ak.ok.tot h
  by_cases h227:n=227
  · subst h227;exact ah.ok.tot h
  by_cases h230:n=230
  · subst h230;exact ac.ok.tot h
  by_cases h233:n=233
  · subst h233;exact aE.ok.tot h
  by_cases h267:n=267
  · subst h267;exact aN.ok.tot h
  by_cases h276:n=276
  · subst h276;exact aI.ok.tot h
  by_cases h347:n=347
  · subst h347;exact ew.ok.tot h
  by_cases h411:n=411
  · subst h411;exact aF.ok.tot h
  exfalso
  have e:SE n=[.st n]:=by
    unfold SE
    split<;>first | rfl | (exfalso;omega)
  rw [e] at h
  obtain ⟨x⟩:=MV h
  exact (cast (Kn h7 h13 h23 h26 h31 h35 h37 h41 h79 h86 h96 h98 h100 h106 h109 h128 h203 h207 h227 h230 h233 h267 h276 h347 h411) x:Empty).elim

theorem OO.ok : Gp OO:=⟨by kernel_rfl,OO.tot⟩

def SX : Nat->Option (List (Nat×Option Ty))
  | 5=>some [(0,none),(1,none),(5,none)]
  | _=>none

def SY : Nat->Option (List (Nat×Option Ty))
  | 5=>some [(0,none),(1,none),(5,none)]
  | _=>none

def SZ : Nat->Option (List (Nat×Option Ty))
  | 5=>some [(0,none),(1,none),(5,none)]
  | _=>none

def S0 : Nat->Option (List (Nat×Option Ty))
  | 8=>some []
  | 4=>some [(1,none),(3,none)]
  | 5=>some [(1,none),(3,none)]
  | _=>none

def S1 : Nat->Option (List (Nat×Option Ty))
  | 3=>some []
  | 4=>some [(2,none),(3,none)]
  | 5=>some []
  | 6=>some [(2,none),(3,none)]
  | 7=>some []
  | 8=>some [(2,none),(3,none)]
  | 11=>some [(2,none),(3,none),(6,none),(7,none),(8,none)]
  | 21=>some []
  | 22=>some [(2,none),(3,none),(10,none)]
  | _=>none

def S2 : Nat->Option (List (Nat×Option Ty))
  | 3=>some [(1,none),(2,none),(3,none),(4,none)]
  | _=>none

def S3 : Nat->Option (List (Nat×Option Ty))
  | 3=>some [(0,none),(3,none),(4,none)]
  | _=>none

def S4 : Nat->Option (List (Nat×Option Ty))
  | 3=>some [(0,none),(3,none),(4,none)]
  | _=>none

def S5 : Nat->Option (List (Nat×Option Ty))
  | 3=>some [(0,none),(3,none),(4,none)]
  | _=>none

def S6 : Nat->Option (List (Nat×Option Ty))
  | 8=>some [(1,none),(16,none),(17,none),(18,none)]
  | 4=>some [(1,none),(16,none),(17,none),(18,none)]
  | 7=>some []
  | _=>none

def S7 : Nat->Option (List (Nat×Option Ty))
  | 8=>some [(2,none),(3,none)]
  | 5=>some []
  | 6=>some [(2,none),(3,none)]
  | 7=>some []
  | _=>none

def S8 : Nat->Option (List (Nat×Option Ty))
  | 4=>some [(0,none),(1,none),(5,none)]
  | _=>none

def S9 : Nat->Option (List (Nat×Option Ty))
  | 4=>some [(0,none),(1,none),(5,none)]
  | _=>none

def Ta : Nat->Option (List (Nat×Option Ty))
  | 4=>some [(0,none),(1,none),(5,none)]
  | _=>none

def Tb : Nat->Option (List (Nat×Option Ty))
  | 2=>some [(1,none),(2,none),(5,none)]
  | _=>none

def Tc : Nat->Option (List (Nat×Option Ty))
  | 3=>some [(1,none),(3,none),(4,none)]
  | _=>none

def Td : Nat->Option (List (Nat×Option Ty))
  | 2=>some [(1,none),(2,none),(5,none)]
  | _=>none

def Te : Nat->Option (List (Nat×Option Ty))
  | 3=>some [(1,none),(3,none),(4,none)]
  | 7=>some [(1,none),(3,none),(4,none),(5,none),(6,none)]
  | _=>none

def Tf : Nat->Option (List (Nat×Option Ty))
  | 2=>some []
  | 3=>some [(3,none),(5,none)]
  | _=>none

def Tg : Nat->Option (List (Nat×Option Ty))
  | 2=>some [(1,none),(2,none),(5,none)]
  | _=>none

def Th : Nat->Option (List (Nat×Option Ty))
  | 2=>some [(1,none),(7,none),(8,none),(9,none)]
  | _=>none

def Ti : Nat->Option (List (Nat×Option Ty))
  | 2=>some []
  | 3=>some [(1,none)]
  | 4=>some []
  | 5=>some [(1,none)]
  | 6=>some []
  | 7=>some [(1,none)]
  | _=>none

def Tj : Nat->Option (List (Nat×Option Ty))
  | 3=>some [(3,none),(8,none),(9,none),(10,none)]
  | _=>none

def Tk : Nat->Option (List (Nat×Option Ty))
  | 3=>some [(1,none),(2,none),(3,none),(8,none),(9,none)]
  | _=>none

def Tl : Nat->Option (List (Nat×Option Ty))
  | 3=>some [(1,none),(3,none),(14,none),(15,none),(16,none)]
  | 6=>some [(1,none),(3,none),(5,none),(6,none),(14,none),(15,none),(16,none)]
  | _=>none

def Tm : Nat->Option (List (Nat×Option Ty))
  | 2=>some [(1,none),(7,none),(8,none),(9,none)]
  | _=>none

def Tn : Nat->Option (List (Nat×Option Ty))
  | 2=>some [(1,none),(7,none),(8,none),(9,none)]
  | _=>none

def To : Nat->Option (List (Nat×Option Ty))
  | 3=>some [(2,none),(3,none),(5,none),(9,none),(10,none),(11,none)]
  | _=>none

def Tp : Nat->Option (List (Nat×Option Ty))
  | 5=>some []
  | 6=>some [(2,none),(3,none),(5,none)]
  | _=>none

def Tq : Nat->Option (List (Nat×Option Ty))
  | 5=>some [(0,none),(1,none),(5,none)]
  | _=>none

def Tr : Nat->Option (List (Nat×Option Ty))
  | 5=>some [(0,none),(1,none),(5,none)]
  | _=>none

def Ts : Nat->Option (List (Nat×Option Ty))
  | 5=>some [(0,none),(1,none),(5,none)]
  | _=>none

def Tt : Nat->Option (List (Nat×Option Ty))
  | 5=>some [(0,none),(1,none),(5,none)]
  | _=>none

def Tu : Nat->Option (List (Nat×Option Ty))
  | 5=>some [(0,none),(1,none),(5,none)]
  | _=>none

def Tv : Nat->Option (List (Nat×Option Ty))
  | 5=>some [(0,none),(1,none),(5,none)]
  | _=>none

def Tw : Nat->Option (List (Nat×Option Ty))
  | 2=>some []
  | 3=>some [(1,none)]
  | 4=>some []
  | 5=>some [(1,none)]
  | _=>none

def Tx : Nat->Option (List (Nat×Option Ty))
  | 10=>some [(3,none)]
  | 6=>some [(1,none),(3,none)]
  | _=>none

def Tz : Nat->Option (List (Nat×Option Ty))
  | 2=>some []
  | 3=>some [(1,none)]
  | 4=>some [(1,none),(3,none)]
  | 5=>some [(1,none),(3,none)]
  | 8=>some []
  | 10=>some [(1,none),(5,none)]
  | 11=>some [(1,none),(5,none)]
  | 13=>some []
  | 15=>some [(1,none),(6,none)]
  | 16=>some [(1,none),(6,none)]
  | 18=>some []
  | _=>none

def TA : Nat->Option (List (Nat×Option Ty))
  | 5=>some [(1,none),(3,none),(4,none)]
  | _=>none

def TB : Nat->Option (List (Nat×Option Ty))
  | 33=>some []
  | 34=>some [(5,none)]
  | 8=>some []
  | 9=>some [(1,none),(5,none)]
  | 16=>some []
  | 17=>some [(1,none),(5,none)]
  | 25=>some []
  | 26=>some [(5,none)]
  | _=>none

def TC : Nat->Option (List (Nat×Option Ty))
  | 2=>some [(1,none),(2,none),(5,none)]
  | _=>none

def TD : Nat->Option (List (Nat×Option Ty))
  | 21=>some [(3,none),(6,none)]
  | _=>none

def TE : Nat->Option (List (Nat×Option Ty))
  | 3=>some [(0,none),(3,none),(4,none)]
  | _=>none

def TF : Nat->Option (List (Nat×Option Ty))
  | 3=>some [(0,none),(3,none),(4,none)]
  | _=>none

def Q7 : Nat->Option (List (Nat×Option Ty))
  | 3=>some [(0,none),(3,none),(4,none)]
  | _=>none

def Q8 : Nat->Option (List (Nat×Option Ty))
  | 3=>some [(0,none),(3,none),(4,none)]
  | _=>none

def Q9 : Nat->Option (List (Nat×Option Ty))
  | 3=>some [(0,none),(3,none),(4,none)]
  | _=>none

def Ra : Nat->Option (List (Nat×Option Ty))
  | 3=>some [(0,none),(3,none),(4,none)]
  | _=>none

def Rb : Nat->Option (List (Nat×Option Ty))
  | 11=>some [(3,none)]
  | 6=>some [(1,none),(3,none)]
  | _=>none

def Rc : Nat->Option (List (Nat×Option Ty))
  | 16=>some [(0,none),(5,none),(6,none),(8,none)]
  | 5=>some [(0,none),(5,none),(6,none)]
  | _=>none

def Re : Nat->Option (List (Nat×Option Ty))
  | 2=>some [(0,none),(1,none),(7,none),(8,none)]
  | _=>none

def Rf : Nat->Option (List (Nat×Option Ty))
  | 2=>some []
  | 3=>some [(1,none)]
  | 5=>some [(1,none),(3,none),(23,none),(24,none),(25,none)]
  | _=>none

def Rg : Nat->Option (List (Nat×Option Ty))
  | 2=>some []
  | 3=>some [(1,none)]
  | 4=>some [(1,none),(3,none)]
  | _=>none

def Rh : Nat->Option (List (Nat×Option Ty))
  | 3=>some []
  | 4=>some [(1,none),(3,none)]
  | 5=>some [(1,none),(4,none)]
  | _=>none

def Ri : Nat->Option (List (Nat×Option Ty))
  | 3=>some [(3,none),(8,none),(9,none),(10,none)]
  | _=>none

def Rj : Nat->Option (List (Nat×Option Ty))
  | 11=>some [(1,none)]
  | 12=>some [(1,none),(4,none)]
  | _=>none

def Rk : Nat->Option (List (Nat×Option Ty))
  | 2=>some [(1,none),(7,none),(8,none),(9,none)]
  | _=>none

def Rl : Nat->Option (List (Nat×Option Ty))
  | 4=>some [(0,none),(1,none),(5,none)]
  | _=>none

def Rm : Nat->Option (List (Nat×Option Ty))
  | 4=>some [(0,none),(1,none),(5,none)]
  | _=>none

def Ro : Nat->Option (List (Nat×Option Ty))
  | 4=>some [(0,none),(1,none),(5,none)]
  | _=>none

def Rp : Nat->Option (List (Nat×Option Ty))
  | 4=>some [(0,none),(1,none),(5,none)]
  | _=>none

def Rq : Nat->Option (List (Nat×Option Ty))
  | 4=>some [(0,none),(1,none),(5,none)]
  | _=>none

def Rr : Nat->Option (List (Nat×Option Ty))
  | 4=>some [(0,none),(1,none),(5,none)]
  | _=>none

def Rs : Nat->Option (List (Nat×Option Ty))
  | 5=>some [(0,none),(1,none),(5,none)]
  | _=>none

def Rt : Nat->Option (List (Nat×Option Ty))
  | 2=>some []
  | 3=>some [(1,none)]
  | _=>none

def Ru : Nat->Option (List (Nat×Option Ty))
  | 23=>some [(0,none),(3,none),(4,none)]
  | _=>none

def Rv : Nat->Option (List (Nat×Option Ty))
  | 8=>some [(1,none),(3,none)]
  | _=>none

def Rw : Nat->Option (List (Nat×Option Ty))
  | 2=>some [(0,none),(1,none),(5,none)]
  | 3=>some [(0,none),(1,none),(5,none)]
  | 5=>some []
  | _=>none

def Rx : Nat->Option (List (Nat×Option Ty))
  | 4=>some [(0,none),(5,none),(6,none),(7,none)]
  | _=>none

def Ry : Nat->Option (List (Nat×Option Ty))
  | 8=>some []
  | 10=>some [(0,none),(5,none)]
  | 4=>some [(0,none),(3,none)]
  | 5=>some [(0,none),(3,none)]
  | _=>none

def Rz : Nat->Option (List (Nat×Option Ty))
  | 11=>some [(1,none)]
  | 12=>some [(1,none),(4,none)]
  | _=>none

def RA : Nat->Option (List (Nat×Option Ty))
  | 2=>some []
  | 3=>some [(1,some (.ptr (.st 227)))]
  | _=>none

def RB : Nat->Option (List (Nat×Option Ty))
  | 2=>some []
  | 3=>some [(0,none)]
  | 4=>some [(0,none),(3,none)]
  | 5=>some [(0,none),(3,none)]
  | 7=>some []
  | _=>none

def RC : Nat->Option (List (Nat×Option Ty))
  | 3=>some [(0,none),(1,none)]
  | 4=>some [(0,none),(1,none)]
  | 5=>some [(1,none)]
  | _=>none

def RD : Nat->Option (List (Nat×Option Ty))
  | 19=>some [(0,none),(3,none)]
  | 20=>some [(0,none),(3,none),(64,none)]
  | 6=>some [(0,none),(3,none),(4,none)]
  | _=>none

def RE : Nat->Option (List (Nat×Option Ty))
  | 6=>some [(3,none),(4,none),(10,none)]
  | _=>none

def RF : Nat->Option (List (Nat×Option Ty))
  | 3=>some [(0,none),(3,none),(4,none)]
  | _=>none

def RG : Nat->Option (List (Nat×Option Ty))
  | 2=>some [(1,none),(7,none),(8,none),(9,none)]
  | _=>none

def RH : Nat->Option (List (Nat×Option Ty))
  | 3=>some [(3,none),(13,none),(14,none),(15,none)]
  | _=>none

def RJ : Nat->Option (List (Nat×Option Ty))
  | 11=>some [(1,none),(4,none),(36,none),(37,none),(38,none)]
  | _=>none

def RK : Nat->Option (List (Nat×Option Ty))
  | 8=>some [(3,none)]
  | _=>none

def RL : Nat->Option (List (Nat×Option Ty))
  | 2=>some [(0,none),(1,none),(2,none),(7,none)]
  | _=>none

def RM : Nat->Option (List (Nat×Option Ty))
  | 2=>some [(5,none),(6,none),(7,none)]
  | _=>none

def RN : Nat->Option (List (Nat×Option Ty))
  | 2=>some [(1,none),(7,none),(8,none),(9,none)]
  | _=>none

def RO : Nat->Option (List (Nat×Option Ty))
  | 8=>some [(1,none),(3,none)]
  | 2=>some []
  | 3=>some [(1,none)]
  | 12=>some [(1,none),(5,none)]
  | _=>none

def RP : Nat->Option (List (Nat×Option Ty))
  | 2=>some [(0,none),(1,none),(5,none)]
  | _=>none

def RQ : Nat->Option (List (Nat×Option Ty))
  | 2=>some [(0,none),(1,none),(5,none)]
  | _=>none

def RR : Nat->Option (List (Nat×Option Ty))
  | 2=>some [(0,none),(1,none),(5,none)]
  | _=>none

def RS : Nat->Option (List (Nat×Option Ty))
  | 2=>some [(1,none),(7,none),(8,none),(9,none)]
  | _=>none

def RT : Nat->Option (List (Nat×Option Ty))
  | 2=>some [(1,none),(7,none),(8,none),(9,none)]
  | _=>none

def RU : Nat->Option (List (Nat×Option Ty))
  | 2=>some [(1,none),(7,none),(8,none),(9,none)]
  | _=>none

def RV : Nat->Option (List (Nat×Option Ty))
  | 3=>some [(1,none),(3,none),(4,none)]
  | _=>none

def RW : Nat->Option (List (Nat×Option Ty))
  | 2=>some [(0,none),(1,none),(5,none)]
  | _=>none

def RX : Nat->Option (List (Nat×Option Ty))
  | 3=>some [(0,none),(1,none),(2,none),(8,none),(9,none),(10,none)]
  | _=>none

def RY : Nat->Option (List (Nat×Option Ty))
  | 2=>some [(1,none),(7,none),(8,none),(9,none)]
  | _=>none

def RZ : Nat->Option (List (Nat×Option Ty))
  | 3=>some [(0,none),(1,none),(6,none),(7,none),(8,none)]
  | _=>none

def R0 : Nat->Option (List (Nat×Option Ty))
  | 4=>some [(0,none),(1,none),(5,none)]
  | _=>none

def R1 : Nat->Option (List (Nat×Option Ty))
  | 21=>some []
  | 11=>some []
  | 12=>some [(6,none)]
  | 20=>some []
  | _=>none

def R2 : Nat->Option (List (Nat×Option Ty))
  | 4=>some [(0,none),(3,none)]
  | _=>none

def R3 : Nat->Option (List (Nat×Option Ty))
  | 10=>some [(0,none),(1,none),(4,none),(8,none),(9,none)]
  | 11=>some [(0,none),(1,none),(4,none),(8,none),(9,none)]
  | 13=>some [(1,none),(4,none),(8,none),(9,none)]
  | 18=>some [(0,none),(1,none),(4,none),(6,none),(10,none)]
  | 21=>some [(4,none)]
  | 22=>some [(0,none),(1,none),(4,none),(10,none)]
  | 27=>some [(1,none),(4,none),(6,none),(11,none),(12,none)]
  | _=>none

def R4 : Nat->Option (List (Nat×Option Ty))
  | 2=>some [(0,none),(3,none)]
  | _=>none

def R5 : Nat->Option (List (Nat×Option Ty))
  | 4=>some [(0,none),(2,none),(7,none)]
  | _=>none

def R6 : Nat->Option (List (Nat×Option Ty))
  | 2=>some []
  | 3=>some [(1,none)]
  | _=>none

def R7 : Nat->Option (List (Nat×Option Ty))
  | 2=>some [(0,none),(1,none),(5,none)]
  | _=>none

def R8 : Nat->Option (List (Nat×Option Ty))
  | 5=>some [(1,none),(17,none),(18,none),(19,none)]
  | _=>none

def R9 : Nat->Option (List (Nat×Option Ty))
  | 4=>some [(1,none),(2,none),(15,none),(16,none),(17,none)]
  | _=>none

def Sa : Nat->Option (List (Nat×Option Ty))
  | 21=>some []
  | 11=>some []
  | 12=>some [(3,none)]
  | 20=>some []
  | _=>none


def Sb : Nat->Option (List (Nat×Option Ty))
  | 3=>some [(3,none),(7,none),(8,none),(9,none)]
  | _=>none

def Sc : Nat->Option (List (Nat×Option Ty))
  | 6=>some [(3,none),(4,none),(10,none)]
  | _=>none

def Sd : Nat->Option (List (Nat×Option Ty))
  | 2=>some [(0,none),(5,none),(6,none),(7,none)]
  | _=>none

def Se : Nat->Option (List (Nat×Option Ty))
  | 11=>some [(6,none),(25,none),(26,none),(27,none)]
  | 3=>some [(0,none),(3,none),(9,none),(10,none),(11,none)]
  | _=>none

def Sf : Nat->Option (List (Nat×Option Ty))
  | 11=>some [(6,none),(25,none),(26,none),(27,none)]
  | 3=>some [(0,none),(3,none),(9,none),(10,none),(11,none)]
  | _=>none

def Sg : Nat->Option (List (Nat×Option Ty))
  | 2=>some []
  | 3=>some [(0,none)]
  | _=>none

def Sh : Nat->Option (List (Nat×Option Ty))
  | 2=>some []
  | 3=>some [(0,none),(1,none)]
  | 4=>some [(0,none),(1,none),(5,none)]
  | _=>none

def Si : Nat->Option (List (Nat×Option Ty))
  | 2=>some [(0,none),(1,none),(5,none)]
  | _=>none

def Sj : Nat->Option (List (Nat×Option Ty))
  | 11=>some []
  | 12=>some []
  | _=>none

def Sk : Nat->Option (List (Nat×Option Ty))
  | 4=>some [(0,none),(5,none)]
  | _=>none

def Sl : Nat->Option (List (Nat×Option Ty))
  | 2=>some [(0,none),(3,none)]
  | 5=>some [(0,none),(3,none),(4,none)]
  | _=>none

def Sm : Nat->Option (List (Nat×Option Ty))
  | 2=>some [(0,none),(3,none)]
  | _=>none

def Sn : Nat->Option (List (Nat×Option Ty))
  | 2=>some [(0,none),(1,none),(5,none)]
  | _=>none

def So : Nat->Option (List (Nat×Option Ty))
  | 2=>some [(0,none),(1,none),(5,none)]
  | _=>none

def Sp : Nat->Option (List (Nat×Option Ty))
  | 19=>some [(1,none),(3,none)]
  | 18=>some [(3,none)]
  | 11=>some []
  | 12=>some [(1,none),(3,none)]
  | _=>none

def Sq : Nat->Option (List (Nat×Option Ty))
  | 11=>some [(6,none),(25,none),(26,none),(27,none)]
  | 3=>some [(0,none),(3,none),(9,none),(10,none),(11,none)]
  | _=>none

def Sr : Nat->Option (List (Nat×Option Ty))
  | 4=>some [(1,none),(3,none)]
  | _=>none




def Ss : Nat->Option (List (Nat×Option Ty))
  | 3=>some [(0,none),(3,none),(4,none)]
  | _=>none

def Su : Nat->Option (List (Nat×Option Ty))
  | 4=>some [(0,none),(3,none)]
  | _=>none




def Sv : Nat->Option (List (Nat×Option Ty))
  | 11=>some [(1,none),(2,none)]
  | 12=>some [(1,none),(2,none),(4,none)]
  | _=>none

def Sw : Nat->Option (List (Nat×Option Ty))
  | 2=>some [(0,none),(3,none),(7,none),(8,none)]
  | _=>none


def Sx : Nat->Option (List (Nat×Option Ty))
  | 32=>some [(0,none),(3,none),(4,none)]
  | 13=>some [(0,none),(3,none)]
  | 14=>some [(0,none),(4,none),(8,none)]
  | 26=>some [(0,none),(4,none)]
  | 27=>some [(0,none),(4,none),(8,none)]
  | 31=>some []
  | _=>none



















def TQ : FuncId->Nat->Option (List (Nat×Option Ty))
  | 12=>SX
  | 14=>SY
  | 15=>SZ
  | 16=>S0
  | 17=>S1
  | 18=>S2
  | 19=>S3
  | 21=>S4
  | 22=>S5
  | 23=>S6
  | 25=>S7
  | 26=>S8
  | 28=>S9
  | 29=>Ta
  | 38=>Tb
  | 39=>Tc
  | 42=>Td
  | 43=>Te
  | 44=>Tf
  | 45=>Tg
  | 53=>Th
  | 54=>Ti
  | 57=>Tj
  | 58=>Tk
  | 59=>Tl
  | 62=>Tm
  | 66=>Tn
  | 67=>To
  | 68=>Tp
  | 77=>Tq
  | 78=>Tr
  | 79=>Ts
  | 80=>Tt
  | 81=>Tu
  | 82=>Tv
  | 83=>Tw
  | 84=>Tx
  | 87=>Tz
  | 89=>TA
  | 91=>TB
  | 93=>TC
  | 94=>TD
  | 98=>TE
  | 99=>TF
  | 100=>Q7
  | 101=>Q8
  | 102=>Q9
  | 103=>Ra
  | 107=>Rb
  | 108=>Rc
  | 110=>Re
  | 116=>Rf
  | 117=>Rg
  | 118=>Rh
  | 119=>Ri
  | 120=>Rj
  | 125=>Rk
  | 132=>Rl
  | 133=>Rm
  | 134=>Ro
  | 135=>Rp
  | 136=>Rq
  | 137=>Rr
  | 138=>Rs
  | 145=>Rt
  | 148=>Ru
  | 149=>Rv
  | 150=>Rw
  | 151=>Rx
  | 152=>Ry
  | 153=>Rz
  | 155=>RA
  | 157=>RB
  | 159=>RC
  | 160=>RD
  | 162=>RE
  | 163=>RF
  | 169=>RG
  | 170=>RH
  | 174=>RJ
  | 175=>RK
  | 177=>RL
  | 180=>RM
  | 187=>RN
  | 188=>RO
  | 191=>RP
  | 193=>RQ
  | 195=>RR
  | 198=>RS
  | 200=>RT
  | 204=>RU
  | 205=>RV
  | 206=>RW
  | 209=>RX
  | 213=>RY
  | 215=>RZ
  | 216=>R0
  | 224=>R1
  | 226=>R2
  | 228=>R3
  | 232=>R4
  | 233=>R5
  | 234=>R6
  | 236=>R7
  | 241=>R8
  | 242=>R9
  | 243=>Sa
  | 257=>Sb
  | 258=>Sc
  | 260=>Sd
  | 262=>Se
  | 264=>Sf
  | 267=>Sg
  | 273=>Sh
  | 275=>Si
  | 276=>Sj
  | 277=>Sk
  | 278=>Sl
  | 279=>Sm
  | 280=>Sn
  | 281=>So
  | 282=>Sp
  | 291=>Sq
  | 292=>Sr
  | 303=>Ss
  | 304=>Su
  | 314=>Sv
  | 316=>Sw
  | 319=>Sx
  | _=>fun _=>none

def ownT : FuncId->Option (TypeId×(List (V GG.S)->Option (List (List UInt8))))
  | 266=>some (9,MX)
  | 300=>some (9,OL)
  | _=>none

def grwT : FuncId->Option (TypeId×Ty)
  | 298=>some (136,(.st 106))
  | 313=>some (129,(.st 128))
  | _=>none

def extT : FuncId->Option (Sigma fun rt:List Ty=>List (V GG.S)->Option (yE GG.S rt))
  | 246=>some ⟨[.str],PV⟩
  | 251=>some ⟨[.int .i64,.bool],Ey⟩
  | 253=>some ⟨[.int .i64],wT⟩
  | 284=>some ⟨[.bool],AL⟩
  | 285=>some ⟨[.str],PW⟩
  | _=>none

def eatT : FuncId->Option (TypeId×(List (List UInt8)->Option (List (List UInt8))))
  | 265=>some (9,Im)
  | _=>none

def bldF : FuncId->Option (Nat×TypeId×TypeId)
  | 112=>some (1,193,5)
  | 113=>some (3,193,5)
  | _=>none

def clnF : FuncId->Option (TypeId×Ty)
  | 293=>some (129,(.st 128))
  | _=>none

noncomputable def CC : Cfg GG where
  P:=Tryz.prog
  refs:=fun f=>[356,357,358,364].contains f
  ext:=U.extT
  cut:=TQ
  glob:=fun _=>none
  gint:=fun g=>g==0
  gerr:=fun _=>false
  pint:=fun _=>none
  cln:=U.clnF
  gtab:=fun | 1=>some ((Lib.pow10Tab.map fun z=>Value.int .u64 z).toArray) | _=>none
  own:=U.ownT
  bld:=U.bldF
  ctor:=fun _=>none
  eat:=U.eatT
  trE:=fun e=>[].contains e
  ownR:=fun f=>[18,43,46,58,59,89,94,114,119,160,161,184,190,256,257,262,290,291,292,293].contains f
  eatR:=fun f=>[].contains f
  wrf:=fun f=>[].contains f
  grw:=U.grwT

end Go.Dv.U
