/- The functions of the program as equations on plain data, each checked by the kernel. -/
import Derived.Test.YtikhhcienngnbaaGreatDoorFnExactValidMachineEqa
set_option linter.all false
set_option linter.unusedVariables false
set_option linter.unusedSimpArgs false
namespace Go.Dv.U
open Go Go.Dv Go.Proofs
set_option maxRecDepth 100000
theorem xz (x0:List am) (x1:Int) (x2:List am):jZ x0 x1 x2=if (decide (x1<len x0))=true then (idx x0 x1).bind fun ra=>(oD ra).bind fun rb=>(idx x2 x1).bind fun rc=>((x2[Int.toNat x1]?):Option am).bind fun rd=>jZ x0 (w64 (x1+1)) (upd x2 (Int.toNat x1) rb) else some x2:=
  (ab CC _ _ _ _).trans (by kernel_rfl)
theorem vM (x0:List ak) (x1:Int) (x2:List ak):i7 x0 x1 x2=if (decide (x1<len x0))=true then (idx x0 x1).bind fun ra=>(md ra).bind fun rb=>(idx x2 x1).bind fun rc=>((x2[Int.toNat x1]?):Option ak).bind fun rd=>i7 x0 (w64 (x1+1)) (upd x2 (Int.toNat x1) rb) else some x2:=
  (ab CC _ _ _ _).trans (by kernel_rfl)
theorem uk (x0:List ah) (x1:Int) (x2:List ah):ik x0 x1 x2=if (decide (x1<len x0))=true then (idx x0 x1).bind fun ra=>(kC ra).bind fun rb=>(idx x2 x1).bind fun rc=>((x2[Int.toNat x1]?):Option ah).bind fun rd=>ik x0 (w64 (x1+1)) (upd x2 (Int.toNat x1) rb) else some x2:=
  (ab CC _ _ _ _).trans (by kernel_rfl)
theorem qX (x0:List ac) (x1:Int) (x2:List ac):fI x0 x1 x2=if (decide (x1<len x0))=true then (idx x0 x1).bind fun ra=>(gZ ra).bind fun rb=>(idx x2 x1).bind fun rc=>((x2[Int.toNat x1]?):Option ac).bind fun rd=>fI x0 (w64 (x1+1)) (upd x2 (Int.toNat x1) rb) else some x2:=
  (ab CC _ _ _ _).trans (by kernel_rfl)
theorem xA (x0:(List (List UInt8))) (x1:Int) (x2:(List (List UInt8))):kc x0 x1 x2=if (decide (x1<len x0))=true then (idx x0 x1).bind fun ra=>(idx x2 x1).bind fun rb=>((x2[Int.toNat x1]?):Option (List UInt8)).bind fun rc=>kc x0 (w64 (x1+1)) (upd x2 (Int.toNat x1) ra) else some x2:=
  (ab CC _ _ _ _).trans (by kernel_rfl)
theorem Bk (x0:List aE) (x1:Int) (x2:List aE):ng x0 x1 x2=if (decide (x1<len x0))=true then (idx x0 x1).bind fun ra=>(vu ra).bind fun rb=>(idx x2 x1).bind fun rc=>((x2[Int.toNat x1]?):Option aE).bind fun rd=>ng x0 (w64 (x1+1)) (upd x2 (Int.toNat x1) rb) else some x2:=
  (ab CC _ _ _ _).trans (by kernel_rfl)
theorem GM (x0:aa):AY x0=(oE x0.fLabel).bind fun ra=>if (!ra)=true then iC else (pn x0.fGoto).bind fun rb=>if (!rb)=true then iC else (qB x0.fHasSubject x0.fSubject.re).bind fun rc=>if (!rc)=true then iC else (qB x0.fHasPattern x0.fPattern.re).bind fun rd=>if (!rd)=true then iC else (qB x0.fHasReplace x0.fReplace.re).bind fun re=>if (!re)=true then iC else yR x0.fLabel x0.fHasSubject x0.fSubject.fKind x0.fSubject.fNum x0.fSubject.fText x0.fSubject.fKids x0.fHasPattern x0.fPattern.fKind x0.fPattern.fNum x0.fPattern.fText x0.fPattern.fKids x0.fHasReplace x0.fReplace.fKind x0.fReplace.fNum x0.fReplace.fText x0.fReplace.fKids x0.fGoto.fAlways x0.fGoto.fSuccess x0.fGoto.fFailure:=
  (ab CC _ _ _ _).trans (by kernel_rfl)
theorem EU (x0:aa):r6 x0=if x0.fHasSubject=true then (qC x0.fSubject.fKind x0.fSubject.fNum x0.fSubject.fText x0.fSubject.fKids 6).bind fun ra=>((app ([32]) ra):Option (List UInt8)).bind fun rb=>(app x0.fLabel rb).bind fun rc=>if x0.fHasPattern=true then (dM x0.fPattern.fKind x0.fPattern.fNum x0.fPattern.fText x0.fPattern.fKids).bind fun rd=>((app ([32]) rd):Option (List UInt8)).bind fun re=>(app rc re).bind fun rf=>gz rf x0.fLabel x0.fHasSubject x0.fSubject.fKind x0.fSubject.fNum x0.fSubject.fText x0.fSubject.fKids x0.fHasPattern x0.fPattern.fKind x0.fPattern.fNum x0.fPattern.fText x0.fPattern.fKids x0.fHasReplace x0.fReplace.fKind x0.fReplace.fNum x0.fReplace.fText x0.fReplace.fKids x0.fGoto.fAlways x0.fGoto.fSuccess x0.fGoto.fFailure else gz rc x0.fLabel x0.fHasSubject x0.fSubject.fKind x0.fSubject.fNum x0.fSubject.fText x0.fSubject.fKids x0.fHasPattern x0.fPattern.fKind x0.fPattern.fNum x0.fPattern.fText x0.fPattern.fKids x0.fHasReplace x0.fReplace.fKind x0.fReplace.fNum x0.fReplace.fText x0.fReplace.fKids x0.fGoto.fAlways x0.fGoto.fSuccess x0.fGoto.fFailure else if x0.fHasPattern=true then (dM x0.fPattern.fKind x0.fPattern.fNum x0.fPattern.fText x0.fPattern.fKids).bind fun rg=>((app ([32]) rg):Option (List UInt8)).bind fun rc=>(app x0.fLabel rc).bind fun rh=>gz rh x0.fLabel x0.fHasSubject x0.fSubject.fKind x0.fSubject.fNum x0.fSubject.fText x0.fSubject.fKids x0.fHasPattern x0.fPattern.fKind x0.fPattern.fNum x0.fPattern.fText x0.fPattern.fKids x0.fHasReplace x0.fReplace.fKind x0.fReplace.fNum x0.fReplace.fText x0.fReplace.fKids x0.fGoto.fAlways x0.fGoto.fSuccess x0.fGoto.fFailure else gz x0.fLabel x0.fLabel x0.fHasSubject x0.fSubject.fKind x0.fSubject.fNum x0.fSubject.fText x0.fSubject.fKids x0.fHasPattern x0.fPattern.fKind x0.fPattern.fNum x0.fPattern.fText x0.fPattern.fKids x0.fHasReplace x0.fReplace.fKind x0.fReplace.fNum x0.fReplace.fText x0.fReplace.fKids x0.fGoto.fAlways x0.fGoto.fSuccess x0.fGoto.fFailure:=
  (ab CC _ _ _ _).trans (by kernel_rfl)
theorem Bl (x0:List UInt8):qz x0=if (decide (len x0>4000))=true then some (([]),0,1) else (g7 x0 (false)).bind fun ra=>if (!ra)=true then some (([]),0,1) else (Gy x0).bind fun rb=>some (rb.1,rb.2.1,rb.2.2):=
  (ab CC _ _ _ _).trans (by kernel_rfl)
theorem p8 (x0:List UInt8) (x1:Int) (x2:List aa):fa x0 x1 x2=if (decide (x1<len x2))=true then if (!x0==[])=true then (idx x2 x1).bind fun ra=>if (ra.fLabel==x0)=true then some x1 else fa x0 (w64 (x1+1)) x2 else fa x0 (w64 (x1+1)) x2 else some (-1):=
  (ab CC _ _ _ _).trans (by kernel_rfl)
theorem qY (x0:List UInt8) (x1:Int) (x2:List aa):kA x0 x1 x2=if (decide (x1<len x2))=true then (idx x2 x1).bind fun ra=>(r6 (aa.mk ra.fLabel ra.fHasSubject ra.fSubject.re ra.fHasPattern ra.fPattern.re ra.fHasReplace ra.fReplace.re ra.fGoto)).bind fun rb=>(app rb ([10])).bind fun rc=>(app x0 rc).bind fun rd=>kA rd (w64 (x1+1)) x2 else some x0:=
  (ab CC _ _ _ _).trans (by kernel_rfl)
theorem GN (x0:List UInt8) (x1:Bool) (x2 x3:Int) (x4:List UInt8) (x5:List ai) (x6:Bool) (x7 x8:Int) (x9:List UInt8) (x10:List ai) (x11:Bool) (x12 x13:Int) (x14:List UInt8) (x15:List ai) (x16 x17 x18:List UInt8):AZ x0 x1 x2 x3 x4 x5 x6 x7 x8 x9 x10 x11 x12 x13 x14 x15 x16 x17 x18=if (!x1)=true then some ((([]),()),()) else if (!x11)=true then (dA x2 x3 x4 x5).bind fun ra=>((app [] ra.1.1):Option (List av)).bind fun rb=>if (!x6)=true then (app rb [av.mk (Int.ofNat 14) (Int.ofNat 0) []]).bind fun rc=>some (((rc),()),()) else (dA x7 x8 x9 x10).bind fun rd=>(app rb rd.1.1).bind fun re=>(app re [av.mk (Int.ofNat 24) (Int.ofNat 0) []]).bind fun rf=>some (((rf),()),()) else (ua x2 x3 x4 x5).bind fun ra=>if (!ra.2.2.2.1.1)=true then some ((([av.mk (Int.ofNat 31) (Int.ofNat 4) []]),()),()) else ((app [] ra.1.1):Option (List av)).bind fun rg=>if x6=true then (app rg [av.mk ra.2.1.1 ra.2.1.2.1 ra.2.1.2.2.1]).bind fun re=>(dA x7 x8 x9 x10).bind fun rh=>(app re rh.1.1).bind fun ri=>(app ri [av.mk (Int.ofNat 25) (Int.ofNat 0) []]).bind fun rj=>(dA x12 x13 x14 x15).bind fun rk=>(app rj rk.1.1).bind fun rl=>if x6=true then (app rl [av.mk (Int.ofNat 26) (Int.ofNat 0) []]).bind fun rm=>ja rm ra.2.2.1.1 ra.2.2.1.2.1 ra.2.2.1.2.2.1 else ja rl ra.2.2.1.1 ra.2.2.1.2.1 ra.2.2.1.2.2.1 else (dA x12 x13 x14 x15).bind fun rn=>(app rg rn.1.1).bind fun rf=>if x6=true then (app rf [av.mk (Int.ofNat 26) (Int.ofNat 0) []]).bind fun rj=>ja rj ra.2.2.1.1 ra.2.2.1.2.1 ra.2.2.1.2.2.1 else ja rf ra.2.2.1.1 ra.2.2.1.2.1 ra.2.2.1.2.2.1:=
  (ab CC _ _ _ _).trans (by kernel_rfl)
theorem GO (x0:aj) (x1:Int) (x2:Bool):oB x0 x1 x2=(idx x0.fStatements x1).bind fun ra=>(A2 x0 ra.fGoto x2 x1).bind fun rb=>if (rb.2 !=0)=true then some (av.mk (Int.ofNat 31) rb.2 []) else if (rb.1 == -1)=true then some (av.mk (Int.ofNat 28) (Int.ofNat 0) []) else if (rb.1 == -2)=true then some (av.mk (Int.ofNat 29) (Int.ofNat 0) []) else if (rb.1 == -3)=true then some (av.mk (Int.ofNat 30) (Int.ofNat 0) []) else some (av.mk (Int.ofNat 27) rb.1 []):=
  (ab CC _ _ _ _).trans (by kernel_rfl)
theorem zz (x0:ay):pm x0=(po x0.fHeap).bind fun ra=>if ra=true then (nj x0.fScope).bind fun rb=>if rb=true then (n7 x0.fConsole).bind fun rc=>if rc=true then (me x0.fScope).bind fun rd=>(vp x0.fHeap rd.1.1).bind fun re=>some re else some (false) else some (false) else some (false):=
  (ab CC _ _ _ _).trans (by kernel_rfl)
theorem zA : lB=some (false):=
  (ab CC _ _ _ _).trans (by kernel_rfl)
theorem GP (x0:aJ) (x1:List ap):vp x0 x1=kD x1 0 x0.fNext x0.fObjects:=
  (ab CC _ _ _ _).trans (by kernel_rfl)
theorem zB (x0:List av) (x1 x2:List Int) (x3 x4 x5:Int) (x6:List am) (x7:List ak) (x8:List ah) (x9:List ac) (x10:(List (List UInt8))) (x11:Int) (x12:(List (List UInt8))) (x13:List aE) (x14:(List (List UInt8))) (x15:List ap) (x16:List ae) (x17 x18 x19 x20 x21:Int):vq x0 x1 x2 x3 x4 x5 x6 x7 x8 x9 x10 x11 x12 x13 x14 x15 x16 x17 x18 x19 x20 x21=(qD (b9.mk x0 x1 x2)).bind fun ra=>g8 0 0 x0 x1 x2 x3 x4 x5 x6 x7 x8 x9 x10 x11 x12 x13 x14 x15 x16 x17 x18 x19 x20 x21 ra.1.1:=
  (ab CC _ _ _ _).trans (by kernel_rfl)
theorem ul (x0:aa):il x0=if (!x0.fLabel==[])=true then (qE x0.fLabel).bind fun ra=>if (!ra)=true then cc else (pp x0.fGoto).bind fun rb=>if (!rb)=true then cc else if (!x0.fHasSubject)=true then if x0.fHasPattern=true then cc else if x0.fHasReplace=true then cc else dS x0.fLabel x0.fHasSubject x0.fSubject.fKind x0.fSubject.fNum x0.fSubject.fText x0.fSubject.fKids x0.fHasPattern x0.fPattern.fKind x0.fPattern.fNum x0.fPattern.fText x0.fPattern.fKids x0.fHasReplace x0.fReplace.fKind x0.fReplace.fNum x0.fReplace.fText x0.fReplace.fKids x0.fGoto.fAlways x0.fGoto.fSuccess x0.fGoto.fFailure else dS x0.fLabel x0.fHasSubject x0.fSubject.fKind x0.fSubject.fNum x0.fSubject.fText x0.fSubject.fKids x0.fHasPattern x0.fPattern.fKind x0.fPattern.fNum x0.fPattern.fText x0.fPattern.fKids x0.fHasReplace x0.fReplace.fKind x0.fReplace.fNum x0.fReplace.fText x0.fReplace.fKids x0.fGoto.fAlways x0.fGoto.fSuccess x0.fGoto.fFailure else (pp x0.fGoto).bind fun ra=>if (!ra)=true then cc else if (!x0.fHasSubject)=true then if x0.fHasPattern=true then cc else if x0.fHasReplace=true then cc else dS x0.fLabel x0.fHasSubject x0.fSubject.fKind x0.fSubject.fNum x0.fSubject.fText x0.fSubject.fKids x0.fHasPattern x0.fPattern.fKind x0.fPattern.fNum x0.fPattern.fText x0.fPattern.fKids x0.fHasReplace x0.fReplace.fKind x0.fReplace.fNum x0.fReplace.fText x0.fReplace.fKids x0.fGoto.fAlways x0.fGoto.fSuccess x0.fGoto.fFailure else dS x0.fLabel x0.fHasSubject x0.fSubject.fKind x0.fSubject.fNum x0.fSubject.fText x0.fSubject.fKids x0.fHasPattern x0.fPattern.fKind x0.fPattern.fNum x0.fPattern.fText x0.fPattern.fKids x0.fHasReplace x0.fReplace.fKind x0.fReplace.fNum x0.fReplace.fText x0.fReplace.fKids x0.fGoto.fAlways x0.fGoto.fSuccess x0.fGoto.fFailure:=
  (ab CC _ _ _ _).trans (by kernel_rfl)
theorem cj (x0:List aa) (x1:List UInt8):bF x0 x1=aG x0 x1 (len x0) 0:=
  (ab CC _ _ _ _).trans (by kernel_rfl)
theorem ls (x0:List aa) (x1 x2:Int) (x3:List Int):gw x0 x1 x2 x3=if (decide (x2<x1))=true then (idx x0 x2).bind fun ra=>(fp (aa.mk ra.fLabel ra.fHasSubject ra.fSubject.re ra.fHasPattern ra.fPattern.re ra.fHasReplace ra.fReplace.re ra.fGoto)).bind fun rb=>(app rb ([10])).bind fun rc=>(app x3 (List.map (fun (b:UInt8) ↦ ib b) rc)).bind fun rd=>bN x0 x1 (w64 (x2+1)) rd else ((qr x3):Option (List UInt8)).bind fun ra=>some ra:=
  (ab CC _ _ _ _).trans (by kernel_rfl)
theorem mN (x0:aj) (x1:Int):fb x0 x1=(idx x0.fStatements x1).bind fun ra=>(kX (aa.mk ra.fLabel ra.fHasSubject ra.fSubject.re ra.fHasPattern ra.fPattern.re ra.fHasReplace ra.fReplace.re ra.fGoto)).bind fun rb=>((app [av.mk (Int.ofNat 1) x1 []] rb.1.1):Option (List av)).bind fun rc=>(ej x0 x1 (true)).bind fun rd=>(ej x0 x1 (false)).bind fun re=>(app rc [rd,re]).bind fun rf=>some (((rf),()),()):=
  (ab CC _ _ _ _).trans (by kernel_rfl)
theorem gQ (x0 x1:Int) (x2:List Int) (x3 x4:Int) (x5:List av) (x6 x7 x8:List Int):gy x0 x1 x2 x3 x4 x5 x6 x7 x8=if (decide (x1<w64 (x0-1)))=true then (idx x5 (w64 (x1-1))).bind fun ra=>(n8 ra).bind fun rb=>(idx x8 (w64 (x1-1))).bind fun rc=>((x8[Int.toNat (w64 (x1-1))]?):Option Int).bind fun rd=>(idx x8 x1).bind fun re=>((x8[Int.toNat x1]?):Option Int).bind fun rf=>gy x0 (w64 (x1+1)) x2 x3 x4 x5 x6 x7 (upd x8 (Int.toNat x1) (w64 (w64 (rd-rb.1)+rb.2))) else dL x2 x3 (w64 (x4+1)) x5 x6 x7 x8:=
  (ab CC _ _ _ _).trans (by kernel_rfl)
theorem CT (x0:aJ):t8 x0=(cY x0.fNext 0 1000000).bind fun ra=>if (!ra)=true then kg else if (decide (len x0.fObjects>40))=true then kg else (cw x0.fObjects).bind fun rb=>if (!rb)=true then kg else tq x0.fNext x0.fObjects:=
  (ab CC _ _ _ _).trans (by kernel_rfl)
theorem Bm (x0:aB):qA x0=if (decide (len x0.fVars>40))=true then jb else if (decide (len x0.fFunctions>12))=true then jb else if (decide (len x0.fTypes>8))=true then jb else qF x0.fVars x0.fFunctions x0.fTypes:=
  (ab CC _ _ _ _).trans (by kernel_rfl)
theorem xB (x0:au):nZ x0=if (decide (len x0.fInput>100))=true then eO else if (decide (len x0.fOutput>100))=true then eO else if (decide (len x0.fFiles>6))=true then eO else if (decide (len x0.fTrace>200))=true then eO else dJ x0.fInput x0.fAt x0.fOutput x0.fFiles x0.fTrace:=
  (ab CC _ _ _ _).trans (by kernel_rfl)
theorem um (x0:aB):kW x0=cy x0.fVars (len x0.fVars) 0 ([]):=
  (ab CC _ _ _ _).trans (by kernel_rfl)
theorem iJ (x0:Int) (x1:List am) (x2:List ap) (x3 x4:Int):bP x0 x1 x2 x3 x4=if (decide (x4<x3))=true then (idx x2 x4).bind fun ra=>(mf (aJ.mk x0 x1) ra).bind fun rb=>if (!rb)=true then some (false) else bP x0 x1 x2 x3 (w64 (x4+1)) else some (true):=
  (ab CC _ _ _ _).trans (by kernel_rfl)
theorem dU (x0:List ae) (x1:List aa) (x2:List av) (x3 x4 x5:List Int) (x6 x7 x8:Int) (x9:List am) (x10:List ak) (x11:List ah) (x12:List ac) (x13:(List (List UInt8))) (x14:Int) (x15:(List (List UInt8))) (x16:List aE) (x17:(List (List UInt8))) (x18:List ap) (x19:List ae) (x20 x21 x22 x23 x24:Int):bJ x0 x1 x2 x3 x4 x5 x6 x7 x8 x9 x10 x11 x12 x13 x14 x15 x16 x17 x18 x19 x20 x21 x22 x23 x24=aS x1 x2 x3 x4 x5 x6 x7 x8 x9 x10 x11 x12 x13 x14 x15 x16 x17 x18 x19 x20 x21 x22 x23 x24 x0 (len x0) 0:=
  (ab CC _ _ _ _).trans (by kernel_rfl)
theorem mO (x0:aQ) (x1:aq):fc x0 x1=cZ 0 x1.fFrames (len x1.fFrames) 0 x0.fP.fStatements x0.fCode.fInstrs x0.fCode.fEntries x0.fCode.fFails x0.fHeights x1.fStatus x1.fCode x1.fMemory.fHeap.fNext x1.fMemory.fHeap.fObjects x1.fMemory.fScope.fVars x1.fMemory.fScope.fFunctions x1.fMemory.fScope.fTypes x1.fMemory.fConsole.fInput x1.fMemory.fConsole.fAt x1.fMemory.fConsole.fOutput x1.fMemory.fConsole.fFiles x1.fMemory.fConsole.fTrace x1.fStack x1.fFrames x1.fPC x1.fBase x1.fAt x1.fSteps x1.fFuel:=
  (ab CC _ _ _ _).trans (by kernel_rfl)
theorem gL (x0:aQ) (x1:aq):dG x0 x1=(qG x1.fPC (len x0.fCode.fInstrs)).bind fun ra=>if (!ra)=true then some (false) else (idx x0.fHeights x1.fPC).bind fun rb=>if (len x1.fStack !=w64 (x1.fBase+rb))=true then some (false) else (idx x0.fCode.fInstrs x1.fPC).bind fun rc=>if (x1.fStatus==2)=true then if (rc.fOp !=28)=true then if (rc.fOp !=1)=true then gK else c6 rc.fOp x0.fP.fStatements x0.fCode.fInstrs x0.fCode.fEntries x0.fCode.fFails x0.fHeights x1.fStatus x1.fCode x1.fMemory.fHeap.fNext x1.fMemory.fHeap.fObjects x1.fMemory.fScope.fVars x1.fMemory.fScope.fFunctions x1.fMemory.fScope.fTypes x1.fMemory.fConsole.fInput x1.fMemory.fConsole.fAt x1.fMemory.fConsole.fOutput x1.fMemory.fConsole.fFiles x1.fMemory.fConsole.fTrace x1.fStack x1.fFrames x1.fPC x1.fBase x1.fAt x1.fSteps x1.fFuel else c6 rc.fOp x0.fP.fStatements x0.fCode.fInstrs x0.fCode.fEntries x0.fCode.fFails x0.fHeights x1.fStatus x1.fCode x1.fMemory.fHeap.fNext x1.fMemory.fHeap.fObjects x1.fMemory.fScope.fVars x1.fMemory.fScope.fFunctions x1.fMemory.fScope.fTypes x1.fMemory.fConsole.fInput x1.fMemory.fConsole.fAt x1.fMemory.fConsole.fOutput x1.fMemory.fConsole.fFiles x1.fMemory.fConsole.fTrace x1.fStack x1.fFrames x1.fPC x1.fBase x1.fAt x1.fSteps x1.fFuel else c6 rc.fOp x0.fP.fStatements x0.fCode.fInstrs x0.fCode.fEntries x0.fCode.fFails x0.fHeights x1.fStatus x1.fCode x1.fMemory.fHeap.fNext x1.fMemory.fHeap.fObjects x1.fMemory.fScope.fVars x1.fMemory.fScope.fFunctions x1.fMemory.fScope.fTypes x1.fMemory.fConsole.fInput x1.fMemory.fConsole.fAt x1.fMemory.fConsole.fOutput x1.fMemory.fConsole.fFiles x1.fMemory.fConsole.fTrace x1.fStack x1.fFrames x1.fPC x1.fBase x1.fAt x1.fSteps x1.fFuel:=
  (ab CC _ _ _ _).trans (by kernel_rfl)
theorem II (x0 x1:ai):nh x0 x1=if (x0.fKind !=x1.fKind)=true then some (false) else if (x0.fNum !=x1.fNum)=true then some (false) else if (!x0.fText==x1.fText)=true then some (false) else (A3 x0.fKids x1.fKids).bind fun ra=>if (!ra)=true then some (false) else some (true):=
  (ab CC _ _ _ _).trans (by kernel_rfl)
theorem IJ (x0 x1:aK):EF x0 x1=if (!x0.fAlways==x1.fAlways)=true then some (false) else if (!x0.fSuccess==x1.fSuccess)=true then some (false) else if (!x0.fFailure==x1.fFailure)=true then some (false) else some (true):=
  (ab CC _ _ _ _).trans (by kernel_rfl)
theorem xC (x0 x1:List am) (x2:Int):ke x0 x1 x2=if (decide (x2<len x0))=true then (idx x0 x2).bind fun ra=>(idx x1 x2).bind fun rb=>(oF ra rb).bind fun rc=>if (!rc)=true then some (false) else ke x0 x1 (w64 (x2+1)) else some (true):=
  (ab CC _ _ _ _).trans (by kernel_rfl)
theorem vN (x0 x1:List ak) (x2:Int):i8 x0 x1 x2=if (decide (x2<len x0))=true then (idx x0 x2).bind fun ra=>(idx x1 x2).bind fun rb=>(mg ra rb).bind fun rc=>if (!rc)=true then some (false) else i8 x0 x1 (w64 (x2+1)) else some (true):=
  (ab CC _ _ _ _).trans (by kernel_rfl)
theorem up (x0 x1:List ah) (x2:Int):io x0 x1 x2=if (decide (x2<len x0))=true then (idx x0 x2).bind fun ra=>(idx x1 x2).bind fun rb=>(kE ra rb).bind fun rc=>if (!rc)=true then some (false) else io x0 x1 (w64 (x2+1)) else some (true):=
  (ab CC _ _ _ _).trans (by kernel_rfl)
theorem qZ (x0 x1:List ac) (x2:Int):fJ x0 x1 x2=if (decide (x2<len x0))=true then (idx x0 x2).bind fun ra=>(idx x1 x2).bind fun rb=>(g9 ra rb).bind fun rc=>if (!rc)=true then some (false) else fJ x0 x1 (w64 (x2+1)) else some (true):=
  (ab CC _ _ _ _).trans (by kernel_rfl)
theorem xD (x0:(List (List UInt8))) (x1:(List (List UInt8))) (x2:Int):kf x0 x1 x2=if (decide (x2<len x0))=true then (idx x0 x2).bind fun ra=>(idx x1 x2).bind fun rb=>if (!ra==rb)=true then some (false) else kf x0 x1 (w64 (x2+1)) else some (true):=
  (ab CC _ _ _ _).trans (by kernel_rfl)
theorem Bn (x0 x1:List aE) (x2:Int):ni x0 x1 x2=if (decide (x2<len x0))=true then (idx x0 x2).bind fun ra=>(idx x1 x2).bind fun rb=>(vw ra rb).bind fun rc=>if (!rc)=true then some (false) else ni x0 x1 (w64 (x2+1)) else some (true):=
  (ab CC _ _ _ _).trans (by kernel_rfl)
theorem GQ (x0:List ai) (x1:Int):A0 x0 x1=if (decide (w64 (x1-len x0)<0))=true then some (-1) else nk x0 (w64 (x1-len x0)) 0:=
  (ab CC _ _ _ _).trans (by kernel_rfl)
theorem EV (x0:am) (x1:Int):oC x0 x1=if (decide (w64 (x1-len x0.fName)<0))=true then some (-1) else (oy x0.fKeys (w64 (x1-len x0.fName))).bind fun ra=>if (decide (ra<0))=true then some (-1) else (oy x0.fVals ra).bind fun rb=>if (decide (rb<0))=true then some (-1) else (l5 x0.fDefault rb).bind fun rc=>if (decide (rc<0))=true then some (-1) else some rc:=
  (ab CC _ _ _ _).trans (by kernel_rfl)
theorem CU (x0:ak) (x1:Int):mc x0 x1=if (decide (w64 (x1-len x0.fName)<0))=true then some (-1) else (l5 x0.fValue (w64 (x1-len x0.fName))).bind fun ra=>if (decide (ra<0))=true then some (-1) else some ra:=
  (ab CC _ _ _ _).trans (by kernel_rfl)
theorem Bo (x0:ah) (x1:Int):kB x0 x1=if (decide (w64 (x1-len x0.fName)<0))=true then some (-1) else (eZ x0.fParams (w64 (x1-len x0.fName))).bind fun ra=>if (decide (ra<0))=true then some (-1) else (eZ x0.fLocals ra).bind fun rb=>if (decide (rb<0))=true then some (-1) else if (decide (w64 (rb-len x0.fLabel)<0))=true then some (-1) else some (w64 (rb-len x0.fLabel)):=
  (ab CC _ _ _ _).trans (by kernel_rfl)
theorem xE (x0:ac) (x1:Int):gY x0 x1=if (decide (w64 (x1-len x0.fName)<0))=true then some (-1) else (eZ x0.fFields (w64 (x1-len x0.fName))).bind fun ra=>if (decide (ra<0))=true then some (-1) else some ra:=
  (ab CC _ _ _ _).trans (by kernel_rfl)
theorem IK (x0:aE) (x1:Int):vt x0 x1=if (decide (w64 (x1-len x0.fName)<0))=true then some (-1) else (eZ x0.fLines (w64 (x1-len x0.fName))).bind fun ra=>if (decide (ra<0))=true then some (-1) else some ra:=
  (ab CC _ _ _ _).trans (by kernel_rfl)
theorem GR (x0:List ai):A1 x0=((mk (len x0) (ai.mk (Int.ofNat 0) (Int.ofNat 0) [] [])):Option (List ai)).bind fun ra=>nq x0 0 ra:=
  (ab CC _ _ _ _).trans (by kernel_rfl)
theorem EW (x0:am):oD x0=(oz x0.fKeys).bind fun ra=>(oz x0.fVals).bind fun rb=>(l9 x0.fDefault).bind fun rc=>some (am.mk x0.fId x0.fKind x0.fName x0.fLow ra rb rc):=
  (ab CC _ _ _ _).trans (by kernel_rfl)
theorem CV (x0:ak):md x0=(l9 x0.fValue).bind fun ra=>some (ak.mk x0.fName ra):=
  (ab CC _ _ _ _).trans (by kernel_rfl)
theorem Bp (x0:ah):kC x0=(e8 x0.fParams).bind fun ra=>(e8 x0.fLocals).bind fun rb=>some (ah.mk x0.fName ra rb x0.fLabel):=
  (ab CC _ _ _ _).trans (by kernel_rfl)
theorem xF (x0:ac):gZ x0=(e8 x0.fFields).bind fun ra=>some (ac.mk x0.fName ra):=
  (ab CC _ _ _ _).trans (by kernel_rfl)
theorem IL (x0:aE):vu x0=(e8 x0.fLines).bind fun ra=>some (aE.mk x0.fName ra x0.fMode x0.fAt):=
  (ab CC _ _ _ _).trans (by kernel_rfl)
theorem GS (x0:List UInt8):oE x0=if (x0==[])=true then some (true) else (em x0).bind fun ra=>some ra:=
  (ab CC _ _ _ _).trans (by kernel_rfl)
theorem Bq : iC=some (false):=
  (ab CC _ _ _ _).trans (by kernel_rfl)
theorem CW (x0:aK):pn x0=if (!x0.fAlways==[])=true then if (!x0.fSuccess==[])=true then n9 else if (!x0.fFailure==[])=true then n9 else oa x0.fAlways x0.fSuccess x0.fFailure else oa x0.fAlways x0.fSuccess x0.fFailure:=
  (ab CC _ _ _ _).trans (by kernel_rfl)
theorem GU (x0:Bool) (x1:ai):qB x0 x1=if x0=true then (A4 x1.re).bind fun ra=>some ra else (DZ x1.re (ai.mk (Int.ofNat 0) (Int.ofNat 0) [] [])).bind fun ra=>some ra:=
  (ab CC _ _ _ _).trans (by kernel_rfl)
theorem Br (x0:List UInt8) (x1:Bool) (x2 x3:Int) (x4:List UInt8) (x5:List ai) (x6:Bool) (x7 x8:Int) (x9:List UInt8) (x10:List ai) (x11:Bool) (x12 x13:Int) (x14:List UInt8) (x15:List ai) (x16 x17 x18:List UInt8):yR x0 x1 x2 x3 x4 x5 x6 x7 x8 x9 x10 x11 x12 x13 x14 x15 x16 x17 x18=if (!x1)=true then if x6=true then qH else if x11=true then qH else qI x0 x1 x2 x3 x4 x5 x6 x7 x8 x9 x10 x11 x12 x13 x14 x15 x16 x17 x18 else qI x0 x1 x2 x3 x4 x5 x6 x7 x8 x9 x10 x11 x12 x13 x14 x15 x16 x17 x18:=
  (ab CC _ _ _ _).trans (by kernel_rfl)
theorem KU (x0 x1:Int) (x2:List UInt8) (x3:List ai) (x4:Int):qC x0 x1 x2 x3 x4=(r7 x0 x1 x2 x3).bind fun ra=>if (decide (ra<x4))=true then (dM x0 x1 x2 x3).bind fun rb=>((app ([40]) rb):Option (List UInt8)).bind fun rc=>(app rc ([41])).bind fun rd=>some rd else (dM x0 x1 x2 x3).bind fun rb=>some rb:=
  (ab CC _ _ _ _).trans (by kernel_rfl)
theorem EX (x0 x1:Int) (x2:List UInt8) (x3:List ai):dM x0 x1 x2 x3=if (x0==1)=true then (pq x2).bind fun ra=>some ra else if (x0==2)=true then (Ai x1).bind fun rb=>some rb else if (x0==3)=true then some x2 else if (x0==16)=true then ((app ([46]) x2):Option (List UInt8)).bind fun rc=>some rc else if (x0==17)=true then ((app ([42]) x2):Option (List UInt8)).bind fun rd=>some rd else if (x0==18)=true then ((app ([64]) x2):Option (List UInt8)).bind fun re=>some re else if (x0==14)=true then (idx x3 0).bind fun rf=>(qC rf.fKind rf.fNum rf.fText rf.fKids 6).bind fun rg=>((app ([45]) rg):Option (List UInt8)).bind fun rh=>some rh else if (x0==15)=true then (idx x3 0).bind fun ri=>(qC ri.fKind ri.fNum ri.fText ri.fKids 6).bind fun rj=>((app ([36]) rj):Option (List UInt8)).bind fun rk=>some rk else if (x0==5)=true then (idx x3 0).bind fun rh=>(qC rh.fKind rh.fNum rh.fText rh.fKids 7).bind fun rl=>(app rl ([60])).bind fun rm=>(idx x3 1).bind fun rn=>(dM rn.fKind rn.fNum rn.fText rn.fKids).bind fun ro=>(app rm ro).bind fun rp=>(app rp ([62])).bind fun rq=>some rq else if (x0==4)=true then (app x2 ([40])).bind fun rk=>ey x0 x1 x2 x3 rk 0 else (r7 x0 x1 x2 x3).bind fun rl=>(idx x3 0).bind fun rm=>(qC rm.fKind rm.fNum rm.fText rm.fKids rl).bind fun rr=>(A5 x0).bind fun ro=>(app rr ro).bind fun rp=>(idx x3 1).bind fun rq=>(qC rq.fKind rq.fNum rq.fText rq.fKids (w64 (rl+1))).bind fun rs=>(app rp rs).bind fun rt=>some rt:=
  (ab CC _ _ _ _).trans (by kernel_rfl)
theorem zC (x0 x1:List UInt8) (x2:Bool) (x3 x4:Int) (x5:List UInt8) (x6:List ai) (x7:Bool) (x8 x9:Int) (x10:List UInt8) (x11:List ai) (x12:Bool) (x13 x14:Int) (x15:List UInt8) (x16:List ai) (x17 x18 x19:List UInt8):gz x0 x1 x2 x3 x4 x5 x6 x7 x8 x9 x10 x11 x12 x13 x14 x15 x16 x17 x18 x19=if x12=true then (dM x13 x14 x15 x16).bind fun ra=>((app ([32,61,32]) ra):Option (List UInt8)).bind fun rb=>(app x0 rb).bind fun rc=>if (!(x17==[]&&(x18==[]&&(x19==[]&&true))))=true then (oG (aK.mk x17 x18 x19)).bind fun rd=>((app ([32]) rd):Option (List UInt8)).bind fun re=>(app rc re).bind fun rf=>hC rf else hC rc else if (!(x17==[]&&(x18==[]&&(x19==[]&&true))))=true then (oG (aK.mk x17 x18 x19)).bind fun rg=>((app ([32]) rg):Option (List UInt8)).bind fun rc=>(app x0 rc).bind fun rh=>hC rh else hC x0:=
  (ab CC _ _ _ _).trans (by kernel_rfl)
theorem xG (x0:List UInt8) (x1:Bool):g7 x0 x1=gA x0 x1 0:=
  (ab CC _ _ _ _).trans (by kernel_rfl)
theorem GV (x0:List UInt8):Gy x0=eY x0 0 (true) ([]):=
  (ab CC _ _ _ _).trans (by kernel_rfl)
theorem GW (x0 x1:Int) (x2:List UInt8) (x3:List ai):dA x0 x1 x2 x3=if (x0==12)=true then (idx x3 0).bind fun ra=>(dA ra.fKind ra.fNum ra.fText ra.fKids).bind fun rb=>((app [] rb.1.1):Option (List av)).bind fun rc=>(idx x3 1).bind fun rd=>(app rc [av.mk (Int.ofNat 11) (w64 (w64 (21+x0)-12)) rd.fText]).bind fun re=>some (((re),()),()) else if (x0==13)=true then (idx x3 0).bind fun rf=>(dA rf.fKind rf.fNum rf.fText rf.fKids).bind fun rg=>((app [] rg.1.1):Option (List av)).bind fun rd=>(idx x3 1).bind fun re=>(app rd [av.mk (Int.ofNat 11) (w64 (w64 (21+x0)-12)) re.fText]).bind fun rh=>some (((rh),()),()) else fW x0 x1 x2 x3 0 ([]):=
  (ab CC _ _ _ _).trans (by kernel_rfl)
theorem CX (x0 x1:Int) (x2:List UInt8) (x3:List ai):ua x0 x1 x2 x3=if (x0==3)=true then some ((([]),()),(4,0,(x2),()),(17,0,(x2),()),((true),()),()) else if (x0==15)=true then (idx x3 0).bind fun ra=>(dA ra.fKind ra.fNum ra.fText ra.fKids).bind fun rb=>(app rb.1.1 [av.mk (Int.ofNat 15) (Int.ofNat 0) []]).bind fun rc=>some (((rc),()),(21,0,[],()),(18,0,[],()),((true),()),()) else if (x0==5)=true then (idx x3 0).bind fun rd=>(dA rd.fKind rd.fNum rd.fText rd.fKids).bind fun re=>(idx x3 1).bind fun rf=>(dA rf.fKind rf.fNum rf.fText rf.fKids).bind fun rg=>(app re.1.1 rg.1.1).bind fun rh=>some (((rh),()),(22,0,[],()),(19,0,[],()),((true),()),()) else if (x0==4)=true then if (len x3==1)=true then (idx x3 0).bind fun rf=>(dA rf.fKind rf.fNum rf.fText rf.fKids).bind fun rg=>((app [av.mk (Int.ofNat 16) (Int.ofNat 0) x2] rg.1.1):Option (List av)).bind fun rh=>some (((rh),()),(23,0,(x2),()),(20,0,(x2),()),((true),()),()) else some ((([]),()),(0,0,[],()),(0,0,[],()),((false),()),()) else some ((([]),()),(0,0,[],()),(0,0,[],()),((false),()),()):=
  (ab CC _ _ _ _).trans (by kernel_rfl)
theorem zD (x0:List av) (x1 x2:Int) (x3:List UInt8):ja x0 x1 x2 x3=(app x0 [av.mk x1 x2 x3]).bind fun ra=>some (((ra),()),()):=
  (ab CC _ _ _ _).trans (by kernel_rfl)
theorem GX (x0:aj) (x1:aK) (x2:Bool) (x3:Int):A2 x0 x1 x2 x3=if x2=true then if (!x1.fAlways==[])=true then iD x3 x1.fAlways x0.fStatements else iD x3 x1.fSuccess x0.fStatements else if (!x1.fAlways==[])=true then iD x3 x1.fAlways x0.fStatements else iD x3 x1.fFailure x0.fStatements:=
  (ab CC _ _ _ _).trans (by kernel_rfl)
theorem tG (x0:aJ):po x0=(EG x0.fNext x0.fObjects).bind fun ra=>some ra:=
  (ab CC _ _ _ _).trans (by kernel_rfl)
theorem Bs (x0:aB):nj x0=if (decide (len x0.fVars>40))=true then jc else if (decide (len x0.fFunctions>12))=true then jc else if (decide (len x0.fTypes>8))=true then jc else qJ x0.fVars x0.fFunctions x0.fTypes:=
  (ab CC _ _ _ _).trans (by kernel_rfl)
theorem xH (x0:au):n7 x0=(Nc x0.fInput x0.fAt x0.fOutput x0.fFiles x0.fTrace).bind fun ra=>some ra:=
  (ab CC _ _ _ _).trans (by kernel_rfl)
theorem vO (x0:aB):me x0=(nj x0).bind fun ra=>if (!ra)=true then some ((([]),()),()) else cQ 0 x0.fVars x0.fFunctions x0.fTypes ([]):=
  (ab CC _ _ _ _).trans (by kernel_rfl)
theorem Bt (x0:List ap) (x1 x2:Int) (x3:List am):kD x0 x1 x2 x3=if (decide (x1<len x0))=true then (idx x0 x1).bind fun ra=>(lS (aJ.mk x2 x3) ra).bind fun rb=>if (!rb)=true then some (false) else kD x0 (w64 (x1+1)) x2 x3 else (po (aJ.mk x2 x3)).bind fun rc=>some rc:=
  (ab CC _ _ _ _).trans (by kernel_rfl)
theorem Bu (x0:b9):qD x0=((mk (len x0.fInstrs) 0):Option (List Int)).bind fun ra=>fZ 0 x0.fInstrs x0.fEntries x0.fFails ra:=
  (ab CC _ _ _ _).trans (by kernel_rfl)
theorem oO (x0 x1:Int) (x2:List av) (x3 x4:List Int) (x5 x6 x7:Int) (x8:List am) (x9:List ak) (x10:List ah) (x11:List ac) (x12:(List (List UInt8))) (x13:Int) (x14:(List (List UInt8))) (x15:List aE) (x16:(List (List UInt8))) (x17:List ap) (x18:List ae) (x19 x20 x21 x22 x23:Int) (x24:List Int):g8 x0 x1 x2 x3 x4 x5 x6 x7 x8 x9 x10 x11 x12 x13 x14 x15 x16 x17 x18 x19 x20 x21 x22 x23 x24=if (decide (x1<len x18))=true then (idx x18 x1).bind fun ra=>if (ra.fBase !=x0)=true then some (false) else (w7 (b9.mk x2 x3 x4) (aJ.mk x7 x8) ra).bind fun rb=>if (!rb)=true then some (false) else (idx x24 ra.fPC).bind fun rc=>((x24[Int.toNat ra.fPC]?):Option Int).bind fun rd=>g8 (w64 (x0+w64 (rd-1))) (w64 (x1+1)) x2 x3 x4 x5 x6 x7 x8 x9 x10 x11 x12 x13 x14 x15 x16 x17 x18 x19 x20 x21 x22 x23 x24 else if (x20 !=x0)=true then some (false) else (idx x24 x19).bind fun re=>((x24[Int.toNat x19]?):Option Int).bind fun rf=>if (len x17 !=w64 (x0+rf))=true then some (false) else (idx x2 x19).bind fun rc=>if (x5==2)=true then if (rc.fOp !=28)=true then if (rc.fOp !=1)=true then tu else kh rc.fOp x2 x3 x4 x5 x6 x7 x8 x9 x10 x11 x12 x13 x14 x15 x16 x17 x18 x19 x20 x21 x22 x23 else kh rc.fOp x2 x3 x4 x5 x6 x7 x8 x9 x10 x11 x12 x13 x14 x15 x16 x17 x18 x19 x20 x21 x22 x23 else kh rc.fOp x2 x3 x4 x5 x6 x7 x8 x9 x10 x11 x12 x13 x14 x15 x16 x17 x18 x19 x20 x21 x22 x23:=
  (ab CC _ _ _ _).trans (by kernel_rfl)
theorem GY (x0:List UInt8):qE x0=(di x0).bind fun ra=>some ra:=
  (ab CC _ _ _ _).trans (by kernel_rfl)
theorem qi : cc=some (false):=
  (ab CC _ _ _ _).trans (by kernel_rfl)
theorem CY (x0:aK):pp x0=(pr x0).bind fun ra=>(dY ra).bind fun rb=>if rb=true then if (x0.fAlways==[])=true then some (true) else if (x0.fSuccess==[])=true then some (x0.fFailure==[]) else some (false) else some (false):=
  (ab CC _ _ _ _).trans (by kernel_rfl)
theorem qj (x0:List UInt8) (x1:Bool) (x2 x3:Int) (x4:List UInt8) (x5:List ai) (x6:Bool) (x7 x8:Int) (x9:List UInt8) (x10:List ai) (x11:Bool) (x12 x13:Int) (x14:List UInt8) (x15:List ai) (x16 x17 x18:List UInt8):dS x0 x1 x2 x3 x4 x5 x6 x7 x8 x9 x10 x11 x12 x13 x14 x15 x16 x17 x18=(vz x1 (ai.mk x2 x3 x4 x5)).bind fun ra=>if (!ra)=true then fe else (vz x6 (ai.mk x7 x8 x9 x10)).bind fun rb=>if (!rb)=true then fe else (vz x11 (ai.mk x12 x13 x14 x15)).bind fun rc=>if (!rc)=true then fe else mh x0 x1 x2 x3 x4 x5 x6 x7 x8 x9 x10 x11 x12 x13 x14 x15 x16 x17 x18:=
  (ab CC _ _ _ _).trans (by kernel_rfl)
theorem bi (x0:List aa) (x1:List UInt8) (x2 x3:Int):aG x0 x1 x2 x3=if (decide (x3<x2))=true then (idx x0 x3).bind fun ra=>(jd (aa.mk ra.fLabel ra.fHasSubject ra.fSubject.re ra.fHasPattern ra.fPattern.re ra.fHasReplace ra.fReplace.re ra.fGoto) x1).bind fun rb=>if rb=true then some x3 else aG x0 x1 x2 (w64 (x3+1)) else some (-1):=
  (ab CC _ _ _ _).trans (by kernel_rfl)
theorem uq (x0:aa):fp x0=if x0.fHasSubject=true then (je x0.fSubject.re 6).bind fun ra=>((app ([32]) ra):Option (List UInt8)).bind fun rb=>(app x0.fLabel rb).bind fun rc=>if x0.fHasPattern=true then (du x0.fPattern.re).bind fun rd=>((app ([32]) rd):Option (List UInt8)).bind fun re=>(app rc re).bind fun rf=>db rf x0.fLabel x0.fHasSubject x0.fSubject.fKind x0.fSubject.fNum x0.fSubject.fText x0.fSubject.fKids x0.fHasPattern x0.fPattern.fKind x0.fPattern.fNum x0.fPattern.fText x0.fPattern.fKids x0.fHasReplace x0.fReplace.fKind x0.fReplace.fNum x0.fReplace.fText x0.fReplace.fKids x0.fGoto.fAlways x0.fGoto.fSuccess x0.fGoto.fFailure else db rc x0.fLabel x0.fHasSubject x0.fSubject.fKind x0.fSubject.fNum x0.fSubject.fText x0.fSubject.fKids x0.fHasPattern x0.fPattern.fKind x0.fPattern.fNum x0.fPattern.fText x0.fPattern.fKids x0.fHasReplace x0.fReplace.fKind x0.fReplace.fNum x0.fReplace.fText x0.fReplace.fKids x0.fGoto.fAlways x0.fGoto.fSuccess x0.fGoto.fFailure else if x0.fHasPattern=true then (du x0.fPattern.re).bind fun rg=>((app ([32]) rg):Option (List UInt8)).bind fun rc=>(app x0.fLabel rc).bind fun rh=>db rh x0.fLabel x0.fHasSubject x0.fSubject.fKind x0.fSubject.fNum x0.fSubject.fText x0.fSubject.fKids x0.fHasPattern x0.fPattern.fKind x0.fPattern.fNum x0.fPattern.fText x0.fPattern.fKids x0.fHasReplace x0.fReplace.fKind x0.fReplace.fNum x0.fReplace.fText x0.fReplace.fKids x0.fGoto.fAlways x0.fGoto.fSuccess x0.fGoto.fFailure else db x0.fLabel x0.fLabel x0.fHasSubject x0.fSubject.fKind x0.fSubject.fNum x0.fSubject.fText x0.fSubject.fKids x0.fHasPattern x0.fPattern.fKind x0.fPattern.fNum x0.fPattern.fText x0.fPattern.fKids x0.fHasReplace x0.fReplace.fKind x0.fReplace.fNum x0.fReplace.fText x0.fReplace.fKids x0.fGoto.fAlways x0.fGoto.fSuccess x0.fGoto.fFailure:=
  (ab CC _ _ _ _).trans (by kernel_rfl)
theorem fh (x0:List aa) (x1 x2:Int) (x3:List Int):bN x0 x1 x2 x3=if (decide (x2<x1))=true then (idx x0 x2).bind fun ra=>(fp (aa.mk ra.fLabel ra.fHasSubject ra.fSubject.re ra.fHasPattern ra.fPattern.re ra.fHasReplace ra.fReplace.re ra.fGoto)).bind fun rb=>(app rb ([10])).bind fun rc=>(app x3 (List.map (fun (b:UInt8) ↦ ib b) rc)).bind fun rd=>bN x0 x1 (w64 (x2+1)) rd else ((qr x3):Option (List UInt8)).bind fun ra=>some ra:=
  (ab CC _ _ _ _).trans (by kernel_rfl)
theorem ur (x0:aa):kX x0=if x0.fHasReplace=true then (jf (aa.mk x0.fLabel x0.fHasSubject x0.fSubject.re x0.fHasPattern x0.fPattern.re x0.fHasReplace x0.fReplace.re x0.fGoto)).bind fun ra=>some ((ra.1.1,()),()) else if x0.fHasPattern=true then (lC ([ai.mk x0.fSubject.fKind x0.fSubject.fNum x0.fSubject.fText x0.fSubject.fKids,ai.mk x0.fPattern.fKind x0.fPattern.fNum x0.fPattern.fText x0.fPattern.fKids])).bind fun rb=>(app rb.1.1 [av.mk (Int.ofNat 24) (Int.ofNat 0) []]).bind fun rc=>some (((rc),()),()) else if x0.fHasSubject=true then (lC ([ai.mk x0.fSubject.fKind x0.fSubject.fNum x0.fSubject.fText x0.fSubject.fKids])).bind fun rd=>(app rd.1.1 [av.mk (Int.ofNat 14) (Int.ofNat 0) []]).bind fun re=>some (((re),()),()) else some ((([]),()),()):=
  (ab CC _ _ _ _).trans (by kernel_rfl)
theorem q7 (x0:aj) (x1:Int) (x2:Bool):ej x0 x1 x2=(idx x0.fStatements x1).bind fun ra=>(oc x0 ra.fGoto x2 x1).bind fun rb=>if (rb.2 !=0)=true then some (av.mk (Int.ofNat 31) rb.2 []) else if (rb.1 == -1)=true then some (av.mk (Int.ofNat 28) (Int.ofNat 0) []) else if (rb.1 == -2)=true then some (av.mk (Int.ofNat 29) (Int.ofNat 0) []) else if (rb.1 == -3)=true then some (av.mk (Int.ofNat 30) (Int.ofNat 0) []) else some (av.mk (Int.ofNat 27) rb.1 []):=
  (ab CC _ _ _ _).trans (by kernel_rfl)
theorem xI (x0:av):n8 x0=(yS x0).bind fun ra=>if (x0.fOp==13)=true then some (x0.fA,ra.fLeaves) else some (ra.fNeeds,ra.fLeaves):=
  (ab CC _ _ _ _).trans (by kernel_rfl)
theorem xJ : kg=some (false):=
  (ab CC _ _ _ _).trans (by kernel_rfl)
theorem gG (x0:List am):cw x0=bj x0 (len x0) 0:=
  (ab CC _ _ _ _).trans (by kernel_rfl)
theorem xK (x0:Int) (x1:List am):tq x0 x1=kj 0 x1 (len x1) 0 x0 x1:=
  (ab CC _ _ _ _).trans (by kernel_rfl)
theorem vP : jb=some (false):=
  (ab CC _ _ _ _).trans (by kernel_rfl)
theorem vQ (x0:List ak) (x1:List ah) (x2:List ac):qF x0 x1 x2=(df x0).bind fun ra=>if ra=true then (cU x1).bind fun rb=>if rb=true then (dg x2).bind fun rc=>jg rc x0 x1 x2 else jg (false) x0 x1 x2 else jg (false) x0 x1 x2:=
  (ab CC _ _ _ _).trans (by kernel_rfl)
theorem sY : eO=some (false):=
  (ab CC _ _ _ _).trans (by kernel_rfl)
theorem gb (x0:(List (List UInt8))) (x1:Int) (x2:(List (List UInt8))) (x3:List aE) (x4:(List (List UInt8))):dJ x0 x1 x2 x3 x4=(ch x0).bind fun ra=>if ra=true then (ch x2).bind fun rb=>if rb=true then (cG x4).bind fun rc=>gB rc x0 x1 x2 x3 x4 else gB (false) x0 x1 x2 x3 x4 else gB (false) x0 x1 x2 x3 x4:=
  (ab CC _ _ _ _).trans (by kernel_rfl)
theorem jG (x0:List ak) (x1 x2:Int) (x3:List ap):cy x0 x1 x2 x3=if (decide (x2<x1))=true then (idx x0 x2).bind fun ra=>(app x3 [ra.fValue]).bind fun rb=>cy x0 x1 (w64 (x2+1)) rb else some (((x3),()),()):=
  (ab CC _ _ _ _).trans (by kernel_rfl)
theorem CZ (x0:aJ) (x1:ap):mf x0 x1=(eo x1).bind fun ra=>if (!ra)=true then (eo x1).bind fun rb=>some rb else (J6 x1.fKind).bind fun rb=>if (!rb)=true then (eo x1).bind fun rc=>some rc else (pt x0 x1.fRef).bind fun rc=>if (decide (rc>=0))=true then (idx x0.fObjects rc).bind fun rd=>(yT x1.fKind).bind fun re=>some (rd.fKind==re) else some (false):=
  (ab CC _ _ _ _).trans (by kernel_rfl)
theorem dC (x0:List aa) (x1:List av) (x2 x3 x4:List Int) (x5 x6 x7:Int) (x8:List am) (x9:List ak) (x10:List ah) (x11:List ac) (x12:(List (List UInt8))) (x13:Int) (x14:(List (List UInt8))) (x15:List aE) (x16:(List (List UInt8))) (x17:List ap) (x18:List ae) (x19 x20 x21 x22 x23:Int) (x24:List ae) (x25 x26:Int):aS x0 x1 x2 x3 x4 x5 x6 x7 x8 x9 x10 x11 x12 x13 x14 x15 x16 x17 x18 x19 x20 x21 x22 x23 x24 x25 x26=if (decide (x26<x25))=true then (idx x24 x26).bind fun ra=>(dH ra x0 x1 x2 x3 x4 x5 x6 x7 x8 x9 x10 x11 x12 x13 x14 x15 x16 x17 x18 x19 x20 x21 x22 x23).bind fun rb=>if (!rb)=true then some (false) else aS x0 x1 x2 x3 x4 x5 x6 x7 x8 x9 x10 x11 x12 x13 x14 x15 x16 x17 x18 x19 x20 x21 x22 x23 x24 x25 (w64 (x26+1)) else some (true):=
  (ab CC _ _ _ _).trans (by kernel_rfl)
theorem fx (x0:Int) (x1:List ae) (x2 x3:Int) (x4:List aa) (x5:List av) (x6 x7 x8:List Int) (x9 x10 x11:Int) (x12:List am) (x13:List ak) (x14:List ah) (x15:List ac) (x16:(List (List UInt8))) (x17:Int) (x18:(List (List UInt8))) (x19:List aE) (x20:(List (List UInt8))) (x21:List ap) (x22:List ae) (x23 x24 x25 x26 x27:Int):cZ x0 x1 x2 x3 x4 x5 x6 x7 x8 x9 x10 x11 x12 x13 x14 x15 x16 x17 x18 x19 x20 x21 x22 x23 x24 x25 x26 x27=if (decide (x3<x2))=true then (idx x1 x3).bind fun ra=>if (ra.fBase !=x0)=true then some (false) else (idx x8 ra.fPC).bind fun rb=>cZ (w64 (x0+w64 (rb-1))) x1 x2 (w64 (x3+1)) x4 x5 x6 x7 x8 x9 x10 x11 x12 x13 x14 x15 x16 x17 x18 x19 x20 x21 x22 x23 x24 x25 x26 x27 else some (x24==x0):=
  (ab CC _ _ _ _).trans (by kernel_rfl)
theorem kM (x0 x1:Int):qG x0 x1=if (decide (x0>=0))=true then some (decide (x0<x1)) else some (false):=
  (ab CC _ _ _ _).trans (by kernel_rfl)
theorem lc : gK=some (false):=
  (ab CC _ _ _ _).trans (by kernel_rfl)
theorem ld (x0:Int) (x1:List aa) (x2:List av) (x3 x4 x5:List Int) (x6 x7 x8:Int) (x9:List am) (x10:List ak) (x11:List ah) (x12:List ac) (x13:(List (List UInt8))) (x14:Int) (x15:(List (List UInt8))) (x16:List aE) (x17:(List (List UInt8))) (x18:List ap) (x19:List ae) (x20 x21 x22 x23 x24:Int):c6 x0 x1 x2 x3 x4 x5 x6 x7 x8 x9 x10 x11 x12 x13 x14 x15 x16 x17 x18 x19 x20 x21 x22 x23 x24=if (x0 !=1)=true then (kF (b9.mk x2 x3 x4) x20).bind fun ra=>some (x22==ra) else (cY x22 (-1) (w64 (len x1-1))).bind fun ra=>if ra=true then if (decide (x22>=0))=true then some (true) else some (len x19==0) else some (false):=
  (ab CC _ _ _ _).trans (by kernel_rfl)
theorem GZ (x0 x1:List ai):A3 x0 x1=if (len x0 !=len x1)=true then some (false) else nt x0 x1 0:=
  (ab CC _ _ _ _).trans (by kernel_rfl)
theorem EY (x0 x1:am):oF x0 x1=if (x0.fId !=x1.fId)=true then some (false) else if (x0.fKind !=x1.fKind)=true then some (false) else if (!x0.fName==x1.fName)=true then some (false) else if (x0.fLow !=x1.fLow)=true then some (false) else (oA x0.fKeys x1.fKeys).bind fun ra=>if (!ra)=true then some (false) else (oA x0.fVals x1.fVals).bind fun rb=>if (!rb)=true then some (false) else (mb x0.fDefault x1.fDefault).bind fun rc=>if (!rc)=true then some (false) else some (true):=
  (ab CC _ _ _ _).trans (by kernel_rfl)
theorem C0 (x0 x1:ak):mg x0 x1=if (!x0.fName==x1.fName)=true then some (false) else (mb x0.fValue x1.fValue).bind fun ra=>if (!ra)=true then some (false) else some (true):=
  (ab CC _ _ _ _).trans (by kernel_rfl)
theorem Bv (x0 x1:ah):kE x0 x1=if (!x0.fName==x1.fName)=true then some (false) else (e9 x0.fParams x1.fParams).bind fun ra=>if (!ra)=true then some (false) else (e9 x0.fLocals x1.fLocals).bind fun rb=>if (!rb)=true then some (false) else if (!x0.fLabel==x1.fLabel)=true then some (false) else some (true):=
  (ab CC _ _ _ _).trans (by kernel_rfl)
theorem xL (x0 x1:ac):g9 x0 x1=if (!x0.fName==x1.fName)=true then some (false) else (e9 x0.fFields x1.fFields).bind fun ra=>if (!ra)=true then some (false) else some (true):=
  (ab CC _ _ _ _).trans (by kernel_rfl)
theorem IM (x0 x1:aE):vw x0 x1=if (!x0.fName==x1.fName)=true then some (false) else (e9 x0.fLines x1.fLines).bind fun ra=>if (!ra)=true then some (false) else if (x0.fMode !=x1.fMode)=true then some (false) else if (x0.fAt !=x1.fAt)=true then some (false) else some (true):=
  (ab CC _ _ _ _).trans (by kernel_rfl)
theorem Bw (x0:List ai) (x1 x2:Int):nk x0 x1 x2=if (decide (x2<len x0))=true then (idx x0 x2).bind fun ra=>(nc ra.re x1).bind fun rb=>if (decide (rb<0))=true then some (-1) else nk x0 rb (w64 (x2+1)) else some x1:=
  (ab CC _ _ _ _).trans (by kernel_rfl)
theorem Bx (x0:List ai) (x1:Int) (x2:List ai):nq x0 x1 x2=if (decide (x1<len x0))=true then (idx x0 x1).bind fun ra=>(nf ra.re).bind fun rb=>(idx x2 x1).bind fun rc=>((x2[Int.toNat x1]?):Option ai).bind fun rd=>nq x0 (w64 (x1+1)) (upd x2 (Int.toNat x1) rb.re) else some x2:=
  (ab CC _ _ _ _).trans (by kernel_rfl)
theorem IN (x0:List UInt8):em x0=if (!x0==[])=true then if (decide (len x0<=12))=true then (nu x0 0).bind fun ra=>some (ra==len x0) else some (false) else some (false):=
  (ab CC _ _ _ _).trans (by kernel_rfl)
theorem xM : n9=some (false):=
  (ab CC _ _ _ _).trans (by kernel_rfl)
theorem xN (x0 x1 x2:List UInt8):oa x0 x1 x2=(oE x0).bind fun ra=>if ra=true then (oE x1).bind fun rb=>if rb=true then (oE x2).bind fun rc=>some rc else some (false) else some (false):=
  (ab CC _ _ _ _).trans (by kernel_rfl)
theorem C1 (x0:ai):A4 x0=(Ix x0.fKind x0.fNum x0.fText x0.fKids).bind fun ra=>some ra:=
  (ab CC _ _ _ _).trans (by kernel_rfl)
theorem EZ (x0 x1:ai):DZ x0 x1=(A6 x0.fKind x0.fNum x0.fText x0.fKids x1.fKind x1.fNum x1.fText x1.fKids).bind fun ra=>some ra:=
  (ab CC _ _ _ _).trans (by kernel_rfl)
theorem By : qH=some (false):=
  (ab CC _ _ _ _).trans (by kernel_rfl)
theorem Bz (x0:List UInt8) (x1:Bool) (x2 x3:Int) (x4:List UInt8) (x5:List ai) (x6:Bool) (x7 x8:Int) (x9:List UInt8) (x10:List ai) (x11:Bool) (x12 x13:Int) (x14:List UInt8) (x15:List ai) (x16 x17 x18:List UInt8):qI x0 x1 x2 x3 x4 x5 x6 x7 x8 x9 x10 x11 x12 x13 x14 x15 x16 x17 x18=if (!x0==[])=true then some (true) else if x1=true then some (true) else some (!(x16==[]&&(x17==[]&&(x18==[]&&true)))):=
  (ab CC _ _ _ _).trans (by kernel_rfl)
theorem E0 (x0 x1:Int) (x2:List UInt8) (x3:List ai):r7 x0 x1 x2 x3=if (x0==6)=true then some 1 else if (x0==7)=true then some 2 else if (x0==8)=true then some 3 else if (x0==9)=true then some 3 else if (x0==10)=true then od else if (x0==11)=true then od else tv x0:=
  (ab CC _ _ _ _).trans (by kernel_rfl)
theorem zF (x0:List UInt8):pq x0=(r8 x0).bind fun ra=>if (!ra)=true then some [] else (oH x0 39).bind fun rb=>if rb=true then ((app ([34]) x0):Option (List UInt8)).bind fun rc=>(app rc ([34])).bind fun rd=>some rd else ((app ([39]) x0):Option (List UInt8)).bind fun rc=>(app rc ([39])).bind fun rd=>some rd:=
  (ab CC _ _ _ _).trans (by kernel_rfl)
theorem IOz (x0:Int):Ai x0=if (decide (x0<0))=true then (Ai (w64 (0-x0))).bind fun ra=>((app ([45]) ra):Option (List UInt8)).bind fun rb=>some rb else pw x0 []:=
  (ab CC _ _ _ _).trans (by kernel_rfl)
theorem oP (x0 x1:Int) (x2:List UInt8) (x3:List ai) (x4:List UInt8) (x5:Int):ey x0 x1 x2 x3 x4 x5=if (decide (x5<len x3))=true then if (decide (x5>0))=true then (app x4 ([44])).bind fun ra=>(idx x3 x5).bind fun rb=>(dM rb.fKind rb.fNum rb.fText rb.fKids).bind fun rc=>(app ra rc).bind fun rd=>ey x0 x1 x2 x3 rd (w64 (x5+1)) else (idx x3 x5).bind fun ra=>(dM ra.fKind ra.fNum ra.fText ra.fKids).bind fun re=>(app x4 re).bind fun rf=>ey x0 x1 x2 x3 rf (w64 (x5+1)) else (app x4 ([41])).bind fun rg=>some rg:=
  (ab CC _ _ _ _).trans (by kernel_rfl)
theorem G0 (x0:Int):A5 x0=if (x0==6)=true then some [32,124,32] else if (x0==7)=true then some [32] else if (x0==8)=true then some [32,43,32] else if (x0==9)=true then some [32,45,32] else if (x0==10)=true then some [32,42,32] else if (x0==11)=true then some [32,47,32] else if (x0==12)=true then some [32,46,32] else some [32,36,32]:=
  (ab CC _ _ _ _).trans (by kernel_rfl)
theorem E1 (x0:aK):oG x0=(pn x0).bind fun ra=>if (!ra)=true then some [] else if (x0.fAlways==[]&&(x0.fSuccess==[]&&(x0.fFailure==[]&&true)))=true then some [] else if (!x0.fAlways==[])=true then ((app ([58,40]) x0.fAlways):Option (List UInt8)).bind fun rb=>(app rb ([41])).bind fun rc=>some rc else if (!x0.fSuccess==[])=true then ((app ([83,40]) x0.fSuccess):Option (List UInt8)).bind fun rc=>(app rc ([41])).bind fun rd=>((app ([58]) rd):Option (List UInt8)).bind fun re=>lD re x0.fAlways x0.fSuccess x0.fFailure else lD [58] x0.fAlways x0.fSuccess x0.fFailure:=
  (ab CC _ _ _ _).trans (by kernel_rfl)
theorem xO (x0:List UInt8):hC x0=some x0:=
  (ab CC _ _ _ _).trans (by kernel_rfl)
theorem lu (x0:List UInt8) (x1:Bool) (x2:Int):gA x0 x1 x2=if (decide (x2<len x0))=true then (idx x0 x2).bind fun ra=>if (decide (ib ra<32))=true then if x1=true then (idx x0 x2).bind fun rb=>if (!ib rb==10)=true then eP else gC x0 x1 x2 else eP else (idx x0 x2).bind fun rc=>if (decide (ib rc>126))=true then if x1=true then (idx x0 x2).bind fun rd=>if (!ib rd==10)=true then eP else gC x0 x1 x2 else eP else gC x0 x1 x2 else some (true):=
  (ab CC _ _ _ _).trans (by kernel_rfl)
theorem q8 (x0:List UInt8) (x1:Int) (x2:Bool) (x3:List aN):eY x0 x1 x2 x3=if (decide (x1<len x0))=true then (idx x0 x1).bind fun ra=>if (ib ra==32)=true then eY x0 (w64 (x1+1)) (true) x3 else (EH x0 x1).bind fun rb=>if (decide (rb.2<0))=true then some (([]),(x1),2) else if (len x3==120)=true then some (([]),(x1),6) else if (rb.2==len x0)=true then (app x3 [aN.mk (aN.fKind rb.1) (aN.fNum rb.1) (aN.fText rb.1) x2 true]).bind fun rc=>eY x0 rb.2 (false) rc else (idx x0 rb.2).bind fun rc=>(app x3 [aN.mk (aN.fKind rb.1) (aN.fNum rb.1) (aN.fText rb.1) x2 (Decidable.rec (fun (h:¬ib rc=32) ↦ false) (fun (h:ib rc=32) ↦ true) (Int.instDecidableEq (ib rc) 32))]).bind fun rd=>eY x0 rb.2 (false) rd else if (decide (len x3>0))=true then (idx x3 (w64 (len x3-1))).bind fun re=>((x3[Int.toNat (w64 (len x3-1))]?):Option aN).bind fun rf=>some ((upd x3 (Int.toNat (w64 (len x3-1))) (aN.mk rf.fKind rf.fNum rf.fText rf.fBefore true)),0,0) else some ((x3),0,0):=
  (ab CC _ _ _ _).trans (by kernel_rfl)
theorem q9 (x0 x1:Int) (x2:List UInt8) (x3:List ai) (x4:Int) (x5:List av):fW x0 x1 x2 x3 x4 x5=if (decide (x4<len x3))=true then (idx x3 x4).bind fun ra=>(dA ra.fKind ra.fNum ra.fText ra.fKids).bind fun rb=>(app x5 rb.1.1).bind fun rc=>fW x0 x1 x2 x3 (w64 (x4+1)) rc else if (x0==1)=true then (app x5 [av.mk (Int.ofNat 2) (Int.ofNat 0) x2]).bind fun rd=>some (((rd),()),()) else if (x0==2)=true then (app x5 [av.mk (Int.ofNat 3) x1 []]).bind fun rc=>some (((rc),()),()) else if (x0==3)=true then (app x5 [av.mk (Int.ofNat 4) (Int.ofNat 0) x2]).bind fun re=>some (((re),()),()) else if (x0==16)=true then lE x0 x1 x2 x3 x5 else if (x0==17)=true then lE x0 x1 x2 x3 x5 else if (x0==18)=true then lE x0 x1 x2 x3 x5 else vA x0 x1 x2 x3 x0 x5:=
  (ab CC _ _ _ _).trans (by kernel_rfl)
theorem BA (x0:Int) (x1:List UInt8) (x2:List aa):iD x0 x1 x2=if (x1==[])=true then (r9 (aj.mk x2) (w64 (x0+1))).bind fun ra=>some ((ra),0) else if (x1==[82,69,84,85,82,78])=true then some ((-2),0) else if (x1==[70,82,69,84,85,82,78])=true then some ((-3),0) else if (x1==[69,78,68])=true then some ((-1),0) else (r5 (aj.mk x2) x1).bind fun rb=>if (decide (rb<0))=true then some (0,5) else (r9 (aj.mk x2) rb).bind fun rc=>some ((rc),0):=
  (ab CC _ _ _ _).trans (by kernel_rfl)
theorem KV (x0:Int) (x1:List am):EG x0 x1=(dX x0 0 1000000).bind fun ra=>if (!ra)=true then some (false) else if (decide (len x1>40))=true then some (false) else sA x0 x1 0:=
  (ab CC _ _ _ _).trans (by kernel_rfl)
theorem vR : jc=some (false):=
  (ab CC _ _ _ _).trans (by kernel_rfl)
theorem vS (x0:List ak) (x1:List ah) (x2:List ac):qJ x0 x1 x2=jh 0 x0 x1 x2:=
  (ab CC _ _ _ _).trans (by kernel_rfl)
theorem KW (x0:(List (List UInt8))) (x1:Int) (x2:(List (List UInt8))) (x3:List aE) (x4:(List (List UInt8))):Nc x0 x1 x2 x3 x4=(lT x0 100 200).bind fun ra=>if (!ra)=true then lU else (dX x1 0 (len x0)).bind fun rb=>if (!rb)=true then lU else (lT x2 100 200).bind fun rc=>if (!rc)=true then lU else if (decide (len x3>6))=true then lU else (lT x4 200 1300).bind fun rd=>if (!rd)=true then lU else D0 x0 x1 x2 x3 x4:=
  (ab CC _ _ _ _).trans (by kernel_rfl)
theorem kN (x0:Int) (x1:List ak) (x2:List ah) (x3:List ac) (x4:List ap):cQ x0 x1 x2 x3 x4=if (decide (x0<len x1))=true then (idx x1 x0).bind fun ra=>(app x4 [ra.fValue]).bind fun rb=>cQ (w64 (x0+1)) x1 x2 x3 rb else some (((x4),()),()):=
  (ab CC _ _ _ _).trans (by kernel_rfl)
theorem vT (x0:aJ) (x1:ap):lS x0 x1=(EG x0.fNext x0.fObjects).bind fun ra=>if ra=true then (oI x0.fNext x0.fObjects x1).bind fun rb=>some rb else some (false):=
  (ab CC _ _ _ _).trans (by kernel_rfl)
theorem nB (x0:Int) (x1:List av) (x2 x3 x4:List Int):fZ x0 x1 x2 x3 x4=if (decide (x0<len x2))=true then (idx x2 x0).bind fun ra=>ji x0 0 ra x1 x2 x3 x4 else some (((x4),()),()):=
  (ab CC _ _ _ _).trans (by kernel_rfl)
theorem E2 (x0:b9) (x1:aJ) (x2:ae):w7 x0 x1 x2=(em x2.fName).bind fun ra=>if (!ra)=true then lF else (w8 x1 x2.fSaved).bind fun rb=>if (!rb)=true then lF else (dX x2.fPC 1 (w64 (len x0.fInstrs-1))).bind fun rc=>if (!rc)=true then lF else vB x0.fInstrs x0.fEntries x0.fFails x2.fName x2.fSaved x2.fPC x2.fBase x2.fAt:=
  (ab CC _ _ _ _).trans (by kernel_rfl)
theorem xP : tu=some (false):=
  (ab CC _ _ _ _).trans (by kernel_rfl)
theorem xQ (x0:Int) (x1:List av) (x2 x3:List Int) (x4 x5 x6:Int) (x7:List am) (x8:List ak) (x9:List ah) (x10:List ac) (x11:(List (List UInt8))) (x12:Int) (x13:(List (List UInt8))) (x14:List aE) (x15:(List (List UInt8))) (x16:List ap) (x17:List ae) (x18 x19 x20 x21 x22:Int):kh x0 x1 x2 x3 x4 x5 x6 x7 x8 x9 x10 x11 x12 x13 x14 x15 x16 x17 x18 x19 x20 x21 x22=if (x0==1)=true then (dX x20 (-1) (w64 (len x2-1))).bind fun ra=>if ra=true then if (decide (x20>=0))=true then some (true) else some (len x17==0) else some (false) else (sB (b9.mk x1 x2 x3) x18).bind fun ra=>some (x20==ra):=
  (ab CC _ _ _ _).trans (by kernel_rfl)
theorem IP (x0:List UInt8):di x0=if (decide (len x0>=1))=true then if (decide (len x0<=12))=true then (idx x0 0).bind fun ra=>(oJ (ib ra)).bind fun rb=>if rb=true then (dT (List.map (fun (b:UInt8) ↦ ib b) x0)).bind fun rc=>some rc else some (false) else some (false) else some (false):=
  (ab CC _ _ _ _).trans (by kernel_rfl)
theorem zG (x0:aK):pr x0=d4 (len [x0.fAlways,x0.fSuccess,x0.fFailure]) 0 ([]) ([x0.fAlways,x0.fSuccess,x0.fFailure]):=
  (ab CC _ _ _ _).trans (by kernel_rfl)
theorem le (x0:(List (List UInt8))):dY x0=ct x0 (len x0) 0:=
  (ab CC _ _ _ _).trans (by kernel_rfl)
theorem IQ (x0:Bool) (x1:ai):vz x0 x1=if x0=true then (ub x1.re).bind fun ra=>some ra else (w9 x1.re (ai.mk (Int.ofNat 0) (Int.ofNat 0) [] [])).bind fun ra=>some ra:=
  (ab CC _ _ _ _).trans (by kernel_rfl)
theorem qk : fe=some (false):=
  (ab CC _ _ _ _).trans (by kernel_rfl)
theorem ql (x0:List UInt8) (x1:Bool) (x2 x3:Int) (x4:List UInt8) (x5:List ai) (x6:Bool) (x7 x8:Int) (x9:List UInt8) (x10:List ai) (x11:Bool) (x12 x13:Int) (x14:List UInt8) (x15:List ai) (x16 x17 x18:List UInt8):mh x0 x1 x2 x3 x4 x5 x6 x7 x8 x9 x10 x11 x12 x13 x14 x15 x16 x17 x18=if (x0==[])=true then if (!x1)=true then if (x16==[]&&(x17==[]&&(x18==[]&&true)))=true then mj else dc x0 x1 x2 x3 x4 x5 x6 x7 x8 x9 x10 x11 x12 x13 x14 x15 x16 x17 x18 else dc x0 x1 x2 x3 x4 x5 x6 x7 x8 x9 x10 x11 x12 x13 x14 x15 x16 x17 x18 else dc x0 x1 x2 x3 x4 x5 x6 x7 x8 x9 x10 x11 x12 x13 x14 x15 x16 x17 x18:=
  (ab CC _ _ _ _).trans (by kernel_rfl)
theorem mP (x0:aa) (x1:List UInt8):jd x0 x1=some (x0.fLabel==x1):=
  (ab CC _ _ _ _).trans (by kernel_rfl)
theorem G1 (x0:ai) (x1:Int):je x0 x1=(EI x0.fKind).bind fun ra=>if (decide (ra<x1))=true then (du x0.re).bind fun rb=>((app ([40]) rb):Option (List UInt8)).bind fun rc=>(app rc ([41])).bind fun rd=>some rd else (du x0.re).bind fun rb=>some rb:=
  (ab CC _ _ _ _).trans (by kernel_rfl)
theorem C2 (x0:ai):du x0=(EI x0.fKind).bind fun ra=>if (x0.fKind==1)=true then (py x0.fText).bind fun rb=>some rb else if (x0.fKind==2)=true then (A7 x0.fNum).bind fun rc=>some rc else if (x0.fKind==3)=true then some x0.fText else if (x0.fKind==4)=true then eQ x0.fKids (len x0.fKids) 0 x0.fKind x0.fNum x0.fText x0.fKids ([]) else if (x0.fKind==5)=true then (idx x0.fKids 0).bind fun rd=>(je rd.re 7).bind fun re=>(app re ([60])).bind fun rf=>(idx x0.fKids 1).bind fun rg=>(du rg.re).bind fun rh=>(app rf rh).bind fun ri=>(app ri ([62])).bind fun rj=>some rj else (vC x0.fKind).bind fun rk=>if rk=true then (vD x0.fKind).bind fun rl=>(app rl x0.fText).bind fun rg=>some rg else if (ra==6)=true then (vD x0.fKind).bind fun rm=>(idx x0.fKids 0).bind fun rn=>(je rn.re 6).bind fun ro=>(app rm ro).bind fun rj=>some rj else if (x0.fKind==7)=true then (idx x0.fKids 0).bind fun rn=>(je rn.re ra).bind fun ro=>(app ro ([32])).bind fun rj=>(idx x0.fKids 1).bind fun rp=>(je rp.re (w64 (ra+1))).bind fun rq=>(app rj rq).bind fun rr=>some rr else (idx x0.fKids 0).bind fun rn=>(je rn.re ra).bind fun ro=>(app ro ([32])).bind fun rj=>(vD x0.fKind).bind fun rs=>(app rj rs).bind fun rt=>(app rt ([32])).bind fun rr=>(idx x0.fKids 1).bind fun ru=>(je ru.re (w64 (ra+1))).bind fun rv=>(app rr rv).bind fun rw=>some rw:=
  (ab CC _ _ _ _).trans (by kernel_rfl)
theorem qm (x0 x1:List UInt8) (x2:Bool) (x3 x4:Int) (x5:List UInt8) (x6:List ai) (x7:Bool) (x8 x9:Int) (x10:List UInt8) (x11:List ai) (x12:Bool) (x13 x14:Int) (x15:List UInt8) (x16:List ai) (x17 x18 x19:List UInt8):db x0 x1 x2 x3 x4 x5 x6 x7 x8 x9 x10 x11 x12 x13 x14 x15 x16 x17 x18 x19=if x12=true then (du (ai.mk x13 x14 x15 x16)).bind fun ra=>((app ([32,61,32]) ra):Option (List UInt8)).bind fun rb=>(app x0 rb).bind fun rc=>(mn (aK.mk x17 x18 x19)).bind fun rd=>if (!rd==[])=true then ((app ([32]) rd):Option (List UInt8)).bind fun re=>(app rc re).bind fun rf=>dB rf else dB rc else (mn (aK.mk x17 x18 x19)).bind fun ra=>if (!ra==[])=true then ((app ([32]) ra):Option (List UInt8)).bind fun rc=>(app x0 rc).bind fun rg=>dB rg else dB x0:=
  (ab CC _ _ _ _).trans (by kernel_rfl)
theorem mQ (x0:aa):jf x0=(jN x0.fSubject.re).bind fun ra=>if (!ra.2.1.1)=true then some ((([av.mk (Int.ofNat 31) (Int.ofNat 4) []]),()),()) else if (!x0.fHasPattern)=true then (f0 x0.fReplace.re).bind fun rb=>(cX ([ra.1.1,rb.1.1])).bind fun rc=>(app rc.1.1 [av.mk ra.1.2.2.2.2.1 ra.1.2.2.2.2.2.1 ra.1.2.2.2.2.2.2.1]).bind fun rd=>some (((rd),()),()) else ((F1 ra.1.1):Option (List av)).bind fun re=>(app re [av.mk ra.1.2.1 ra.1.2.2.1 ra.1.2.2.2.1]).bind fun rf=>(f0 x0.fPattern.re).bind fun rg=>(app rf rg.1.1).bind fun rh=>(app rh [av.mk (Int.ofNat 25) (Int.ofNat 0) []]).bind fun ri=>(f0 x0.fReplace.re).bind fun rj=>(app ri rj.1.1).bind fun rk=>(app rk [av.mk (Int.ofNat 26) (Int.ofNat 0) [],av.mk ra.1.2.2.2.2.1 ra.1.2.2.2.2.2.1 ra.1.2.2.2.2.2.2.1]).bind fun rl=>some (((rl),()),()):=
  (ab CC _ _ _ _).trans (by kernel_rfl)
theorem IR (x0:List ai):lC x0=iy x0 (len x0) 0 ([]):=
  (ab CC _ _ _ _).trans (by kernel_rfl)
theorem xR (x0:aj) (x1:aK) (x2:Bool) (x3:Int):oc x0 x1 x2 x3=if (x1.fAlways==[])=true then if x2=true then eR x3 x1.fSuccess x0.fStatements else eR x3 x1.fFailure x0.fStatements else eR x3 x1.fAlways x0.fStatements:=
  (ab CC _ _ _ _).trans (by kernel_rfl)
theorem BB (x0:av):yS x0=(yU).bind fun ra=>(idx ra (w64 (x0.fOp-1))).bind fun rb=>some rb:=
  (ab CC _ _ _ _).trans (by kernel_rfl)
theorem fF (x0:List am) (x1 x2:Int):bj x0 x1 x2=if (decide (x2<x1))=true then (idx x0 x2).bind fun ra=>(lG ra).bind fun rb=>if (!rb)=true then some (false) else bj x0 x1 (w64 (x2+1)) else some (true):=
  (ab CC _ _ _ _).trans (by kernel_rfl)
theorem oQ (x0:Int) (x1:List am) (x2 x3 x4:Int) (x5:List am):kj x0 x1 x2 x3 x4 x5=if (decide (x3<x2))=true then (idx x1 x3).bind fun ra=>if (decide (ra.fId<=x0))=true then some (false) else if (decide (ra.fId>x4))=true then some (false) else kj ra.fId x1 x2 (w64 (x3+1)) x4 x5 else (co x5 x4 x5).bind fun rb=>some rb:=
  (ab CC _ _ _ _).trans (by kernel_rfl)
theorem fi (x0:List ak):df x0=bB x0 1:=
  (ab CC _ _ _ _).trans (by kernel_rfl)
theorem eU (x0:List ah):cU x0=bm x0 1:=
  (ab CC _ _ _ _).trans (by kernel_rfl)
theorem fj (x0:List ac):dg x0=bC x0 1:=
  (ab CC _ _ _ _).trans (by kernel_rfl)
theorem vU (x0:Bool) (x1:List ak) (x2:List ah) (x3:List ac):jg x0 x1 x2 x3=if x0=true then (dh x1).bind fun ra=>if ra=true then (cV x2).bind fun rb=>if rb=true then (cu x3).bind fun rc=>some rc else some (false) else some (false) else some (false):=
  (ab CC _ _ _ _).trans (by kernel_rfl)
theorem lf (x0:(List (List UInt8))):ch x0=bU x0 (len x0) 0:=
  (ab CC _ _ _ _).trans (by kernel_rfl)
theorem gR (x0:(List (List UInt8))):cG x0=bq x0 (len x0) 0:=
  (ab CC _ _ _ _).trans (by kernel_rfl)
theorem sZ (x0:Bool) (x1:(List (List UInt8))) (x2:Int) (x3:(List (List UInt8))) (x4:List aE) (x5:(List (List UInt8))):gB x0 x1 x2 x3 x4 x5=if x0=true then (cY x2 0 (len x1)).bind fun ra=>if ra=true then (cJ x4).bind fun rb=>if rb=true then (cK x4).bind fun rc=>some rc else some (false) else some (false) else some (false):=
  (ab CC _ _ _ _).trans (by kernel_rfl)
theorem BC (x0:ap):eo x0=if (x0.fKind==1)=true then if (x0.fKind==1&&(x0.fNum==0&&(x0.fText==x0.fText&&(x0.fRef==0&&true))))=true then some (decide (len x0.fText<=200)) else some (false) else if (x0.fKind==2)=true then if (x0.fKind==2&&(x0.fNum==x0.fNum&&(x0.fText==[]&&(x0.fRef==0&&true))))=true then (cY x0.fNum (-1000000000000) 1000000000000).bind fun ra=>some ra else some (false) else if (x0.fKind==3)=true then if (x0.fKind==3&&(x0.fNum==0&&(x0.fText==x0.fText&&(x0.fRef==0&&true))))=true then if (decide (len x0.fText>=1))=true then some (decide (len x0.fText<=1200)) else some (false) else some (false) else if (x0.fKind==4)=true then ip x0.fKind x0.fNum x0.fText x0.fRef else if (x0.fKind==5)=true then ip x0.fKind x0.fNum x0.fText x0.fRef else if (x0.fKind==6)=true then ip x0.fKind x0.fNum x0.fText x0.fRef else p0 x0.fKind x0.fKind x0.fNum x0.fText x0.fRef:=
  (ab CC _ _ _ _).trans (by kernel_rfl)
theorem IS (x0:Int):J6 x0=(cY x0 4 6).bind fun ra=>some ra:=
  (ab CC _ _ _ _).trans (by kernel_rfl)
theorem C3 (x0:aJ) (x1:Int):pt x0 x1=(bI x0.fObjects x1).bind fun ra=>if (!ra.2)=true then some (-1) else some ra.1:=
  (ab CC _ _ _ _).trans (by kernel_rfl)
theorem BD (x0:Int):yT x0=some (w64 (w64 (x0-4)+1)):=
  (ab CC _ _ _ _).trans (by kernel_rfl)
theorem mR (x0:ae) (x1:List aa) (x2:List av) (x3 x4 x5:List Int) (x6 x7 x8:Int) (x9:List am) (x10:List ak) (x11:List ah) (x12:List ac) (x13:(List (List UInt8))) (x14:Int) (x15:(List (List UInt8))) (x16:List aE) (x17:(List (List UInt8))) (x18:List ap) (x19:List ae) (x20 x21 x22 x23 x24:Int):dH x0 x1 x2 x3 x4 x5 x6 x7 x8 x9 x10 x11 x12 x13 x14 x15 x16 x17 x18 x19 x20 x21 x22 x23 x24=(jj (aQ.mk (aj.mk x1) (b9.mk x2 x3 x4) x5) (aJ.mk x8 x9) x0).bind fun ra=>some ra:=
  (ab CC _ _ _ _).trans (by kernel_rfl)
theorem BE (x0:b9) (x1:Int):kF x0 x1=(qG x1 (len x0.fInstrs)).bind fun ra=>if (!ra)=true then some (-1) else (dV x0.fEntries x1).bind fun rb=>if (!rb.2)=true then some (w64 (rb.1-1)) else some rb.1:=
  (ab CC _ _ _ _).trans (by kernel_rfl)
theorem BF (x0 x1:List ai) (x2:Int):nt x0 x1 x2=if (decide (x2<len x0))=true then (idx x0 x2).bind fun ra=>(idx x1 x2).bind fun rb=>(nh ra.re rb.re).bind fun rc=>if (!rc)=true then some (false) else nt x0 x1 (w64 (x2+1)) else some (true):=
  (ab CC _ _ _ _).trans (by kernel_rfl)
theorem BG (x0:List UInt8) (x1:Int):nu x0 x1=if (decide (x1>=len x0))=true then some x1 else (idx x0 x1).bind fun ra=>(mo (ib ra)).bind fun rb=>if (!rb)=true then some x1 else jk x0 x1:=
  (ab CC _ _ _ _).trans (by kernel_rfl)
theorem KX (x0 x1:Int) (x2:List UInt8) (x3:List ai):Ix x0 x1 x2 x3=(vE x0 x1 x2 x3).bind fun ra=>if (decide (ra<=60))=true then (oK x0 x1 x2 x3).bind fun rb=>some rb else some (false):=
  (ab CC _ _ _ _).trans (by kernel_rfl)
theorem G2 (x0 x1:Int) (x2:List UInt8) (x3:List ai) (x4 x5:Int) (x6:List UInt8) (x7:List ai):A6 x0 x1 x2 x3 x4 x5 x6 x7=if (x0 !=x4)=true then kG else if (x1 !=x5)=true then kG else if (!x2==x6)=true then kG else if (len x3 !=len x7)=true then kG else yV x0 x1 x2 x3 x4 x5 x6 x7:=
  (ab CC _ _ _ _).trans (by kernel_rfl)
theorem xS : od=some 4:=
  (ab CC _ _ _ _).trans (by kernel_rfl)
theorem xT (x0:Int):tv x0=if (x0==12)=true then some 5 else if (x0==13)=true then some 5 else if (x0==14)=true then fC else if (x0==15)=true then fC else if (x0==16)=true then fC else if (x0==17)=true then fC else if (x0==18)=true then fC else tx:=
  (ab CC _ _ _ _).trans (by kernel_rfl)
theorem E3 (x0:List UInt8):r8 x0=if (decide (len x0<=200))=true then (g7 x0 (false)).bind fun ra=>if ra=true then (oH x0 39).bind fun rb=>if rb=true then (oH x0 34).bind fun rc=>some (!rc) else some (true) else some (false) else some (false):=
  (ab CC _ _ _ _).trans (by kernel_rfl)
theorem E4 (x0:List UInt8) (x1:Int):oH x0 x1=lH x0 x1 0:=
  (ab CC _ _ _ _).trans (by kernel_rfl)
theorem oh (x0:Int) (x1:List UInt8):pw x0 x1=if (decide (x0>=10))=true then ((rem x0 10):Option Int).bind fun ra=>(app (List.map (fun (n:Int) ↦ UInt8.ofNat (Int.toNat n)) [Go.IntKind.wrap Go.IntKind.u8 (w64 (48+ra))]) x1).bind fun rb=>((quo Go.IntKind.i64 x0 10):Option Int).bind fun rc=>pw rc rb else (app (List.map (fun (n:Int) ↦ UInt8.ofNat (Int.toNat n)) [Go.IntKind.wrap Go.IntKind.u8 (w64 (48+x0))]) x1).bind fun ra=>some ra:=
  (ab CC _ _ _ _).trans (by kernel_rfl)
theorem zH (x0 x1 x2 x3:List UInt8):lD x0 x1 x2 x3=if (!x3==[])=true then ((app ([70,40]) x3):Option (List UInt8)).bind fun ra=>(app ra ([41])).bind fun rb=>(app x0 rb).bind fun rc=>some rc else some x0:=
  (ab CC _ _ _ _).trans (by kernel_rfl)
theorem s0 : eP=some (false):=
  (ab CC _ _ _ _).trans (by kernel_rfl)
theorem s3 (x0:List UInt8) (x1:Bool) (x2:Int):gC x0 x1 x2=gA x0 x1 (w64 (x2+1)):=
  (ab CC _ _ _ _).trans (by kernel_rfl)
theorem IT (x0:List UInt8) (x1:Int):EH x0 x1=(idx x0 x1).bind fun ra=>(mo (ib ra)).bind fun rb=>if rb=true then (nu x0 x1).bind fun rc=>if (decide (w64 (rc-x1)>12))=true then some ((aN.mk (Int.ofNat 0) (Int.ofNat 0) [] false false),(-1)) else (cut x0 x1 (Option.getD (Option.some rc) (len x0))).bind fun rd=>some ((aN.mk (Int.ofNat 1) (Int.ofNat 0) rd false false),rc) else (oL (ib ra)).bind fun rc=>if rc=true then nv x0 x1 0 x1 0 0 [] (false) (false) else if (ib ra==39)=true then iE x0 x1 (ib ra) (w64 (x1+1)) 0 0 [] (false) (false) else if (ib ra==34)=true then iE x0 x1 (ib ra) (w64 (x1+1)) 0 0 [] (false) (false) else (pz (ib ra)).bind fun re=>if re=true then (cut x0 x1 (Option.getD (Option.some (w64 (x1+1))) (len x0))).bind fun rf=>some ((aN.mk (Int.ofNat 4) (Int.ofNat 0) rf false false),(w64 (x1+1))) else f5 x1 (ib ra) [40,41,60,62,44,58] 0 0 0 [] (false) (false):=
  (ab CC _ _ _ _).trans (by kernel_rfl)
theorem zI (x0 x1:Int) (x2:List UInt8) (x3:List ai) (x4:List av):lE x0 x1 x2 x3 x4=(app x4 [av.mk (w64 (w64 (5+x0)-16)) (Int.ofNat 0) x2]).bind fun ra=>some (((ra),()),()):=
  (ab CC _ _ _ _).trans (by kernel_rfl)
theorem zJ (x0 x1:Int) (x2:List UInt8) (x3:List ai) (x4:Int) (x5:List av):vA x0 x1 x2 x3 x4 x5=if (x4==14)=true then (app x5 [av.mk (w64 (w64 (9+x0)-14)) (Int.ofNat 0) []]).bind fun ra=>some (((ra),()),()) else if (x4==15)=true then (app x5 [av.mk (w64 (w64 (9+x0)-14)) (Int.ofNat 0) []]).bind fun rb=>some (((rb),()),()) else if (x4==5)=true then (app x5 [av.mk (Int.ofNat 12) (Int.ofNat 0) []]).bind fun rc=>some (((rc),()),()) else if (x4==4)=true then (app x5 [av.mk (Int.ofNat 13) (len x3) x2]).bind fun rd=>some (((rd),()),()) else (app x5 [av.mk (Int.ofNat 8) x0 []]).bind fun rd=>some (((rd),()),()):=
  (ab CC _ _ _ _).trans (by kernel_rfl)
theorem E5 (x0:aj) (x1:Int):r9 x0 x1=if (decide (x1>=len x0.fStatements))=true then some (-1) else (idx x0.fStatements x1).bind fun ra=>if (ra.fLabel==[69,78,68])=true then some (-1) else some x1:=
  (ab CC _ _ _ _).trans (by kernel_rfl)
theorem vV (x0:Int) (x1:List am) (x2:Int):sA x0 x1 x2=if (decide (x2<len x1))=true then (idx x1 x2).bind fun ra=>(uc ra).bind fun rb=>if (!rb)=true then sC else if (decide (ra.fId>x0))=true then sC else if (decide (x2>0))=true then (idx x1 (w64 (x2-1))).bind fun rc=>if (decide (rc.fId>=ra.fId))=true then sC else xa x0 x1 x2 else xa x0 x1 x2 else jO x0 x1 0:=
  (ab CC _ _ _ _).trans (by kernel_rfl)
theorem vW (x0:Int) (x1:List ak) (x2:List ah) (x3:List ac):jh x0 x1 x2 x3=if (decide (x0<len x1))=true then (idx x1 x0).bind fun ra=>(em ra.fName).bind fun rb=>if (!rb)=true then f6 else (f7 ra.fValue).bind fun rc=>if (!rc)=true then f6 else (EJ ra.fValue).bind fun rd=>if rd=true then f6 else if (decide (x0>0))=true then (idx x1 (w64 (x0-1))).bind fun re=>if (!Go.Op.bytesLess re.fName ra.fName)=true then f6 else mq x0 x1 x2 x3 else mq x0 x1 x2 x3 else fq 0 x1 x2 x3:=
  (ab CC _ _ _ _).trans (by kernel_rfl)
theorem E6 (x0:(List (List UInt8))) (x1 x2:Int):lT x0 x1 x2=if (decide (len x0>x1))=true then some (false) else ep x0 x2 0:=
  (ab CC _ _ _ _).trans (by kernel_rfl)
theorem E7 : lU=some (false):=
  (ab CC _ _ _ _).trans (by kernel_rfl)
theorem E8 (x0:(List (List UInt8))) (x1:Int) (x2:(List (List UInt8))) (x3:List aE) (x4:(List (List UInt8))):D0 x0 x1 x2 x3 x4=lV x0 x1 x2 x3 x4 0:=
  (ab CC _ _ _ _).trans (by kernel_rfl)
theorem G3 (x0:Int) (x1:List am) (x2:ap):oI x0 x1 x2=(f7 x2).bind fun ra=>if (!ra)=true then some (false) else (D1 x2).bind fun rb=>if (!rb)=true then some (true) else (A8 x0 x1 x2.fRef).bind fun rc=>if (decide (rc>=0))=true then (idx x1 rc).bind fun rd=>(qK x2.fKind).bind fun re=>some (rd.fKind==re) else some (false):=
  (ab CC _ _ _ _).trans (by kernel_rfl)
theorem nC (x0 x1 x2:Int) (x3:List av) (x4 x5 x6:List Int):ji x0 x1 x2 x3 x4 x5 x6=(idx x5 x0).bind fun ra=>if (decide (x2<ra))=true then (idx x6 x2).bind fun rb=>((x6[Int.toNat x2]?):Option Int).bind fun rc=>(idx x3 x2).bind fun rd=>(ud rd).bind fun re=>ji x0 (w64 (x1+w64 (re.2-re.1))) (w64 (x2+1)) x3 x4 x5 (upd x6 (Int.toNat x2) x1) else fZ (w64 (x0+1)) x3 x4 x5 x6:=
  (ab CC _ _ _ _).trans (by kernel_rfl)
theorem zK : lF=some (false):=
  (ab CC _ _ _ _).trans (by kernel_rfl)
theorem E9 (x0:aJ) (x1:List ak):w8 x0 x1=ff x1 0 x0.fNext x0.fObjects:=
  (ab CC _ _ _ _).trans (by kernel_rfl)
theorem zL (x0:List av) (x1 x2:List Int) (x3:List UInt8) (x4:List ak) (x5 x6 x7:Int):vB x0 x1 x2 x3 x4 x5 x6 x7=(idx x0 (w64 (x5-1))).bind fun ra=>if (ra.fOp==13)=true then (sB (b9.mk x0 x1 x2) (w64 (x5-1))).bind fun rb=>some (rb==x7) else some (false):=
  (ab CC _ _ _ _).trans (by kernel_rfl)
theorem Fb (x0:b9) (x1:Int):sB x0 x1=lI x1 0 x0.fInstrs x0.fEntries x0.fFails:=
  (ab CC _ _ _ _).trans (by kernel_rfl)
theorem Fc (x0:Int):oJ x0=if (decide (x0>=65))=true then if (decide (x0<=90))=true then some (true) else if (decide (x0>=97))=true then some (decide (x0<=122)) else some (false) else if (decide (x0>=97))=true then some (decide (x0<=122)) else some (false):=
  (ab CC _ _ _ _).trans (by kernel_rfl)
theorem kO (x0:List Int):dT x0=cn x0 (len x0) 0:=
  (ab CC _ _ _ _).trans (by kernel_rfl)
theorem mz (x0 x1:Int) (x2:(List (List UInt8))) (x3:(List (List UInt8))):d4 x0 x1 x2 x3=if (decide (x1<x0))=true then (idx x3 x1).bind fun ra=>((x3[Int.toNat x1]?):Option (List UInt8)).bind fun rb=>if (!rb==[])=true then (app x2 [rb]).bind fun rc=>d4 x0 (w64 (x1+1)) rc x3 else d4 x0 (w64 (x1+1)) x2 x3 else some x2:=
  (ab CC _ _ _ _).trans (by kernel_rfl)
theorem jB (x0:(List (List UInt8))) (x1 x2:Int):ct x0 x1 x2=if (decide (x2<x1))=true then (idx x0 x2).bind fun ra=>(qE ra).bind fun rb=>if (!rb)=true then some (false) else ct x0 x1 (w64 (x2+1)) else some (true):=
  (ab CC _ _ _ _).trans (by kernel_rfl)
theorem C4 (x0:ai):ub x0=(nw x0.re 0).bind fun ra=>some (decide (ra<=60)):=
  (ab CC _ _ _ _).trans (by kernel_rfl)
theorem Fd (x0 x1:ai):w9 x0 x1=if (x0.fKind==x1.fKind)=true then if (x0.fNum==x1.fNum)=true then if (x0.fText==x1.fText)=true then (ba x0.fKids x1.fKids).bind fun ra=>some ra else some (false) else some (false) else some (false):=
  (ab CC _ _ _ _).trans (by kernel_rfl)
theorem qn : mj=some (false):=
  (ab CC _ _ _ _).trans (by kernel_rfl)
theorem qo (x0:List UInt8) (x1:Bool) (x2 x3:Int) (x4:List UInt8) (x5:List ai) (x6:Bool) (x7 x8:Int) (x9:List UInt8) (x10:List ai) (x11:Bool) (x12 x13:Int) (x14:List UInt8) (x15:List ai) (x16 x17 x18:List UInt8):dc x0 x1 x2 x3 x4 x5 x6 x7 x8 x9 x10 x11 x12 x13 x14 x15 x16 x17 x18=(fp (aa.mk x0 x1 (ai.mk x2 x3 x4 x5) x6 (ai.mk x7 x8 x9 x10) x11 (ai.mk x12 x13 x14 x15) (aK.mk x16 x17 x18))).bind fun ra=>(fK ra x0).bind fun rb=>(qL rb).bind fun rc=>if (decide (len ra<=4000))=true then some (rc.2.2==0) else some (false):=
  (ab CC _ _ _ _).trans (by kernel_rfl)
theorem KY (x0:Int):EI x0=if (x0==6)=true then some 1 else if (x0==7)=true then some 2 else if (x0==8)=true then some 3 else if (x0==9)=true then some 3 else if (x0==10)=true then ue else if (x0==11)=true then ue else A9 x0:=
  (ab CC _ _ _ _).trans (by kernel_rfl)
theorem zM (x0:List UInt8):py x0=(sD x0).bind fun ra=>if (!ra)=true then some [] else ((iP x0 ([39])):Option Bool).bind fun rb=>if rb=true then ((app ([34]) x0):Option (List UInt8)).bind fun rc=>(app rc ([34])).bind fun rd=>some rd else ((app ([39]) x0):Option (List UInt8)).bind fun rc=>(app rc ([39])).bind fun rd=>some rd:=
  (ab CC _ _ _ _).trans (by kernel_rfl)
theorem G4 (x0:Int):A7 x0=((OM x0 10):Option (List UInt8)).bind fun ra=>some ra:=
  (ab CC _ _ _ _).trans (by kernel_rfl)
theorem nD (x0:List ai) (x1 x2 x3 x4:Int) (x5:List UInt8) (x6:List ai) (x7:(List (List UInt8))):eQ x0 x1 x2 x3 x4 x5 x6 x7=if (decide (x2<x1))=true then (idx x0 x2).bind fun ra=>(du ra.re).bind fun rb=>(app x7 [rb]).bind fun rc=>eQ x0 x1 (w64 (x2+1)) x3 x4 x5 x6 rc else (app x5 ([40])).bind fun ra=>((KO x7 ([44])):Option (List UInt8)).bind fun rd=>(app ra rd).bind fun rc=>(app rc ([41])).bind fun re=>some re:=
  (ab CC _ _ _ _).trans (by kernel_rfl)
theorem G5 (x0:Int):vC x0=(cY x0 16 18).bind fun ra=>some ra:=
  (ab CC _ _ _ _).trans (by kernel_rfl)
theorem IU (x0:Int):vD x0=((idx [[],[],[],[],[],[],[124],[],[43],[45],[42],[47],[46],[36],[45],[36],[46],[42],[64]] x0):Option (List UInt8)).bind fun ra=>some ra:=
  (ab CC _ _ _ _).trans (by kernel_rfl)
theorem C5 (x0:aK):mn x0=if (!x0.fAlways==[])=true then ((app ([58,40]) x0.fAlways):Option (List UInt8)).bind fun ra=>(app ra ([41])).bind fun rb=>some rb else if (!x0.fSuccess==[])=true then ((app ([83,40]) x0.fSuccess):Option (List UInt8)).bind fun rb=>(app rb ([41])).bind fun rc=>((app ([]) rc):Option (List UInt8)).bind fun rd=>if (!x0.fFailure==[])=true then ((app ([70,40]) x0.fFailure):Option (List UInt8)).bind fun re=>(app re ([41])).bind fun rf=>(app rd rf).bind fun rg=>fD rg else fD rd else if (!x0.fFailure==[])=true then ((app ([70,40]) x0.fFailure):Option (List UInt8)).bind fun rc=>(app rc ([41])).bind fun rd=>((app ([]) rd):Option (List UInt8)).bind fun rh=>fD rh else fD []:=
  (ab CC _ _ _ _).trans (by kernel_rfl)
theorem pE (x0:List UInt8):dB x0=some x0:=
  (ab CC _ _ _ _).trans (by kernel_rfl)
theorem s4 (x0:ai):jN x0=if (x0.fKind==3)=true then some ((([]),4,0,x0.fText,17,0,x0.fText,()),((true),()),()) else if (x0.fKind==15)=true then (lC x0.fKids).bind fun ra=>(app ra.1.1 [av.mk (Int.ofNat 15) (Int.ofNat 0) []]).bind fun rb=>some (((rb),21,0,[],18,0,[],()),((true),()),()) else if (x0.fKind==5)=true then (lC x0.fKids).bind fun rc=>some ((rc.1.1,22,0,[],19,0,[],()),((true),()),()) else if (x0.fKind==4)=true then if (len x0.fKids==1)=true then (lC x0.fKids).bind fun rd=>((app [av.mk (Int.ofNat 16) (Int.ofNat 0) x0.fText] rd.1.1):Option (List av)).bind fun re=>some (((re),23,0,x0.fText,20,0,x0.fText,()),((true),()),()) else some ((([]),0,0,[],0,0,[],()),((false),()),()) else some ((([]),0,0,[],0,0,[],()),((false),()),()):=
  (ab CC _ _ _ _).trans (by kernel_rfl)
theorem C6 (x0:ai):f0 x0=if (x0.fKind==12)=true then (cut x0.fKids 0 (Option.getD (Option.some 1) (len x0.fKids))).bind fun ra=>hT ra x0.fKind x0.fNum x0.fText x0.fKids else if (x0.fKind==13)=true then (cut x0.fKids 0 (Option.getD (Option.some 1) (len x0.fKids))).bind fun rb=>hT rb x0.fKind x0.fNum x0.fText x0.fKids else hT x0.fKids x0.fKind x0.fNum x0.fText x0.fKids:=
  (ab CC _ _ _ _).trans (by kernel_rfl)
theorem iz (x0:(List (List av))):cX x0=bS x0 0 x0 (len x0) 0:=
  (ab CC _ _ _ _).trans (by kernel_rfl)
theorem tH (x0:List ai) (x1 x2:Int) (x3:List av):iy x0 x1 x2 x3=if (decide (x2<x1))=true then (idx x0 x2).bind fun ra=>(f0 ra.re).bind fun rb=>(app x3 rb.1.1).bind fun rc=>iy x0 x1 (w64 (x2+1)) rc else some (((x3),()),()):=
  (ab CC _ _ _ _).trans (by kernel_rfl)
theorem s5 (x0:Int) (x1:List UInt8) (x2:List aa):eR x0 x1 x2=if (x1==[])=true then (jl (aj.mk x2) (w64 (x0+1))).bind fun ra=>some ((ra),0) else (tz (aj.mk x2) x1).bind fun ra=>some (ra.1,ra.2):=
  (ab CC _ _ _ _).trans (by kernel_rfl)
theorem BH : yU=some ([aI.mk [115,116,101,112] true (Int.ofNat 0) (Int.ofNat 79) false (Int.ofNat 0) (Int.ofNat 0),aI.mk [115,116,114,105,110,103] false (Int.ofNat 0) (Int.ofNat 0) true (Int.ofNat 0) (Int.ofNat 1),aI.mk [105,110,116,101,103,101,114] true (Int.ofNat 0) (Int.ofNat 1000000000000) false (Int.ofNat 0) (Int.ofNat 1),aI.mk [108,111,97,100] false (Int.ofNat 0) (Int.ofNat 0) true (Int.ofNat 0) (Int.ofNat 1),aI.mk [110,97,109,101,111,102] false (Int.ofNat 0) (Int.ofNat 0) true (Int.ofNat 0) (Int.ofNat 1),aI.mk [100,101,102,101,114] false (Int.ofNat 0) (Int.ofNat 0) true (Int.ofNat 0) (Int.ofNat 1),aI.mk [99,117,114,115,111,114] false (Int.ofNat 0) (Int.ofNat 0) true (Int.ofNat 0) (Int.ofNat 1),aI.mk [98,105,110,97,114,121] true (Int.ofNat 6) (Int.ofNat 11) false (Int.ofNat 2) (Int.ofNat 1),aI.mk [110,101,103,97,116,101] false (Int.ofNat 0) (Int.ofNat 0) false (Int.ofNat 1) (Int.ofNat 1),aI.mk [105,110,100,105,114,101,99,116] false (Int.ofNat 0) (Int.ofNat 0) false (Int.ofNat 1) (Int.ofNat 1),aI.mk [98,105,110,100] true (Int.ofNat 21) (Int.ofNat 22) true (Int.ofNat 1) (Int.ofNat 1),aI.mk [101,108,101,109,101,110,116] false (Int.ofNat 0) (Int.ofNat 0) false (Int.ofNat 2) (Int.ofNat 1),aI.mk [99,97,108,108] true (Int.ofNat 0) (Int.ofNat 6) true (Int.ofNat 0) (Int.ofNat 1),aI.mk [112,111,112] false (Int.ofNat 0) (Int.ofNat 0) false (Int.ofNat 1) (Int.ofNat 0),aI.mk [116,111,110,97,109,101] false (Int.ofNat 0) (Int.ofNat 0) false (Int.ofNat 1) (Int.ofNat 1),aI.mk [99,104,101,99,107,102,105,101,108,100] false (Int.ofNat 0) (Int.ofNat 0) true (Int.ofNat 0) (Int.ofNat 0),aI.mk [115,116,111,114,101] false (Int.ofNat 0) (Int.ofNat 0) true (Int.ofNat 1) (Int.ofNat 0),aI.mk [115,116,111,114,101,110,97,109,101] false (Int.ofNat 0) (Int.ofNat 0) false (Int.ofNat 2) (Int.ofNat 0),aI.mk [115,116,111,114,101,101,108,101,109,101,110,116] false (Int.ofNat 0) (Int.ofNat 0) false (Int.ofNat 3) (Int.ofNat 0),aI.mk [115,116,111,114,101,102,105,101,108,100] false (Int.ofNat 0) (Int.ofNat 0) true (Int.ofNat 2) (Int.ofNat 0),aI.mk [112,101,101,107,110,97,109,101] false (Int.ofNat 0) (Int.ofNat 0) false (Int.ofNat 1) (Int.ofNat 2),aI.mk [112,101,101,107,101,108,101,109,101,110,116] false (Int.ofNat 0) (Int.ofNat 0) false (Int.ofNat 2) (Int.ofNat 3),aI.mk [112,101,101,107,102,105,101,108,100] false (Int.ofNat 0) (Int.ofNat 0) true (Int.ofNat 1) (Int.ofNat 2),aI.mk [109,97,116,99,104] false (Int.ofNat 0) (Int.ofNat 0) false (Int.ofNat 2) (Int.ofNat 0),aI.mk [107,101,101,112] false (Int.ofNat 0) (Int.ofNat 0) false (Int.ofNat 2) (Int.ofNat 3),aI.mk [114,101,112,108,97,99,101] false (Int.ofNat 0) (Int.ofNat 0) false (Int.ofNat 4) (Int.ofNat 1),aI.mk [106,117,109,112] true (Int.ofNat 0) (Int.ofNat 79) false (Int.ofNat 0) (Int.ofNat 0),aI.mk [101,110,100] false (Int.ofNat 0) (Int.ofNat 0) false (Int.ofNat 0) (Int.ofNat 0),aI.mk [114,101,116,117,114,110] false (Int.ofNat 0) (Int.ofNat 0) false (Int.ofNat 0) (Int.ofNat 0),aI.mk [102,114,101,116,117,114,110] false (Int.ofNat 0) (Int.ofNat 0) false (Int.ofNat 0) (Int.ofNat 0),aI.mk [102,97,117,108,116] true (Int.ofNat 1) (Int.ofNat 11) false (Int.ofNat 0) (Int.ofNat 0)]):=
  (ab CC _ _ _ _).trans (by kernel_rfl)
theorem zN (x0:am):lG x0=(ny x0.fId).bind fun ra=>if (!ra)=true then iq else if (decide (len x0.fVals>30))=true then iq else (b7 x0.fVals).bind fun rb=>if (!rb)=true then iq else p5 x0.fId x0.fKind x0.fName x0.fLow x0.fKeys x0.fVals x0.fDefault.fKind x0.fDefault.fNum x0.fDefault.fText x0.fDefault.fRef:=
  (ab CC _ _ _ _).trans (by kernel_rfl)
theorem gc (x0:List am) (x1:Int) (x2:List am):co x0 x1 x2=aV x1 x2 x0 (len x0) 0:=
  (ab CC _ _ _ _).trans (by kernel_rfl)
theorem eC (x0:List ak) (x1:Int):bB x0 x1=if (decide (x1<len x0))=true then (idx x0 (w64 (x1-1))).bind fun ra=>(mr ra).bind fun rb=>(idx x0 x1).bind fun rc=>(mr rc).bind fun rd=>if (!Go.Op.bytesLess rb rd)=true then some (false) else bB x0 (w64 (x1+1)) else some (true):=
  (ab CC _ _ _ _).trans (by kernel_rfl)
theorem et (x0:List ah) (x1:Int):bm x0 x1=if (decide (x1<len x0))=true then (idx x0 (w64 (x1-1))).bind fun ra=>(kY ra).bind fun rb=>(idx x0 x1).bind fun rc=>(kY rc).bind fun rd=>if (!Go.Op.bytesLess rb rd)=true then some (false) else bm x0 (w64 (x1+1)) else some (true):=
  (ab CC _ _ _ _).trans (by kernel_rfl)
theorem eD (x0:List ac) (x1:Int):bC x0 x1=if (decide (x1<len x0))=true then (idx x0 (w64 (x1-1))).bind fun ra=>(qM ra).bind fun rb=>(idx x0 x1).bind fun rc=>(qM rc).bind fun rd=>if (!Go.Op.bytesLess rb rd)=true then some (false) else bC x0 (w64 (x1+1)) else some (true):=
  (ab CC _ _ _ _).trans (by kernel_rfl)
theorem fk (x0:List ak):dh x0=bD x0 (len x0) 0:=
  (ab CC _ _ _ _).trans (by kernel_rfl)
theorem eV (x0:List ah):cV x0=bn x0 (len x0) 0:=
  (ab CC _ _ _ _).trans (by kernel_rfl)
theorem dZ (x0:List ac):cu x0=bc x0 (len x0) 0:=
  (ab CC _ _ _ _).trans (by kernel_rfl)
theorem jC (x0:(List (List UInt8))) (x1 x2:Int):bU x0 x1 x2=if (decide (x2<x1))=true then (idx x0 x2).bind fun ra=>(Ba ra).bind fun rb=>if (!rb)=true then some (false) else bU x0 x1 (w64 (x2+1)) else some (true):=
  (ab CC _ _ _ _).trans (by kernel_rfl)
theorem fM (x0:(List (List UInt8))) (x1 x2:Int):bq x0 x1 x2=if (decide (x2<x1))=true then (idx x0 x2).bind fun ra=>(jP ra).bind fun rb=>if (!rb)=true then some (false) else bq x0 x1 (w64 (x2+1)) else some (true):=
  (ab CC _ _ _ _).trans (by kernel_rfl)
theorem gS (x0:List aE):cJ x0=bu x0 (len x0) 0:=
  (ab CC _ _ _ _).trans (by kernel_rfl)
theorem gT (x0:List aE):cK x0=bO x0 1:=
  (ab CC _ _ _ _).trans (by kernel_rfl)
theorem ut (x0 x1:Int) (x2:List UInt8) (x3:Int):ip x0 x1 x2 x3=if (x0==x0&&(x1==0&&(x2==[]&&(x3==x3&&true))))=true then (ny x3).bind fun ra=>some ra else some (false):=
  (ab CC _ _ _ _).trans (by kernel_rfl)
theorem uu (x0 x1 x2:Int) (x3:List UInt8) (x4:Int):p0 x0 x1 x2 x3 x4=if (x0==7)=true then if (x1==x1&&(x2==0&&(x3==x3&&(x4==0&&true))))=true then (di x3).bind fun ra=>some ra else some (false) else if (x0==8)=true then if (x1==x1&&(x2==0&&(x3==x3&&(x4==0&&true))))=true then (di x3).bind fun rb=>some rb else some (false) else some (false):=
  (ab CC _ _ _ _).trans (by kernel_rfl)
theorem cp (x0:List am) (x1:Int):bI x0 x1=aL x0 x1 (len x0) 0 (len x0):=
  (ab CC _ _ _ _).trans (by kernel_rfl)
theorem rA (x0:aQ) (x1:aJ) (x2:ae):jj x0 x1 x2=(di x2.fName).bind fun ra=>if ra=true then if (decide (len x2.fSaved<=13))=true then (dn x2.fSaved x1.fNext x1.fObjects).bind fun rb=>if rb=true then (mu x0 x2).bind fun rc=>some rc else some (false) else some (false) else some (false):=
  (ab CC _ _ _ _).trans (by kernel_rfl)
theorem gU (x0:List Int) (x1:Int):dV x0 x1=aY x0 x1 (len x0) 0 (len x0):=
  (ab CC _ _ _ _).trans (by kernel_rfl)
theorem C7 (x0:Int):mo x0=if (decide (x0>=65))=true then if (decide (x0<=90))=true then some (true) else if (decide (x0>=97))=true then some (decide (x0<=122)) else some (false) else if (decide (x0>=97))=true then some (decide (x0<=122)) else some (false):=
  (ab CC _ _ _ _).trans (by kernel_rfl)
theorem nE (x0:List UInt8) (x1:Int):jk x0 x1=if (decide (x1<len x0))=true then (idx x0 x1).bind fun ra=>(mo (ib ra)).bind fun rb=>if rb=true then jm x0 x1 else (idx x0 x1).bind fun rc=>(oL (ib rc)).bind fun rd=>if rd=true then jm x0 x1 else (idx x0 x1).bind fun re=>if (ib re==95)=true then jm x0 x1 else mv x1 else mv x1:=
  (ab CC _ _ _ _).trans (by kernel_rfl)
theorem G6 (x0 x1:Int) (x2:List UInt8) (x3:List ai):vE x0 x1 x2 x3=kH x0 x1 x2 x3 1 0:=
  (ab CC _ _ _ _).trans (by kernel_rfl)
theorem Fe (x0 x1:Int) (x2:List UInt8) (x3:List ai):oK x0 x1 x2 x3=(xb x0 x1 x2 x3).bind fun ra=>if (!ra)=true then some (false) else lJ x0 x1 x2 x3 0:=
  (ab CC _ _ _ _).trans (by kernel_rfl)
theorem BI : kG=some (false):=
  (ab CC _ _ _ _).trans (by kernel_rfl)
theorem BJ (x0 x1:Int) (x2:List UInt8) (x3:List ai) (x4 x5:Int) (x6:List UInt8) (x7:List ai):yV x0 x1 x2 x3 x4 x5 x6 x7=qN x0 x1 x2 x3 x4 x5 x6 x7 0:=
  (ab CC _ _ _ _).trans (by kernel_rfl)
theorem xU : fC=some 6:=
  (ab CC _ _ _ _).trans (by kernel_rfl)
theorem xV : tx=some 7:=
  (ab CC _ _ _ _).trans (by kernel_rfl)
theorem zO (x0:List UInt8) (x1 x2:Int):lH x0 x1 x2=if (decide (x2<len x0))=true then (idx x0 x2).bind fun ra=>if (ib ra==x1)=true then some (true) else lH x0 x1 (w64 (x2+1)) else some (false):=
  (ab CC _ _ _ _).trans (by kernel_rfl)
theorem Ff (x0:Int):oL x0=if (decide (x0>=48))=true then some (decide (x0<=57)) else some (false):=
  (ab CC _ _ _ _).trans (by kernel_rfl)
theorem rB (x0:List UInt8) (x1 x2 x3 x4 x5:Int) (x6:List UInt8) (x7 x8:Bool):nv x0 x1 x2 x3 x4 x5 x6 x7 x8=if (decide (x3<len x0))=true then (idx x0 x3).bind fun ra=>(oL (ib ra)).bind fun rb=>if rb=true then if (decide (w64 (x3-x1)<14))=true then yW x0 x1 x2 x3 x4 x5 x6 x7 x8 else kI x1 x2 x3 x4 x5 x6 x7 x8 else kI x1 x2 x3 x4 x5 x6 x7 x8 else kI x1 x2 x3 x4 x5 x6 x7 x8:=
  (ab CC _ _ _ _).trans (by kernel_rfl)
theorem rC (x0:List UInt8) (x1 x2 x3 x4 x5:Int) (x6:List UInt8) (x7 x8:Bool):iE x0 x1 x2 x3 x4 x5 x6 x7 x8=if (decide (x3<len x0))=true then (idx x0 x3).bind fun ra=>if (ib ra !=x2)=true then iE x0 x1 x2 (w64 (x3+1)) x4 x5 x6 x7 x8 else if (x3==len x0)=true then kJ x4 x5 x6 x7 x8 else if (decide (w64 (w64 (x3-x1)-1)>200))=true then kJ x4 x5 x6 x7 x8 else qO x0 x1 x3 x4 x5 x6 x7 x8 else if (x3==len x0)=true then kJ x4 x5 x6 x7 x8 else if (decide (w64 (w64 (x3-x1)-1)>200))=true then kJ x4 x5 x6 x7 x8 else qO x0 x1 x3 x4 x5 x6 x7 x8:=
  (ab CC _ _ _ _).trans (by kernel_rfl)
theorem zP (x0:Int):pz x0=if (x0==43)=true then bW else if (x0==45)=true then bW else if (x0==42)=true then bW else if (x0==47)=true then bW else if (x0==124)=true then bW else if (x0==46)=true then bW else if (x0==36)=true then bW else if (x0==64)=true then bW else if (x0==61)=true then bW else oM:=
  (ab CC _ _ _ _).trans (by kernel_rfl)
theorem rD (x0 x1:Int) (x2:List UInt8) (x3 x4 x5:Int) (x6:List UInt8) (x7 x8:Bool):f5 x0 x1 x2 x3 x4 x5 x6 x7 x8=if (decide (x3<len x2))=true then (idx x2 x3).bind fun ra=>if (ib ra==x1)=true then some ((aN.mk (w64 (5+x3)) (Int.ofNat 0) [] false false),(w64 (x0+1))) else f5 x0 x1 x2 (w64 (x3+1)) x4 x5 x6 x7 x8 else some ((aN.mk (Int.ofNat 0) (Int.ofNat 0) [] false false),(-1)):=
  (ab CC _ _ _ _).trans (by kernel_rfl)
theorem C8 (x0:am):uc x0=(dX x0.fId 1 1000000).bind fun ra=>if (!ra)=true then some (false) else (d5 x0.fVals 30).bind fun rb=>if (!rb)=true then some (false) else if (x0.fKind==1)=true then if (x0.fName==[])=true then (dX x0.fLow (-1000) 1000).bind fun rc=>if rc=true then if (len x0.fKeys==0)=true then some (x0.fDefault.fKind==0&&(x0.fDefault.fNum==0&&(x0.fDefault.fText==[]&&(x0.fDefault.fRef==0&&true)))) else some (false) else some (false) else some (false) else if (x0.fKind==2)=true then if (x0.fName==[])=true then if (x0.fLow==0)=true then if (len x0.fKeys==len x0.fVals)=true then (d5 x0.fKeys 30).bind fun rd=>if rd=true then (lK x0.fKeys).bind fun re=>if re=true then (f7 x0.fDefault).bind fun rf=>some rf else some (false) else some (false) else some (false) else some (false) else some (false) else if (x0.fKind==3)=true then (em x0.fName).bind fun rg=>if rg=true then if (x0.fLow==0)=true then if (len x0.fKeys==len x0.fVals)=true then (mw x0.fKeys).bind fun re=>if re=true then some (x0.fDefault.fKind==0&&(x0.fDefault.fNum==0&&(x0.fDefault.fText==[]&&(x0.fDefault.fRef==0&&true)))) else some (false) else some (false) else some (false) else some (false) else some (false):=
  (ab CC _ _ _ _).trans (by kernel_rfl)
theorem Fg : sC=some (false):=
  (ab CC _ _ _ _).trans (by kernel_rfl)
theorem Fh (x0:Int) (x1:List am) (x2:Int):xa x0 x1 x2=sA x0 x1 (w64 (x2+1)):=
  (ab CC _ _ _ _).trans (by kernel_rfl)
theorem C9 (x0:Int) (x1:List am) (x2:Int):jO x0 x1 x2=if (decide (x2<len x1))=true then (idx x1 x2).bind fun ra=>(vF x0 x1 ra.fId ra.fKind ra.fName ra.fLow ra.fKeys ra.fVals ra.fDefault.fKind ra.fDefault.fNum ra.fDefault.fText ra.fDefault.fRef).bind fun rb=>if (!rb)=true then some (false) else jO x0 x1 (w64 (x2+1)) else some (true):=
  (ab CC _ _ _ _).trans (by kernel_rfl)
theorem vX : f6=some (false):=
  (ab CC _ _ _ _).trans (by kernel_rfl)
theorem BK (x0:ap):f7 x0=if (x0.fKind==1)=true then (iF x0 (false) (true) (false)).bind fun ra=>if ra=true then some (decide (len x0.fText<=200)) else some (false) else if (x0.fKind==2)=true then (iF x0 (true) (false) (false)).bind fun rb=>if rb=true then (dX x0.fNum (-1000000000000) 1000000000000).bind fun rc=>some rc else some (false) else if (x0.fKind==3)=true then (iF x0 (false) (true) (false)).bind fun rd=>if rd=true then (dX (len x0.fText) 1 1200).bind fun re=>some re else some (false) else if (x0.fKind==4)=true then ir x0.fKind x0.fNum x0.fText x0.fRef else if (x0.fKind==5)=true then ir x0.fKind x0.fNum x0.fText x0.fRef else if (x0.fKind==6)=true then ir x0.fKind x0.fNum x0.fText x0.fRef else p6 x0.fKind x0.fKind x0.fNum x0.fText x0.fRef:=
  (ab CC _ _ _ _).trans (by kernel_rfl)
theorem IV (x0:ap):EJ x0=some (x0.fKind==1&&(x0.fNum==0&&(x0.fText==[]&&(x0.fRef==0&&true)))):=
  (ab CC _ _ _ _).trans (by kernel_rfl)
theorem vY (x0:Int) (x1:List ak) (x2:List ah) (x3:List ac):mq x0 x1 x2 x3=jh (w64 (x0+1)) x1 x2 x3:=
  (ab CC _ _ _ _).trans (by kernel_rfl)
theorem uv (x0:Int) (x1:List ak) (x2:List ah) (x3:List ac):fq x0 x1 x2 x3=if (decide (x0<len x2))=true then (idx x2 x0).bind fun ra=>(pA ra).bind fun rb=>if (!rb)=true then kZ else if (decide (x0>0))=true then (idx x2 (w64 (x0-1))).bind fun rc=>(idx x2 x0).bind fun rd=>if (!Go.Op.bytesLess rc.fName rd.fName)=true then kZ else k5 x0 x1 x2 x3 else k5 x0 x1 x2 x3 else fu 0 x1 x2 x3:=
  (ab CC _ _ _ _).trans (by kernel_rfl)
theorem p9 (x0:(List (List UInt8))) (x1 x2:Int):ep x0 x1 x2=if (decide (x2<len x0))=true then (idx x0 x2).bind fun ra=>if (decide (len ra>x1))=true then some (false) else ep x0 x1 (w64 (x2+1)) else some (true):=
  (ab CC _ _ _ _).trans (by kernel_rfl)
theorem Fi (x0:(List (List UInt8))) (x1:Int) (x2:(List (List UInt8))) (x3:List aE) (x4:(List (List UInt8))) (x5:Int):lV x0 x1 x2 x3 x4 x5=if (decide (x5<len x3))=true then (idx x3 x5).bind fun ra=>(Bb ra).bind fun rb=>if (!rb)=true then xc else if (decide (x5>0))=true then (idx x3 (w64 (x5-1))).bind fun rc=>(idx x3 x5).bind fun rd=>if (!Go.Op.bytesLess rc.fName rd.fName)=true then xc else xd x0 x1 x2 x3 x4 x5 else xd x0 x1 x2 x3 x4 x5 else some (true):=
  (ab CC _ _ _ _).trans (by kernel_rfl)
theorem Fj (x0:ap):D1 x0=(dX x0.fKind 4 6).bind fun ra=>some ra:=
  (ab CC _ _ _ _).trans (by kernel_rfl)
theorem G7 (x0:Int) (x1:List am) (x2:Int):A8 x0 x1 x2=iG x0 x1 x2 0:=
  (ab CC _ _ _ _).trans (by kernel_rfl)
theorem v6 (x0:Int):qK x0=some (w64 (w64 (x0-4)+1)):=
  (ab CC _ _ _ _).trans (by kernel_rfl)
theorem Da (x0:av):ud x0=if (x0.fOp==2)=true then eA else if (x0.fOp==3)=true then eA else if (x0.fOp==4)=true then eA else if (x0.fOp==5)=true then eA else if (x0.fOp==6)=true then eA else if (x0.fOp==7)=true then eA else tA x0.fOp x0.fOp x0.fA x0.fText:=
  (ab CC _ _ _ _).trans (by kernel_rfl)
theorem qa (x0:List ak) (x1 x2:Int) (x3:List am):ff x0 x1 x2 x3=if (decide (x1<len x0))=true then (idx x0 x1).bind fun ra=>(em ra.fName).bind fun rb=>if (!rb)=true then some (false) else (idx x0 x1).bind fun rc=>(lS (aJ.mk x2 x3) rc.fValue).bind fun rd=>if (!rd)=true then some (false) else ff x0 (w64 (x1+1)) x2 x3 else some (decide (len x0<=13)):=
  (ab CC _ _ _ _).trans (by kernel_rfl)
theorem qb (x0 x1:Int) (x2:List av) (x3 x4:List Int):lI x0 x1 x2 x3 x4=if (decide (x1<len x4))=true then (idx x3 x1).bind fun ra=>(idx x4 x1).bind fun rb=>(dX x0 ra rb).bind fun rc=>if rc=true then some x1 else lI x0 (w64 (x1+1)) x2 x3 x4 else some (-1):=
  (ab CC _ _ _ _).trans (by kernel_rfl)
theorem jq (x0:List Int) (x1 x2:Int):cn x0 x1 x2=if (decide (x2<x1))=true then (idx x0 x2).bind fun ra=>(kK ra).bind fun rb=>if (!rb)=true then some (false) else cn x0 x1 (w64 (x2+1)) else some (true):=
  (ab CC _ _ _ _).trans (by kernel_rfl)
theorem BL (x0:ai) (x1:Int):nw x0 x1=if (decide (w64 (x1+1)>60))=true then some 61 else (k6 x0.re).bind fun ra=>if (!ra)=true then some 61 else f8 (w64 (x1+1)) x0.fKids (len x0.fKids) 0:=
  (ab CC _ _ _ _).trans (by kernel_rfl)
theorem cN (x0 x1:List ai):ba x0 x1=if (len x0 !=len x1)=true then some (false) else aX x1 x0 (len x0) 0:=
  (ab CC _ _ _ _).trans (by kernel_rfl)
theorem rE (x0 x1:List UInt8):fK x0 x1=(eS x0 x1).bind fun ra=>some ra:=
  (ab CC _ _ _ _).trans (by kernel_rfl)
theorem BM (x0:List UInt8):qL x0=if (decide (len x0>4000))=true then some (([]),0,1) else (lL x0).bind fun ra=>if (!ra)=true then some (([]),0,1) else jn x0 0 ([]):=
  (ab CC _ _ _ _).trans (by kernel_rfl)
theorem Db : ue=some 4:=
  (ab CC _ _ _ _).trans (by kernel_rfl)
theorem Dc (x0:Int):A9 x0=if (x0==12)=true then some 5 else if (x0==13)=true then some 5 else if (x0==14)=true then jQ else if (x0==15)=true then jQ else if (x0==16)=true then jQ else if (x0==17)=true then jQ else if (x0==18)=true then jQ else Bc:=
  (ab CC _ _ _ _).trans (by kernel_rfl)
theorem Fk (x0:List UInt8):sD x0=if (decide (len x0<=200))=true then (lL x0).bind fun ra=>if ra=true then ((iP x0 ([39])):Option Bool).bind fun rb=>if rb=true then ((iP x0 ([34])):Option Bool).bind fun rc=>some (!rc) else some (true) else some (false) else some (false):=
  (ab CC _ _ _ _).trans (by kernel_rfl)
theorem xW (x0:List UInt8):fD x0=if (x0==[])=true then some [] else ((app ([58]) x0):Option (List UInt8)).bind fun ra=>some ra:=
  (ab CC _ _ _ _).trans (by kernel_rfl)
theorem xX (x0:List ai) (x1 x2:Int) (x3:List UInt8) (x4:List ai):hT x0 x1 x2 x3 x4=(lC x0).bind fun ra=>(k7 (ai.mk x1 x2 x3 x4)).bind fun rb=>(app ra.1.1 [rb]).bind fun rc=>some (((rc),()),()):=
  (ab CC _ _ _ _).trans (by kernel_rfl)
theorem gH (x0:(List (List av))) (x1:Int) (x2:(List (List av))) (x3 x4:Int):bS x0 x1 x2 x3 x4=if (decide (x4<x3))=true then (idx x2 x4).bind fun ra=>if (decide (w64 (x1+len ra)<0))=true then none else bS x0 (w64 (x1+len ra)) x2 x3 (w64 (x4+1)) else ((F0 x1):Option PUnit).bind fun ra=>bQ x0 (len x0) 0 ([]):=
  (ab CC _ _ _ _).trans (by kernel_rfl)
theorem v7 (x0:aj) (x1:Int):jl x0 x1=(kL x0 x1).bind fun ra=>if (!ra)=true then some (-1) else (idx x0.fStatements x1).bind fun rb=>if (rb.fLabel==[69,78,68])=true then some (-1) else some x1:=
  (ab CC _ _ _ _).trans (by kernel_rfl)
theorem xY (x0:aj) (x1:List UInt8):tz x0 x1=if (x1==[69,78,68])=true then some ((-1),0) else if (x1==[82,69,84,85,82,78])=true then some ((-2),0) else if (x1==[70,82,69,84,85,82,78])=true then some ((-3),0) else (eG x0 x1).bind fun ra=>if (decide (ra<0))=true then some (0,5) else (jl x0 ra).bind fun rb=>some ((rb),0):=
  (ab CC _ _ _ _).trans (by kernel_rfl)
theorem BN (x0:Int):ny x0=(cY x0 1 1000000).bind fun ra=>some ra:=
  (ab CC _ _ _ _).trans (by kernel_rfl)
theorem uw : iq=some (false):=
  (ab CC _ _ _ _).trans (by kernel_rfl)
theorem ia (x0:List ap):b7 x0=bE x0 (len x0) 0:=
  (ab CC _ _ _ _).trans (by kernel_rfl)
theorem uy (x0 x1:Int) (x2:List UInt8) (x3:Int) (x4 x5:List ap) (x6 x7:Int) (x8:List UInt8) (x9:Int):p5 x0 x1 x2 x3 x4 x5 x6 x7 x8 x9=if (x1==1)=true then (cY x3 (-1000) 1000).bind fun ra=>if ra=true then if (len x4==0)=true then if (x6==0&&(x7==0&&(x8==[]&&(x9==0&&true))))=true then some (x2==[]) else some (false) else some (false) else some (false) else if (x1==2)=true then if (len x4==len x5)=true then (b7 x4).bind fun rb=>if rb=true then (km x4).bind fun rc=>iu rc x0 x1 x2 x3 x4 x5 x6 x7 x8 x9 else iu (false) x0 x1 x2 x3 x4 x5 x6 x7 x8 x9 else iu (false) x0 x1 x2 x3 x4 x5 x6 x7 x8 x9 else if (x1==3)=true then if (decide (len x4>=1))=true then if (decide (len x4<=6))=true then if (len x4==len x5)=true then (dp x4).bind fun rd=>if rd=true then (km x4).bind fun re=>dN re x0 x1 x2 x3 x4 x5 x6 x7 x8 x9 else dN (false) x0 x1 x2 x3 x4 x5 x6 x7 x8 x9 else dN (false) x0 x1 x2 x3 x4 x5 x6 x7 x8 x9 else dN (false) x0 x1 x2 x3 x4 x5 x6 x7 x8 x9 else dN (false) x0 x1 x2 x3 x4 x5 x6 x7 x8 x9 else some (false):=
  (ab CC _ _ _ _).trans (by kernel_rfl)
theorem fy (x0:Int) (x1 x2:List am) (x3 x4:Int):aV x0 x1 x2 x3 x4=if (decide (x4<x3))=true then (idx x2 x4).bind fun ra=>(kn ra x0 x1).bind fun rb=>if (!rb)=true then some (false) else aV x0 x1 x2 x3 (w64 (x4+1)) else some (true):=
  (ab CC _ _ _ _).trans (by kernel_rfl)
theorem v8 (x0:ak):mr x0=some x0.fName:=
  (ab CC _ _ _ _).trans (by kernel_rfl)
theorem uz (x0:ah):kY x0=some x0.fName:=
  (ab CC _ _ _ _).trans (by kernel_rfl)
theorem BO (x0:ac):qM x0=some x0.fName:=
  (ab CC _ _ _ _).trans (by kernel_rfl)
theorem eE (x0:List ak) (x1 x2:Int):bD x0 x1 x2=if (decide (x2<x1))=true then (idx x0 x2).bind fun ra=>(gD ra).bind fun rb=>if (!rb)=true then some (false) else bD x0 x1 (w64 (x2+1)) else some (true):=
  (ab CC _ _ _ _).trans (by kernel_rfl)
theorem eu (x0:List ah) (x1 x2:Int):bn x0 x1 x2=if (decide (x2<x1))=true then (idx x0 x2).bind fun ra=>(fL ra).bind fun rb=>if (!rb)=true then some (false) else bn x0 x1 (w64 (x2+1)) else some (true):=
  (ab CC _ _ _ _).trans (by kernel_rfl)
theorem dP (x0:List ac) (x1 x2:Int):bc x0 x1 x2=if (decide (x2<x1))=true then (idx x0 x2).bind fun ra=>(eH ra).bind fun rb=>if (!rb)=true then some (false) else bc x0 x1 (w64 (x2+1)) else some (true):=
  (ab CC _ _ _ _).trans (by kernel_rfl)
theorem G8 (x0:List UInt8):Ba x0=some (decide (len x0<=200)):=
  (ab CC _ _ _ _).trans (by kernel_rfl)
theorem s6 (x0:List UInt8):jP x0=some (decide (len x0<=1300)):=
  (ab CC _ _ _ _).trans (by kernel_rfl)
theorem fN (x0:List aE) (x1 x2:Int):bu x0 x1 x2=if (decide (x2<x1))=true then (idx x0 x2).bind fun ra=>(ko ra).bind fun rb=>if (!rb)=true then some (false) else bu x0 x1 (w64 (x2+1)) else some (true):=
  (ab CC _ _ _ _).trans (by kernel_rfl)
theorem fO (x0:List aE) (x1:Int):bO x0 x1=if (decide (x1<len x0))=true then (idx x0 (w64 (x1-1))).bind fun ra=>(qP ra).bind fun rb=>(idx x0 x1).bind fun rc=>(qP rc).bind fun rd=>if (!Go.Op.bytesLess rb rd)=true then some (false) else bO x0 (w64 (x1+1)) else some (true):=
  (ab CC _ _ _ _).trans (by kernel_rfl)
theorem bo (x0:List am) (x1 x2 x3 x4:Int):aL x0 x1 x2 x3 x4=if (decide (x3<x4))=true then ((shr Go.IntKind.u64 (Go.IntKind.wrap Go.IntKind.u64 (w64 (x3+x4))) 1):Option Int).bind fun ra=>(idx x0 (w64 ra)).bind fun rb=>(oe rb x1).bind fun rc=>if (decide (rc<0))=true then aL x0 x1 x2 (w64 (w64 ra+1)) x4 else aL x0 x1 x2 x3 (w64 ra) else if (decide (x3<x2))=true then (idx x0 x3).bind fun rb=>(oe rb x1).bind fun rc=>some ((x3),(rc==0)) else some ((x3),(false)):=
  (ab CC _ _ _ _).trans (by kernel_rfl)
theorem jr (x0:List ak) (x1:Int) (x2:List am):dn x0 x1 x2=bK x1 x2 x0 (len x0) 0:=
  (ab CC _ _ _ _).trans (by kernel_rfl)
theorem qp (x0:aQ) (x1:ae):mu x0 x1=(qG x1.fPC (len x0.fCode.fInstrs)).bind fun ra=>if (!ra)=true then some (false) else if (x1.fPC==0)=true then some (false) else (idx x0.fCode.fInstrs (w64 (x1.fPC-1))).bind fun rb=>if (rb.fOp==13)=true then (kF x0.fCode (w64 (x1.fPC-1))).bind fun rc=>some (rc==x1.fAt) else some (false):=
  (ab CC _ _ _ _).trans (by kernel_rfl)
theorem fQ (x0:List Int) (x1 x2 x3 x4:Int):aY x0 x1 x2 x3 x4=if (decide (x3<x4))=true then ((shr Go.IntKind.u64 (Go.IntKind.wrap Go.IntKind.u64 (w64 (x3+x4))) 1):Option Int).bind fun ra=>(idx x0 (w64 ra)).bind fun rb=>(tB rb x1).bind fun rc=>if rc=true then aY x0 x1 x2 (w64 (w64 ra+1)) x4 else aY x0 x1 x2 x3 (w64 ra) else if (decide (x3<x2))=true then (idx x0 x3).bind fun rb=>if (rb==x1)=true then some ((x3),(true)) else (idx x0 x3).bind fun rd=>(jo rd).bind fun re=>if re=true then (jo x1).bind fun rf=>some ((x3),rf) else some ((x3),(false)) else some ((x3),(false)):=
  (ab CC _ _ _ _).trans (by kernel_rfl)
theorem wc (x0:List UInt8) (x1:Int):jm x0 x1=jk x0 (w64 (x1+1)):=
  (ab CC _ _ _ _).trans (by kernel_rfl)
theorem nF (x0:Int):mv x0=some x0:=
  (ab CC _ _ _ _).trans (by kernel_rfl)
theorem mA (x0 x1:Int) (x2:List UInt8) (x3:List ai) (x4 x5:Int):kH x0 x1 x2 x3 x4 x5=if (decide (x5<len x3))=true then if (decide (x4<=60))=true then (idx x3 x5).bind fun ra=>(vE ra.fKind ra.fNum ra.fText ra.fKids).bind fun rb=>kH x0 x1 x2 x3 (w64 (x4+rb)) (w64 (x5+1)) else some x4 else some x4:=
  (ab CC _ _ _ _).trans (by kernel_rfl)
theorem Fl (x0 x1:Int) (x2:List UInt8) (x3:List ai):xb x0 x1 x2 x3=if (x0==1)=true then if (x1==0)=true then if (len x3==0)=true then (r8 x2).bind fun ra=>some ra else some (false) else some (false) else if (x0==2)=true then if (x2==[])=true then if (len x3==0)=true then (dX x1 0 1000000000000).bind fun rb=>some rb else some (false) else some (false) else if (x0==3)=true then hU x0 x1 x2 x3 0 else if (x0==16)=true then hU x0 x1 x2 x3 0 else if (x0==17)=true then hU x0 x1 x2 x3 0 else if (x0==18)=true then hU x0 x1 x2 x3 0 else tC x0 x1 x2 x3 (false) x0:=
  (ab CC _ _ _ _).trans (by kernel_rfl)
theorem zQ (x0 x1:Int) (x2:List UInt8) (x3:List ai) (x4:Int):lJ x0 x1 x2 x3 x4=if (decide (x4<len x3))=true then (idx x3 x4).bind fun ra=>(oK ra.fKind ra.fNum ra.fText ra.fKids).bind fun rb=>if (!rb)=true then some (false) else lJ x0 x1 x2 x3 (w64 (x4+1)) else some (true):=
  (ab CC _ _ _ _).trans (by kernel_rfl)
theorem BP (x0 x1:Int) (x2:List UInt8) (x3:List ai) (x4 x5:Int) (x6:List UInt8) (x7:List ai) (x8:Int):qN x0 x1 x2 x3 x4 x5 x6 x7 x8=if (decide (x8<len x3))=true then (idx x3 x8).bind fun ra=>(idx x7 x8).bind fun rb=>(A6 ra.fKind ra.fNum ra.fText ra.fKids rb.fKind rb.fNum rb.fText rb.fKids).bind fun rc=>if (!rc)=true then some (false) else qN x0 x1 x2 x3 x4 x5 x6 x7 (w64 (x8+1)) else some (true):=
  (ab CC _ _ _ _).trans (by kernel_rfl)
theorem BQ (x0:List UInt8) (x1 x2 x3 x4 x5:Int) (x6:List UInt8) (x7 x8:Bool):yW x0 x1 x2 x3 x4 x5 x6 x7 x8=(idx x0 x3).bind fun ra=>nv x0 x1 (w64 (w64 (10*x2)+w64 (Go.IntKind.wrap Go.IntKind.u8 (ib ra-48)))) (w64 (x3+1)) x4 x5 x6 x7 x8:=
  (ab CC _ _ _ _).trans (by kernel_rfl)
theorem BR (x0 x1 x2 x3 x4:Int) (x5:List UInt8) (x6 x7:Bool):kI x0 x1 x2 x3 x4 x5 x6 x7=if (decide (w64 (x2-x0)>13))=true then some ((aN.mk (Int.ofNat 0) (Int.ofNat 0) [] false false),(-1)) else if (decide (x1>1000000000000))=true then some ((aN.mk (Int.ofNat 0) (Int.ofNat 0) [] false false),(-1)) else some ((aN.mk (Int.ofNat 2) x1 [] false false),x2):=
  (ab CC _ _ _ _).trans (by kernel_rfl)
theorem rF (x0 x1:Int) (x2:List UInt8) (x3 x4:Bool):kJ x0 x1 x2 x3 x4=some ((aN.mk (Int.ofNat 0) (Int.ofNat 0) [] false false),(-1)):=
  (ab CC _ _ _ _).trans (by kernel_rfl)
theorem BS (x0:List UInt8) (x1 x2 x3 x4:Int) (x5:List UInt8) (x6 x7:Bool):qO x0 x1 x2 x3 x4 x5 x6 x7=(cut x0 (w64 (x1+1)) (Option.getD (Option.some x2) (len x0))).bind fun ra=>some ((aN.mk (Int.ofNat 3) (Int.ofNat 0) ra false false),(w64 (x2+1))):=
  (ab CC _ _ _ _).trans (by kernel_rfl)
theorem s7 : bW=some (true):=
  (ab CC _ _ _ _).trans (by kernel_rfl)
theorem s8 : oM=some (false):=
  (ab CC _ _ _ _).trans (by kernel_rfl)
theorem uA (x0:List ap) (x1:Int):d5 x0 x1=if (decide (len x0>x1))=true then some (false) else dd x0 0:=
  (ab CC _ _ _ _).trans (by kernel_rfl)
theorem zR (x0:List ap):lK x0=dv x0 0:=
  (ab CC _ _ _ _).trans (by kernel_rfl)
theorem wd (x0:List ap):mw x0=dt x0 0:=
  (ab CC _ _ _ _).trans (by kernel_rfl)
theorem G9 (x0:Int) (x1:List am) (x2 x3:Int) (x4:List UInt8) (x5:Int) (x6 x7:List ap) (x8 x9:Int) (x10:List UInt8) (x11:Int):vF x0 x1 x2 x3 x4 x5 x6 x7 x8 x9 x10 x11=(pB x0 x1 x6).bind fun ra=>if ra=true then (pB x0 x1 x7).bind fun rb=>if rb=true then if (x3 !=2)=true then some (true) else (oI x0 x1 (ap.mk x8 x9 x10 x11)).bind fun rc=>some rc else some (false) else some (false):=
  (ab CC _ _ _ _).trans (by kernel_rfl)
theorem Fm (x0:ap) (x1 x2 x3:Bool):iF x0 x1 x2 x3=if x1=true then if x2=true then if x3=true then some (true) else some (x0.fRef==0) else if (x0.fText==[])=true then if x3=true then some (true) else some (x0.fRef==0) else some (false) else if (x0.fNum==0)=true then if x2=true then if x3=true then some (true) else some (x0.fRef==0) else if (x0.fText==[])=true then if x3=true then some (true) else some (x0.fRef==0) else some (false) else some (false):=
  (ab CC _ _ _ _).trans (by kernel_rfl)
theorem uB (x0 x1:Int) (x2:List UInt8) (x3:Int):ir x0 x1 x2 x3=(iF (ap.mk x0 x1 x2 x3) (false) (false) (true)).bind fun ra=>if ra=true then (dX x3 1 1000000).bind fun rb=>some rb else some (false):=
  (ab CC _ _ _ _).trans (by kernel_rfl)
theorem uC (x0 x1 x2:Int) (x3:List UInt8) (x4:Int):p6 x0 x1 x2 x3 x4=if (x0==7)=true then (iF (ap.mk x1 x2 x3 x4) (false) (true) (false)).bind fun ra=>if ra=true then (em x3).bind fun rb=>some rb else some (false) else if (x0==8)=true then (iF (ap.mk x1 x2 x3 x4) (false) (true) (false)).bind fun rc=>if rc=true then (em x3).bind fun rd=>some rd else some (false) else some (false):=
  (ab CC _ _ _ _).trans (by kernel_rfl)
theorem zS (x0:ah):pA x0=(em x0.fName).bind fun ra=>if (!ra)=true then fw else (em x0.fLabel).bind fun rb=>if (!rb)=true then fw else if (decide (len x0.fParams>6))=true then fw else if (decide (len x0.fLocals>6))=true then fw else p7 x0.fName x0.fParams x0.fLocals x0.fLabel:=
  (ab CC _ _ _ _).trans (by kernel_rfl)
theorem uD : kZ=some (false):=
  (ab CC _ _ _ _).trans (by kernel_rfl)
theorem uE (x0:Int) (x1:List ak) (x2:List ah) (x3:List ac):k5 x0 x1 x2 x3=fq (w64 (x0+1)) x1 x2 x3:=
  (ab CC _ _ _ _).trans (by kernel_rfl)
theorem uF (x0:Int) (x1:List ak) (x2:List ah) (x3:List ac):fu x0 x1 x2 x3=if (decide (x0<len x3))=true then (idx x3 x0).bind fun ra=>(Bd ra).bind fun rb=>if (!rb)=true then k8 else if (decide (x0>0))=true then (idx x3 (w64 (x0-1))).bind fun rc=>(idx x3 x0).bind fun rd=>if (!Go.Op.bytesLess rc.fName rd.fName)=true then k8 else k9 x0 x1 x2 x3 else k9 x0 x1 x2 x3 else some (true):=
  (ab CC _ _ _ _).trans (by kernel_rfl)
theorem Ha (x0:aE):Bb x0=(em x0.fName).bind fun ra=>if (!ra)=true then nz else (lT x0.fLines 40 200).bind fun rb=>if (!rb)=true then nz else (dX x0.fMode 0 3).bind fun rc=>if (!rc)=true then nz else yX x0.fName x0.fLines x0.fMode x0.fAt:=
  (ab CC _ _ _ _).trans (by kernel_rfl)
theorem Fo : xc=some (false):=
  (ab CC _ _ _ _).trans (by kernel_rfl)
theorem Fr (x0:(List (List UInt8))) (x1:Int) (x2:(List (List UInt8))) (x3:List aE) (x4:(List (List UInt8))) (x5:Int):xd x0 x1 x2 x3 x4 x5=lV x0 x1 x2 x3 x4 (w64 (x5+1)):=
  (ab CC _ _ _ _).trans (by kernel_rfl)
theorem rG (x0:Int) (x1:List am) (x2 x3:Int):iG x0 x1 x2 x3=if (decide (x3<len x1))=true then (idx x1 x3).bind fun ra=>if (ra.fId==x2)=true then some x3 else iG x0 x1 x2 (w64 (x3+1)) else some (-1):=
  (ab CC _ _ _ _).trans (by kernel_rfl)
theorem xZ : eA=some (0,1):=
  (ab CC _ _ _ _).trans (by kernel_rfl)
theorem ya (x0 x1 x2:Int) (x3:List UInt8):tA x0 x1 x2 x3=if (x0==8)=true then some (2,1) else if (x0==12)=true then some (2,1) else if (x0==9)=true then f9 else if (x0==10)=true then f9 else if (x0==11)=true then f9 else if (x0==15)=true then f9 else qQ x0 x1 x2 x3:=
  (ab CC _ _ _ _).trans (by kernel_rfl)
theorem BT (x0:Int):kK x0=(oJ x0).bind fun ra=>if ra=true then some (true) else (qR x0).bind fun rb=>if rb=true then some (true) else some (x0==95):=
  (ab CC _ _ _ _).trans (by kernel_rfl)
theorem uG (x0:ai):k6 x0=if (x0.fKind==1)=true then if (len x0.fKids==0)=true then if (x0.fNum==0)=true then (sD x0.fText).bind fun ra=>some ra else some (false) else some (false) else if (x0.fKind==2)=true then if (len x0.fKids==0)=true then if (x0.fText==[])=true then (xe x0.fNum).bind fun rb=>some rb else some (false) else some (false) else if (x0.fKind==3)=true then if (len x0.fKids==0)=true then if (x0.fNum==0)=true then (di x0.fText).bind fun rc=>some rc else some (false) else some (false) else (vC x0.fKind).bind fun ra=>if ra=true then if (len x0.fKids==0)=true then if (x0.fNum==0)=true then (di x0.fText).bind fun rd=>some rd else some (false) else some (false) else if (x0.fKind==4)=true then if (decide (len x0.fKids<=6))=true then if (x0.fNum==0)=true then (di x0.fText).bind fun re=>some re else some (false) else some (false) else if (x0.fNum !=0)=true then gN else if (!x0.fText==[])=true then gN else lj (len x0.fKids) x0.fKind x0.fNum x0.fText x0.fKids:=
  (ab CC _ _ _ _).trans (by kernel_rfl)
theorem nG (x0:Int) (x1:List ai) (x2 x3:Int):f8 x0 x1 x2 x3=if (decide (x3<x2))=true then (idx x1 x3).bind fun ra=>(nw ra.re x0).bind fun rb=>if (decide (rb>60))=true then some rb else f8 rb x1 x2 (w64 (x3+1)) else some x0:=
  (ab CC _ _ _ _).trans (by kernel_rfl)
theorem cA (x0 x1:List ai) (x2 x3:Int):aX x0 x1 x2 x3=if (decide (x3<x2))=true then (idx x1 x3).bind fun ra=>(idx x0 x3).bind fun rb=>(w9 ra.re rb.re).bind fun rc=>if (!rc)=true then some (false) else aX x0 x1 x2 (w64 (x3+1)) else some (true):=
  (ab CC _ _ _ _).trans (by kernel_rfl)
theorem iK (x0 x1:List UInt8):eS x0 x1=(dq x0 x1).bind fun ra=>if ra=true then (cut x0 (len x1) (Option.getD Option.none (len x0))).bind fun rb=>some rb else some x0:=
  (ab CC _ _ _ _).trans (by kernel_rfl)
theorem zT (x0:List UInt8):lL x0=(iH (List.map (fun (b:UInt8) ↦ ib b) x0)).bind fun ra=>some ra:=
  (ab CC _ _ _ _).trans (by kernel_rfl)
theorem js (x0:List UInt8) (x1:Int) (x2:List aN):jn x0 x1 x2=if (decide (x1<len x0))=true then (fg x0 x1).bind fun ra=>if (w64 (x1+ra)==len x0)=true then some ((x2),0,0) else (uf x0 (w64 (x1+ra))).bind fun rb=>(Aj rb.2.2 2).bind fun rc=>(Aj (decide (len x2<120)) 6).bind fun rd=>(Iy ([rc,rd])).bind fun re=>if (re !=0)=true then some (([]),(w64 (x1+ra)),re) else if (decide (ra>0))=true then if (w64 (w64 (x1+ra)+rb.2.1)==len x0)=true then ee x0 (w64 (w64 (x1+ra)+rb.2.1)) x2 (aN.fKind rb.1) (aN.fNum rb.1) (aN.fText rb.1) (true) (true) else (idx x0 (w64 (w64 (x1+ra)+rb.2.1))).bind fun rf=>ee x0 (w64 (w64 (x1+ra)+rb.2.1)) x2 (aN.fKind rb.1) (aN.fNum rb.1) (aN.fText rb.1) (true) (ib rf==32) else if (w64 (w64 (x1+ra)+rb.2.1)==len x0)=true then ee x0 (w64 (w64 (x1+ra)+rb.2.1)) x2 (aN.fKind rb.1) (aN.fNum rb.1) (aN.fText rb.1) (len x2==0) (true) else (idx x0 (w64 (w64 (x1+ra)+rb.2.1))).bind fun rf=>ee x0 (w64 (w64 (x1+ra)+rb.2.1)) x2 (aN.fKind rb.1) (aN.fNum rb.1) (aN.fText rb.1) (len x2==0) (ib rf==32) else some ((x2),0,0):=
  (ab CC _ _ _ _).trans (by kernel_rfl)
theorem Dd : jQ=some 6:=
  (ab CC _ _ _ _).trans (by kernel_rfl)
theorem De : Bc=some 7:=
  (ab CC _ _ _ _).trans (by kernel_rfl)
theorem uH (x0:ai):k7 x0=if (x0.fKind==1)=true then some (av.mk (Int.ofNat 2) (Int.ofNat 0) x0.fText) else if (x0.fKind==2)=true then some (av.mk (Int.ofNat 3) x0.fNum []) else if (x0.fKind==3)=true then some (av.mk (Int.ofNat 4) (Int.ofNat 0) x0.fText) else if (x0.fKind==16)=true then eI x0.fKind x0.fNum x0.fText x0.fKids 0 0 [] else if (x0.fKind==17)=true then eI x0.fKind x0.fNum x0.fText x0.fKids 0 0 [] else if (x0.fKind==18)=true then eI x0.fKind x0.fNum x0.fText x0.fKids 0 0 [] else lk x0.fKind x0.fKind x0.fNum x0.fText x0.fKids 0 0 []:=
  (ab CC _ _ _ _).trans (by kernel_rfl)
theorem gd (x0:(List (List av))) (x1 x2:Int) (x3:List av):bQ x0 x1 x2 x3=if (decide (x2<x1))=true then (idx x0 x2).bind fun ra=>(app x3 ra).bind fun rb=>bQ x0 x1 (w64 (x2+1)) rb else some (((x3),()),()):=
  (ab CC _ _ _ _).trans (by kernel_rfl)
theorem oR (x0:aj) (x1:Int):kL x0 x1=(qG x1 (len x0.fStatements)).bind fun ra=>some ra:=
  (ab CC _ _ _ _).trans (by kernel_rfl)
theorem ge (x0:List ap) (x1 x2:Int):bE x0 x1 x2=if (decide (x2<x1))=true then (idx x0 x2).bind fun ra=>(eo ra).bind fun rb=>if (!rb)=true then some (false) else bE x0 x1 (w64 (x2+1)) else some (true):=
  (ab CC _ _ _ _).trans (by kernel_rfl)
theorem yb (x0:List ap):km x0=dO x0 x0 (len x0) 0:=
  (ab CC _ _ _ _).trans (by kernel_rfl)
theorem uI (x0:Bool) (x1 x2:Int) (x3:List UInt8) (x4:Int) (x5 x6:List ap) (x7 x8:Int) (x9:List UInt8) (x10:Int):iu x0 x1 x2 x3 x4 x5 x6 x7 x8 x9 x10=if (x4==0)=true then if x0=true then (eo (ap.mk x7 x8 x9 x10)).bind fun ra=>if ra=true then some (x3==[]) else some (false) else some (false) else some (false):=
  (ab CC _ _ _ _).trans (by kernel_rfl)
theorem jt (x0:List ap):dp x0=bL x0 (len x0) 0:=
  (ab CC _ _ _ _).trans (by kernel_rfl)
theorem s9 (x0:Bool) (x1 x2:Int) (x3:List UInt8) (x4:Int) (x5 x6:List ap) (x7 x8:Int) (x9:List UInt8) (x10:Int):dN x0 x1 x2 x3 x4 x5 x6 x7 x8 x9 x10=if (x4==0)=true then if x0=true then if (x7==0&&(x8==0&&(x9==[]&&(x10==0&&true))))=true then (di x3).bind fun ra=>some ra else some (false) else some (false) else some (false):=
  (ab CC _ _ _ _).trans (by kernel_rfl)
theorem yc (x0:am) (x1:Int) (x2:List am):kn x0 x1 x2=(nA x0).bind fun ra=>(b0 ra.1.1 x1 x2).bind fun rb=>some rb:=
  (ab CC _ _ _ _).trans (by kernel_rfl)
theorem tc (x0:ak):gD x0=(di x0.fName).bind fun ra=>if ra=true then (eo x0.fValue).bind fun rb=>if rb=true then (EK x0.fValue).bind fun rc=>some (!rc) else some (false) else some (false):=
  (ab CC _ _ _ _).trans (by kernel_rfl)
theorem rH (x0:ah):fL x0=(dr ([x0.fParams,x0.fLocals])).bind fun ra=>if (decide (len x0.fParams<=6))=true then (di x0.fName).bind fun rb=>if rb=true then (di x0.fLabel).bind fun rc=>if rc=true then if (decide (len x0.fLocals<=6))=true then (dj ra).bind fun rd=>if rd=true then ((yQ ra):Option (List (List UInt8))).bind fun re=>((Im re):Option (List (List UInt8))).bind fun rf=>some (len rf==len ra) else some (false) else some (false) else some (false) else some (false) else (di x0.fName).bind fun rb=>if rb=true then (di x0.fLabel).bind fun rc=>if rc=true then some (false) else some (false) else some (false):=
  (ab CC _ _ _ _).trans (by kernel_rfl)
theorem pF (x0:ac):eH x0=(di x0.fName).bind fun ra=>if ra=true then (ug x0.fFields).bind fun rb=>some rb else some (false):=
  (ab CC _ _ _ _).trans (by kernel_rfl)
theorem yd (x0:aE):ko x0=if (decide (len x0.fLines<=40))=true then (ch x0.fLines).bind fun ra=>(cY x0.fAt 0 (len x0.fLines)).bind fun rb=>if rb=true then if (x0.fAt==0)=true then de ra (true) x0.fName x0.fLines x0.fMode x0.fAt else de ra (x0.fMode==1) x0.fName x0.fLines x0.fMode x0.fAt else de ra (false) x0.fName x0.fLines x0.fMode x0.fAt else (cY x0.fAt 0 (len x0.fLines)).bind fun ra=>if ra=true then if (x0.fAt==0)=true then de (false) (true) x0.fName x0.fLines x0.fMode x0.fAt else de (false) (x0.fMode==1) x0.fName x0.fLines x0.fMode x0.fAt else de (false) (false) x0.fName x0.fLines x0.fMode x0.fAt:=
  (ab CC _ _ _ _).trans (by kernel_rfl)
theorem BU (x0:aE):qP x0=some x0.fName:=
  (ab CC _ _ _ _).trans (by kernel_rfl)
theorem oS (x0:am) (x1:Int):oe x0 x1=(jR x0.fId x1).bind fun ra=>some ra:=
  (ab CC _ _ _ _).trans (by kernel_rfl)
theorem ic (x0:Int) (x1:List am) (x2:List ak) (x3 x4:Int):bK x0 x1 x2 x3 x4=if (decide (x4<x3))=true then (idx x2 x4).bind fun ra=>(kp (aJ.mk x0 x1) ra).bind fun rb=>if (!rb)=true then some (false) else bK x0 x1 x2 x3 (w64 (x4+1)) else some (true):=
  (ab CC _ _ _ _).trans (by kernel_rfl)
theorem ye (x0 x1:Int):tB x0 x1=(ga x0).bind fun ra=>if ra=true then (ga x1).bind fun rb=>if (!rb)=true then some (true) else some (decide (x0<x1)) else some (decide (x0<x1)):=
  (ab CC _ _ _ _).trans (by kernel_rfl)
end Go.Dv.U

namespace Go.Dv.U
open Go Go.Dv Go.Proofs
set_option maxRecDepth 100000
theorem rI (x0:Int):jo x0=some (x0 !=x0):=
  (ab CC _ _ _ _).trans (by kernel_rfl)
theorem yf (x0 x1:Int) (x2:List UInt8) (x3:List ai) (x4:Int):hU x0 x1 x2 x3 x4=dk x0 x1 x2 x3 x4 (true):=
  (ab CC _ _ _ _).trans (by kernel_rfl)
theorem yg (x0 x1:Int) (x2:List UInt8) (x3:List ai) (x4:Bool) (x5:Int):tC x0 x1 x2 x3 x4 x5=if (x5==4)=true then if (x1==0)=true then (em x2).bind fun ra=>if ra=true then some (decide (len x3<=6)) else some (false) else some (false) else if (x5==14)=true then dk x0 x1 x2 x3 1 x4 else if (x5==15)=true then dk x0 x1 x2 x3 1 x4 else if (x5==5)=true then dK x0 x1 x2 x3 x4 else if (x5==6)=true then dK x0 x1 x2 x3 x4 else if (x5==7)=true then dK x0 x1 x2 x3 x4 else if (x5==8)=true then dK x0 x1 x2 x3 x4 else if (x5==9)=true then dK x0 x1 x2 x3 x4 else if (x5==10)=true then dK x0 x1 x2 x3 x4 else if (x5==11)=true then dK x0 x1 x2 x3 x4 else tD x0 x1 x2 x3 x4 x5:=
  (ab CC _ _ _ _).trans (by kernel_rfl)
theorem qq (x0:List ap) (x1:Int):dd x0 x1=if (decide (x1<len x0))=true then (idx x0 x1).bind fun ra=>(f7 ra).bind fun rb=>if (!rb)=true then some (false) else dd x0 (w64 (x1+1)) else some (true):=
  (ab CC _ _ _ _).trans (by kernel_rfl)
theorem mB (x0:List ap) (x1:Int):dv x0 x1=if (decide (x1<len x0))=true then iv x0 x1 0 else some (true):=
  (ab CC _ _ _ _).trans (by kernel_rfl)
theorem kP (x0:List ap) (x1:Int):dt x0 x1=if (decide (x1<len x0))=true then (idx x0 x1).bind fun ra=>if (ra.fKind !=1)=true then some (false) else (idx x0 x1).bind fun rb=>(em rb.fText).bind fun rc=>if (!rc)=true then some (false) else dt x0 (w64 (x1+1)) else if (decide (len x0>=1))=true then (d5 x0 6).bind fun rd=>if rd=true then (lK x0).bind fun rc=>some rc else some (false) else some (false):=
  (ab CC _ _ _ _).trans (by kernel_rfl)
theorem Df (x0:Int) (x1:List am) (x2:List ap):pB x0 x1 x2=hY x0 x1 x2 0:=
  (ab CC _ _ _ _).trans (by kernel_rfl)
theorem uJ : fw=some (false):=
  (ab CC _ _ _ _).trans (by kernel_rfl)
theorem uK (x0:List UInt8) (x1:(List (List UInt8))) (x2:(List (List UInt8))) (x3:List UInt8):p7 x0 x1 x2 x3=((app [] x1):Option (List (List UInt8))).bind fun ra=>(app ra x2).bind fun rb=>(sE rb).bind fun rc=>some rc:=
  (ab CC _ _ _ _).trans (by kernel_rfl)
theorem Hb (x0:ac):Bd x0=(em x0.fName).bind fun ra=>if ra=true then (dX (len x0.fFields) 1 6).bind fun rb=>if rb=true then (sE x0.fFields).bind fun rc=>some rc else some (false) else some (false):=
  (ab CC _ _ _ _).trans (by kernel_rfl)
theorem uL : k8=some (false):=
  (ab CC _ _ _ _).trans (by kernel_rfl)
theorem uM (x0:Int) (x1:List ak) (x2:List ah) (x3:List ac):k9 x0 x1 x2 x3=fu (w64 (x0+1)) x1 x2 x3:=
  (ab CC _ _ _ _).trans (by kernel_rfl)
theorem BV : nz=some (false):=
  (ab CC _ _ _ _).trans (by kernel_rfl)
theorem BW (x0:List UInt8) (x1:(List (List UInt8))) (x2 x3:Int):yX x0 x1 x2 x3=(dX x3 0 (len x1)).bind fun ra=>if ra=true then if (x2==1)=true then some (true) else some (x3==0) else some (false):=
  (ab CC _ _ _ _).trans (by kernel_rfl)
theorem wg : f9=some (1,1):=
  (ab CC _ _ _ _).trans (by kernel_rfl)
theorem wh (x0 x1 x2:Int) (x3:List UInt8):qQ x0 x1 x2 x3=if (x0==13)=true then some ((x2),1) else if (x0==14)=true then some (1,0) else if (x0==17)=true then some (1,0) else if (x0==18)=true then jp else if (x0==20)=true then jp else if (x0==24)=true then jp else qS x0:=
  (ab CC _ _ _ _).trans (by kernel_rfl)
theorem Hc (x0:Int):qR x0=if (decide (x0>=48))=true then some (decide (x0<=57)) else some (false):=
  (ab CC _ _ _ _).trans (by kernel_rfl)
theorem Fs (x0:Int):xe x0=(cY x0 0 1000000000000).bind fun ra=>some ra:=
  (ab CC _ _ _ _).trans (by kernel_rfl)
theorem pG : gN=some (false):=
  (ab CC _ _ _ _).trans (by kernel_rfl)
theorem pH (x0 x1 x2:Int) (x3:List UInt8) (x4:List ai):lj x0 x1 x2 x3 x4=if (x1==12)=true then if (x0==2)=true then (idx x4 1).bind fun ra=>some (ra.fKind==3) else some (false) else if (x1==13)=true then if (x0==2)=true then (idx x4 1).bind fun rb=>some (rb.fKind==3) else some (false) else if (x1==14)=true then gO x0 else if (x1==15)=true then gO x0 else lm x0 x1 x2 x3 x4:=
  (ab CC _ _ _ _).trans (by kernel_rfl)
theorem ju (x0 x1:List UInt8):dq x0 x1=if (decide (len x0>=len x1))=true then (cut x0 0 (Option.getD (Option.some (len x1)) (len x0))).bind fun ra=>some (ra==x1) else some (false):=
  (ab CC _ _ _ _).trans (by kernel_rfl)
theorem mC (x0:List Int):iH x0=cR x0 (len x0) 0:=
  (ab CC _ _ _ _).trans (by kernel_rfl)
theorem mS (x0:List UInt8) (x1:Int):fg x0 x1=c8 x0 x1 x1:=
  (ab CC _ _ _ _).trans (by kernel_rfl)
theorem Dg (x0:List UInt8) (x1:Int):uf x0 x1=(idx x0 x1).bind fun ra=>(oJ (ib ra)).bind fun rb=>if rb=true then (gP x0 x1).bind fun rc=>(cut x0 x1 (Option.getD (Option.some (w64 (x1+rc))) (len x0))).bind fun rd=>some ((aN.mk (Int.ofNat 1) (Int.ofNat 0) rd false false),(rc),(decide (rc<=12))) else (qR (ib ra)).bind fun rc=>if rc=true then (jS x0 x1).bind fun re=>(cut x0 x1 (Option.getD (Option.some (w64 (x1+re))) (len x0))).bind fun rf=>((r0 rf):Option (Int×Bool)).bind fun rg=>some ((aN.mk (Int.ofNat 2) rg.1 [] false false),(re),rg.2) else if (ib ra==39)=true then (da x0 (w64 (x1+1)) (ib ra)).bind fun rh=>(cut x0 (w64 (x1+1)) (Option.getD (Option.some (w64 (w64 (x1+1)+rh))) (len x0))).bind fun rg=>if (decide (w64 (w64 (x1+1)+rh)<len x0))=true then some ((aN.mk (Int.ofNat 3) (Int.ofNat 0) rg false false),(w64 (rh+2)),(decide (rh<=200))) else some ((aN.mk (Int.ofNat 3) (Int.ofNat 0) rg false false),(w64 (rh+2)),(false)) else if (ib ra==34)=true then (da x0 (w64 (x1+1)) (ib ra)).bind fun ri=>(cut x0 (w64 (x1+1)) (Option.getD (Option.some (w64 (w64 (x1+1)+ri))) (len x0))).bind fun rj=>if (decide (w64 (w64 (x1+1)+ri)<len x0))=true then some ((aN.mk (Int.ofNat 3) (Int.ofNat 0) rj false false),(w64 (ri+2)),(decide (ri<=200))) else some ((aN.mk (Int.ofNat 3) (Int.ofNat 0) rj false false),(w64 (ri+2)),(false)) else ((jJ ([43,45,42,47,124,46,36,64,61]) (ib ra)):Option Int).bind fun rg=>if (decide (rg>=0))=true then ((chr (ib ra)):Option (List UInt8)).bind fun rk=>some ((aN.mk (Int.ofNat 4) (Int.ofNat 0) rk false false),1,(true)) else ((jJ ([40,41,60,62,44,58]) (ib ra)):Option Int).bind fun rk=>some ((aN.mk (w64 (5+rk)) (Int.ofNat 0) [] false false),1,(decide (rk>=0))):=
  (ab CC _ _ _ _).trans (by kernel_rfl)
theorem IW (x0:Bool) (x1:Int):Aj x0 x1=if x0=true then some 0 else some x1:=
  (ab CC _ _ _ _).trans (by kernel_rfl)
theorem KZ (x0:List Int):Iy x0=xf x0 (len x0) 0:=
  (ab CC _ _ _ _).trans (by kernel_rfl)
theorem uN (x0:List UInt8) (x1:Int) (x2:List aN) (x3 x4:Int) (x5:List UInt8) (x6 x7:Bool):ee x0 x1 x2 x3 x4 x5 x6 x7=(app x2 [aN.mk x3 x4 x5 x6 x7]).bind fun ra=>jn x0 x1 ra:=
  (ab CC _ _ _ _).trans (by kernel_rfl)
theorem pI (x0 x1:Int) (x2:List UInt8) (x3:List ai) (x4 x5:Int) (x6:List UInt8):eI x0 x1 x2 x3 x4 x5 x6=some (av.mk (w64 (w64 (x0-16)+5)) (Int.ofNat 0) x2):=
  (ab CC _ _ _ _).trans (by kernel_rfl)
theorem pJ (x0 x1 x2:Int) (x3:List UInt8) (x4:List ai) (x5 x6:Int) (x7:List UInt8):lk x0 x1 x2 x3 x4 x5 x6 x7=if (x0==4)=true then some (av.mk (Int.ofNat 13) (len x4) x3) else if (x0==5)=true then some (av.mk (Int.ofNat 12) (Int.ofNat 0) []) else if (x0==14)=true then some (av.mk (Int.ofNat 9) (Int.ofNat 0) []) else if (x0==15)=true then some (av.mk (Int.ofNat 10) (Int.ofNat 0) []) else if (x0==12)=true then (idx x4 1).bind fun ra=>some (av.mk (Int.ofNat 11) (w64 (w64 (x1-12)+21)) ra.fText) else if (x0==13)=true then (idx x4 1).bind fun rb=>some (av.mk (Int.ofNat 11) (w64 (w64 (x1-12)+21)) rb.fText) else some (av.mk (Int.ofNat 8) x1 []):=
  (ab CC _ _ _ _).trans (by kernel_rfl)
theorem lw (x0 x1:List ap) (x2 x3:Int):dO x0 x1 x2 x3=if (decide (x3<x2))=true then (idx x1 x3).bind fun ra=>(cut x0 0 (Option.getD (Option.some x3) (len x0))).bind fun rb=>(cL rb ra).bind fun rc=>if rc=true then some (false) else dO x0 x1 x2 (w64 (x3+1)) else some (true):=
  (ab CC _ _ _ _).trans (by kernel_rfl)
theorem ie (x0:List ap) (x1 x2:Int):bL x0 x1 x2=if (decide (x2<x1))=true then (idx x0 x2).bind fun ra=>(vG ra).bind fun rb=>if (!rb)=true then some (false) else bL x0 x1 (w64 (x2+1)) else some (true):=
  (ab CC _ _ _ _).trans (by kernel_rfl)
theorem rJ (x0:am):nA x0=(cz ([x0.fKeys,x0.fVals])).bind fun ra=>if (x0.fKind==2)=true then (app ra.1.1 [x0.fDefault]).bind fun rb=>some (((rb),()),()) else some ((ra.1.1,()),()):=
  (ab CC _ _ _ _).trans (by kernel_rfl)
theorem IX (x0:ap):EK x0=(Nd).bind fun ra=>some (x0.fKind==ra.fKind&&(x0.fNum==ra.fNum&&(x0.fText==ra.fText&&(x0.fRef==ra.fRef&&true)))):=
  (ab CC _ _ _ _).trans (by kernel_rfl)
theorem jv (x0:(List (List (List UInt8)))):dr x0=cS x0 0 x0 (len x0) 0:=
  (ab CC _ _ _ _).trans (by kernel_rfl)
theorem lN (x0:(List (List UInt8))):dj x0=cC x0 (len x0) 0:=
  (ab CC _ _ _ _).trans (by kernel_rfl)
theorem Dh (x0:(List (List UInt8))):ug x0=if (decide (len x0<1))=true then kr else if (decide (len x0>6))=true then kr else (dj x0).bind fun ra=>if (!ra)=true then kr else tE x0:=
  (ab CC _ _ _ _).trans (by kernel_rfl)
theorem td (x0 x1:Bool) (x2:List UInt8) (x3:(List (List UInt8))) (x4 x5:Int):de x0 x1 x2 x3 x4 x5=(di x2).bind fun ra=>if ra=true then if x0=true then if x1=true then if (x4==0)=true then some (true) else (J7 x4).bind fun rb=>some rb else some (false) else some (false) else some (false):=
  (ab CC _ _ _ _).trans (by kernel_rfl)
theorem tf (x0 x1:Int):jR x0 x1=(ga x0).bind fun ra=>(ga x1).bind fun rb=>if ra=true then if rb=true then some 0 else some (-1) else if rb=true then some 1 else if (decide (x0<x1))=true then some (-1) else if (decide (x0>x1))=true then some 1 else some 0:=
  (ab CC _ _ _ _).trans (by kernel_rfl)
theorem yh (x0:aJ) (x1:ak):kp x0 x1=(di x1.fName).bind fun ra=>if ra=true then (mf x0 x1.fValue).bind fun rb=>some rb else some (false):=
  (ab CC _ _ _ _).trans (by kernel_rfl)
theorem nH (x0:Int):ga x0=some (x0 !=x0):=
  (ab CC _ _ _ _).trans (by kernel_rfl)
theorem yi (x0 x1:Int) (x2:List UInt8) (x3:List ai) (x4:Int) (x5:Bool):dk x0 x1 x2 x3 x4 x5=if (x1==0)=true then if (len x3==x4)=true then if x5=true then (em x2).bind fun ra=>if ra=true then some (true) else if (!x5)=true then some (x2==[]) else some (false) else if (!x5)=true then some (x2==[]) else some (false) else some (false) else some (false):=
  (ab CC _ _ _ _).trans (by kernel_rfl)
theorem yj (x0 x1:Int) (x2:List UInt8) (x3:List ai) (x4:Bool):dK x0 x1 x2 x3 x4=dk x0 x1 x2 x3 2 x4:=
  (ab CC _ _ _ _).trans (by kernel_rfl)
theorem yk (x0 x1:Int) (x2:List UInt8) (x3:List ai) (x4:Bool) (x5:Int):tD x0 x1 x2 x3 x4 x5=if (x5==12)=true then if (len x3==2)=true then (idx x3 1).bind fun ra=>if (ra.fKind !=3)=true then og else dk x0 x1 x2 x3 2 x4 else dk x0 x1 x2 x3 2 x4 else if (x5==13)=true then if (len x3==2)=true then (idx x3 1).bind fun rb=>if (rb.fKind !=3)=true then og else dk x0 x1 x2 x3 2 x4 else dk x0 x1 x2 x3 2 x4 else some (false):=
  (ab CC _ _ _ _).trans (by kernel_rfl)
theorem mD (x0:List ap) (x1 x2:Int):iv x0 x1 x2=if (decide (x2<x1))=true then (idx x0 x1).bind fun ra=>(idx x0 x2).bind fun rb=>(uh ra rb).bind fun rc=>if rc=true then some (false) else iv x0 x1 (w64 (x2+1)) else dv x0 (w64 (x1+1)):=
  (ab CC _ _ _ _).trans (by kernel_rfl)
theorem yl (x0:Int) (x1:List am) (x2:List ap) (x3:Int):hY x0 x1 x2 x3=if (decide (x3<len x2))=true then (idx x2 x3).bind fun ra=>(oI x0 x1 ra).bind fun rb=>if (!rb)=true then some (false) else hY x0 x1 x2 (w64 (x3+1)) else some (true):=
  (ab CC _ _ _ _).trans (by kernel_rfl)
theorem Ft (x0:(List (List UInt8))):sE x0=lM x0 0:=
  (ab CC _ _ _ _).trans (by kernel_rfl)
theorem wj : jp=some (2,0):=
  (ab CC _ _ _ _).trans (by kernel_rfl)
theorem wk (x0:Int):qS x0=if (x0==19)=true then some (3,0) else if (x0==21)=true then some (1,2) else if (x0==23)=true then some (1,2) else if (x0==22)=true then my else if (x0==25)=true then my else qT x0:=
  (ab CC _ _ _ _).trans (by kernel_rfl)
theorem pK (x0:Int):gO x0=some (x0==1):=
  (ab CC _ _ _ _).trans (by kernel_rfl)
theorem pL (x0 x1 x2:Int) (x3:List UInt8) (x4:List ai):lm x0 x1 x2 x3 x4=if (x0==2)=true then if (x1==5)=true then some (true) else (xg x1).bind fun ra=>some ra else some (false):=
  (ab CC _ _ _ _).trans (by kernel_rfl)
theorem kQ (x0:List Int) (x1 x2:Int):cR x0 x1 x2=if (decide (x2<x1))=true then (idx x0 x2).bind fun ra=>(vH ra).bind fun rb=>if (!rb)=true then some (false) else cR x0 x1 (w64 (x2+1)) else some (true):=
  (ab CC _ _ _ _).trans (by kernel_rfl)
theorem lh (x0:List UInt8) (x1 x2:Int):c8 x0 x1 x2=if (decide (x2<len x0))=true then (idx x0 x2).bind fun ra=>(qU (ib ra)).bind fun rb=>if rb=true then c8 x0 x1 (w64 (x2+1)) else some (w64 (x2-x1)) else some (w64 (x2-x1)):=
  (ab CC _ _ _ _).trans (by kernel_rfl)
theorem pM (x0:List UInt8) (x1:Int):gP x0 x1=dI x0 x1 x1:=
  (ab CC _ _ _ _).trans (by kernel_rfl)
theorem tg (x0:List UInt8) (x1:Int):jS x0 x1=eJ x0 x1 x1:=
  (ab CC _ _ _ _).trans (by kernel_rfl)
theorem oi (x0:List UInt8) (x1 x2:Int):da x0 x1 x2=dl x0 x1 x2 x1:=
  (ab CC _ _ _ _).trans (by kernel_rfl)
theorem pN (x0:List Int) (x1 x2:Int):xf x0 x1 x2=if (decide (x2<x1))=true then (idx x0 x2).bind fun ra=>if (ra !=0)=true then some ra else xf x0 x1 (w64 (x2+1)) else some 0:=
  (ab CC _ _ _ _).trans (by kernel_rfl)
theorem gV (x0:List ap) (x1:ap):cL x0 x1=(eT x0 x1).bind fun ra=>some (decide (ra>=0)):=
  (ab CC _ _ _ _).trans (by kernel_rfl)
theorem Hd (x0:ap):vG x0=(EL x0.fText).bind fun ra=>if (x0.fKind==ra.fKind&&(x0.fNum==ra.fNum&&(x0.fText==ra.fText&&(x0.fRef==ra.fRef&&true))))=true then (di x0.fText).bind fun rb=>some rb else some (false):=
  (ab CC _ _ _ _).trans (by kernel_rfl)
theorem gI (x0:(List (List ap))):cz x0=cf x0 0 x0 (len x0) 0:=
  (ab CC _ _ _ _).trans (by kernel_rfl)
theorem Nf : Nd=(EL []).bind fun ra=>some ra:=
  (ab CC _ _ _ _).trans (by kernel_rfl)
theorem cq (x0:(List (List (List UInt8)))) (x1:Int) (x2:(List (List (List UInt8)))) (x3 x4:Int):cS x0 x1 x2 x3 x4=if (decide (x4<x3))=true then (idx x2 x4).bind fun ra=>if (decide (w64 (x1+len ra)<0))=true then none else cS x0 (w64 (x1+len ra)) x2 x3 (w64 (x4+1)) else ((MW x1):Option (List (List UInt8))).bind fun ra=>cM x0 (len x0) 0 ra:=
  (ab CC _ _ _ _).trans (by kernel_rfl)
theorem jU (x0:(List (List UInt8))) (x1 x2:Int):cC x0 x1 x2=if (decide (x2<x1))=true then (idx x0 x2).bind fun ra=>(di ra).bind fun rb=>if (!rb)=true then some (false) else cC x0 x1 (w64 (x2+1)) else some (true):=
  (ab CC _ _ _ _).trans (by kernel_rfl)
theorem ym : kr=some (false):=
  (ab CC _ _ _ _).trans (by kernel_rfl)
theorem yn (x0:(List (List UInt8))):tE x0=((yQ x0):Option (List (List UInt8))).bind fun ra=>((Im ra):Option (List (List UInt8))).bind fun rb=>some (len rb==len x0):=
  (ab CC _ _ _ _).trans (by kernel_rfl)
theorem IY (x0:Int):J7 x0=(cY x0 1 3).bind fun ra=>some ra:=
  (ab CC _ _ _ _).trans (by kernel_rfl)
theorem yp : og=some (false):=
  (ab CC _ _ _ _).trans (by kernel_rfl)
theorem Di (x0 x1:ap):uh x0 x1=some (x0.fKind==x1.fKind&&(x0.fNum==x1.fNum&&(x0.fText==x1.fText&&(x0.fRef==x1.fRef&&true)))):=
  (ab CC _ _ _ _).trans (by kernel_rfl)
theorem qc (x0:(List (List UInt8))) (x1:Int):lM x0 x1=if (decide (x1<len x0))=true then (idx x0 x1).bind fun ra=>(em ra).bind fun rb=>if (!rb)=true then some (false) else (idx x0 x1).bind fun rc=>(Iz x0 rc).bind fun rd=>if (rd !=x1)=true then some (false) else lM x0 (w64 (x1+1)) else some (true):=
  (ab CC _ _ _ _).trans (by kernel_rfl)
theorem wn : my=some (2,3):=
  (ab CC _ _ _ _).trans (by kernel_rfl)
theorem wo (x0:Int):qT x0=if (x0==26)=true then some (4,1) else some (0,0):=
  (ab CC _ _ _ _).trans (by kernel_rfl)
theorem Fu (x0:Int):xg x0=(cY x0 6 13).bind fun ra=>some ra:=
  (ab CC _ _ _ _).trans (by kernel_rfl)
theorem He (x0:Int):vH x0=if (decide (x0>=32))=true then some (decide (x0<=126)) else some (false):=
  (ab CC _ _ _ _).trans (by kernel_rfl)
theorem wq (x0:Int):qU x0=some (x0==32):=
  (ab CC _ _ _ _).trans (by kernel_rfl)
theorem mT (x0:List UInt8) (x1 x2:Int):dI x0 x1 x2=if (decide (x2<len x0))=true then (idx x0 x2).bind fun ra=>(kK (ib ra)).bind fun rb=>if rb=true then dI x0 x1 (w64 (x2+1)) else some (w64 (x2-x1)) else some (w64 (x2-x1)):=
  (ab CC _ _ _ _).trans (by kernel_rfl)
theorem pO (x0:List UInt8) (x1 x2:Int):eJ x0 x1 x2=if (decide (x2<len x0))=true then (idx x0 x2).bind fun ra=>(qR (ib ra)).bind fun rb=>if rb=true then eJ x0 x1 (w64 (x2+1)) else some (w64 (x2-x1)) else some (w64 (x2-x1)):=
  (ab CC _ _ _ _).trans (by kernel_rfl)
theorem lO (x0:List UInt8) (x1 x2 x3:Int):dl x0 x1 x2 x3=if (decide (x3<len x0))=true then (idx x0 x3).bind fun ra=>(tF (ib ra) x2).bind fun rb=>if rb=true then dl x0 x1 x2 (w64 (x3+1)) else some (w64 (x3-x1)) else some (w64 (x3-x1)):=
  (ab CC _ _ _ _).trans (by kernel_rfl)
theorem iL (x0:List ap) (x1:ap):eT x0 x1=aW x0 (len x0) 0 x1.fKind x1.fNum x1.fText x1.fRef:=
  (ab CC _ _ _ _).trans (by kernel_rfl)
theorem BX (x0:List UInt8):EL x0=some (ap.mk (Int.ofNat 1) (Int.ofNat 0) x0 (Int.ofNat 0)):=
  (ab CC _ _ _ _).trans (by kernel_rfl)
theorem bY (x0:(List (List ap))) (x1:Int) (x2:(List (List ap))) (x3 x4:Int):cf x0 x1 x2 x3 x4=if (decide (x4<x3))=true then (idx x2 x4).bind fun ra=>if (decide (w64 (x1+len ra)<0))=true then none else cf x0 (w64 (x1+len ra)) x2 x3 (w64 (x4+1)) else ((F0 x1):Option PUnit).bind fun ra=>cd x0 (len x0) 0 ([]):=
  (ab CC _ _ _ _).trans (by kernel_rfl)
theorem ck (x0:(List (List (List UInt8)))) (x1 x2:Int) (x3:(List (List UInt8))):cM x0 x1 x2 x3=if (decide (x2<x1))=true then (idx x0 x2).bind fun ra=>(app x3 ra).bind fun rb=>cM x0 x1 (w64 (x2+1)) rb else some x3:=
  (ab CC _ _ _ _).trans (by kernel_rfl)
theorem K0 (x0:(List (List UInt8))) (x1:List UInt8):Iz x0 x1=sF x0 x1 0:=
  (ab CC _ _ _ _).trans (by kernel_rfl)
theorem yq (x0 x1:Int):tF x0 x1=some (x0 !=x1):=
  (ab CC _ _ _ _).trans (by kernel_rfl)
theorem dD (x0:List ap) (x1 x2 x3 x4:Int) (x5:List UInt8) (x6:Int):aW x0 x1 x2 x3 x4 x5 x6=if (decide (x2<x1))=true then (idx x0 x2).bind fun ra=>if (x3==ra.fKind&&(x4==ra.fNum&&(x5==ra.fText&&(x6==ra.fRef&&true))))=true then some x2 else aW x0 x1 (w64 (x2+1)) x3 x4 x5 x6 else some (-1):=
  (ab CC _ _ _ _).trans (by kernel_rfl)
theorem bV (x0:(List (List ap))) (x1 x2:Int) (x3:List ap):cd x0 x1 x2 x3=if (decide (x2<x1))=true then (idx x0 x2).bind fun ra=>(app x3 ra).bind fun rb=>cd x0 x1 (w64 (x2+1)) rb else some (((x3),()),()):=
  (ab CC _ _ _ _).trans (by kernel_rfl)
theorem ws (x0:(List (List UInt8))) (x1:List UInt8) (x2:Int):sF x0 x1 x2=if (decide (x2<len x0))=true then (idx x0 x2).bind fun ra=>if (ra==x1)=true then some x2 else sF x0 x1 (w64 (x2+1)) else some (-1):=
  (ab CC _ _ _ _).trans (by kernel_rfl)
end Go.Dv.U
