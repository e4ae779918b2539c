/- The functions of the program as equations on plain data, each checked by the kernel. -/
import Derived.Test.YtpjcbihleclioaaGreatDoorFnProgramRoundEqa
set_option linter.all false
set_option linter.unusedVariables false
set_option linter.unusedSimpArgs false
namespace Go.Dv.U
open Go Go.Dv Go.Proofs
set_option maxRecDepth 100000
theorem mv (x0 x1:Int) (x2:List Int) (x3 x4 x5 x6:Int) (x7:List UInt8) (x8:List ab) (x9 x10:Int) (x11:List UInt8) (x12:List ab):iT x0 x1 x2 x3 x4 x5 x6 x7 x8 x9 x10 x11 x12=if (decide (x1>0))=true then (cR (w64 (x0-1)) x2 x3 x4).bind fun ra=>(app x12 [ra.1]).bind fun rb=>iT x0 (w64 (x1-1)) ra.2.1.1 ra.2.1.2.1 ra.2.1.2.2.1 x5 x6 x7 x8 x9 x10 x11 rb else some (((ab.mk x9 x10 x11 x12)),(((x2),(x3),(x4),()),())):=
  (ah CC _ _ _ _).trans (by kernel_rfl)
theorem pC (x0:List Int) (x1 x2:Int) (x3:List UInt8) (x4:Bool) (x5 x6:Int) (x7:List UInt8) (x8:Bool) (x9 x10:Int) (x11:List UInt8) (x12:Bool) (x13 x14:Int) (x15 x16 x17 x18:List UInt8) (x19 x20 x21:List ab) (x22:List UInt8) (x23:Bool) (x24 x25:Int) (x26:List UInt8) (x27:List ab) (x28:Bool) (x29 x30:Int) (x31:List UInt8) (x32:List ab) (x33:Bool) (x34 x35:Int) (x36:List UInt8) (x37:List ab) (x38 x39 x40:List UInt8):mq x0 x1 x2 x3 x4 x5 x6 x7 x8 x9 x10 x11 x12 x13 x14 x15 x16 x17 x18 x19 x20 x21 x22 x23 x24 x25 x26 x27 x28 x29 x30 x31 x32 x33 x34 x35 x36 x37 x38 x39 x40=(aZ 16 x0 x1 x2).bind fun ra=>if ra.1=true then (aw 5 ra.2.1.1 ra.2.1.2.1 ra.2.1.2.2.1).bind fun rb=>if (rb.1==0)=true then (aT ([[49,65],[65,66,67,68,69,70,71,72,73,74,75,76,77],[65,32,66],[95]]) rb.2.1.1 rb.2.1.2.1 rb.2.1.2.2.1).bind fun rc=>cZ rc.2.1.1 rc.2.1.2.1 rc.2.1.2.2.1 x3 x4 x5 x6 x7 x8 x9 x10 x11 x12 x13 x14 x15 x16 x17 x18 x19 x20 x21 rc.1 x23 x24 x25 x26 x27 x28 x29 x30 x31 x32 x33 x34 x35 x36 x37 x38 x39 x40 else if (rb.1==1)=true then cZ rb.2.1.1 rb.2.1.2.1 rb.2.1.2.2.1 x3 x4 x5 x6 x7 x8 x9 x10 x11 x12 x13 x14 x15 x16 x17 x18 x19 x20 x21 x22 (!x23) x24 x25 x26 x27 x28 x29 x30 x31 x32 x33 x34 x35 x36 x37 x38 x39 x40 else if (rb.1==2)=true then cZ rb.2.1.1 rb.2.1.2.1 rb.2.1.2.2.1 x3 x4 x5 x6 x7 x8 x9 x10 x11 x12 x13 x14 x15 x16 x17 x18 x19 x20 x21 x22 x23 x24 x25 x26 x27 (!x28) x29 x30 x31 x32 x33 x34 x35 x36 x37 x38 x39 x40 else if (rb.1==3)=true then (aw 20 rb.2.1.1 rb.2.1.2.1 rb.2.1.2.2.1).bind fun rd=>b7 rd.2.1.1 rd.2.1.2.1 rd.2.1.2.2.1 x3 x4 x5 x6 x7 x8 x9 x10 x11 x12 x13 x14 x15 x16 x17 x18 x19 x20 x21 x22 x23 x24 x25 x26 x27 x28 rd.1 0 [] x33 x34 x35 x36 x37 x38 x39 x40 ([]) else (aT ([[57],[65,43,66]]) rb.2.1.1 rb.2.1.2.1 rb.2.1.2.2.1).bind fun rd=>cZ rd.2.1.1 rd.2.1.2.1 rd.2.1.2.2.1 x3 x4 x5 x6 x7 x8 x9 x10 x11 x12 x13 x14 x15 x16 x17 x18 x19 x20 x21 x22 x23 x24 x25 x26 x27 x28 x29 x30 x31 x32 x33 x34 x35 x36 x37 x38 rd.1 x40 else cZ ra.2.1.1 ra.2.1.2.1 ra.2.1.2.2.1 x3 x4 x5 x6 x7 x8 x9 x10 x11 x12 x13 x14 x15 x16 x17 x18 x19 x20 x21 x22 x23 x24 x25 x26 x27 x28 x29 x30 x31 x32 x33 x34 x35 x36 x37 x38 x39 x40:=
  (ah CC _ _ _ _).trans (by kernel_rfl)
theorem pD (x0:List Int) (x1 x2:Int) (x3:List UInt8) (x4:Bool) (x5 x6:Int) (x7:List UInt8) (x8:Bool) (x9 x10:Int) (x11:List UInt8) (x12:Bool) (x13 x14:Int) (x15 x16 x17 x18:List UInt8) (x19 x20 x21:List ab) (x22:List UInt8) (x23:Bool) (x24 x25:Int) (x26:List UInt8) (x27:List ab) (x28:Bool) (x29 x30:Int) (x31:List UInt8) (x32:List ab) (x33:Bool) (x34 x35:Int) (x36 x37 x38 x39:List UInt8) (x40:List ab):mr x0 x1 x2 x3 x4 x5 x6 x7 x8 x9 x10 x11 x12 x13 x14 x15 x16 x17 x18 x19 x20 x21 x22 x23 x24 x25 x26 x27 x28 x29 x30 x31 x32 x33 x34 x35 x36 x37 x38 x39 x40=(aZ 16 x0 x1 x2).bind fun ra=>if ra.1=true then (aw 5 ra.2.1.1 ra.2.1.2.1 ra.2.1.2.2.1).bind fun rb=>if (rb.1==0)=true then (aT ([[49,65],[65,66,67,68,69,70,71,72,73,74,75,76,77],[65,32,66],[95]]) rb.2.1.1 rb.2.1.2.1 rb.2.1.2.2.1).bind fun rc=>da rc.2.1.1 rc.2.1.2.1 rc.2.1.2.2.1 x3 x4 x5 x6 x7 x8 x9 x10 x11 x12 x13 x14 x15 x16 x17 x18 x19 x20 x21 rc.1 x23 x24 x25 x26 x27 x28 x29 x30 x31 x32 x33 x34 x35 x36 x37 x38 x39 x40 else if (rb.1==1)=true then da rb.2.1.1 rb.2.1.2.1 rb.2.1.2.2.1 x3 x4 x5 x6 x7 x8 x9 x10 x11 x12 x13 x14 x15 x16 x17 x18 x19 x20 x21 x22 (!x23) x24 x25 x26 x27 x28 x29 x30 x31 x32 x33 x34 x35 x36 x37 x38 x39 x40 else if (rb.1==2)=true then da rb.2.1.1 rb.2.1.2.1 rb.2.1.2.2.1 x3 x4 x5 x6 x7 x8 x9 x10 x11 x12 x13 x14 x15 x16 x17 x18 x19 x20 x21 x22 x23 x24 x25 x26 x27 (!x28) x29 x30 x31 x32 x33 x34 x35 x36 x37 x38 x39 x40 else if (rb.1==3)=true then (aw 20 rb.2.1.1 rb.2.1.2.1 rb.2.1.2.2.1).bind fun rd=>b8 rd.2.1.1 rd.2.1.2.1 rd.2.1.2.2.1 x3 x4 x5 x6 x7 x8 x9 x10 x11 x12 x13 x14 x15 x16 x17 x18 x19 x20 x21 x22 x23 x24 x25 x26 x27 x28 rd.1 0 [] x33 x34 x35 x36 x37 x38 x39 ([]) x40 else (aT ([[57],[65,43,66]]) rb.2.1.1 rb.2.1.2.1 rb.2.1.2.2.1).bind fun rd=>da rd.2.1.1 rd.2.1.2.1 rd.2.1.2.2.1 x3 x4 x5 x6 x7 x8 x9 x10 x11 x12 x13 x14 x15 x16 x17 x18 x19 x20 x21 x22 x23 x24 x25 x26 x27 x28 x29 x30 x31 x32 x33 x34 x35 x36 x37 rd.1 x39 x40 else da ra.2.1.1 ra.2.1.2.1 ra.2.1.2.2.1 x3 x4 x5 x6 x7 x8 x9 x10 x11 x12 x13 x14 x15 x16 x17 x18 x19 x20 x21 x22 x23 x24 x25 x26 x27 x28 x29 x30 x31 x32 x33 x34 x35 x36 x37 x38 x39 x40:=
  (ah CC _ _ _ _).trans (by kernel_rfl)
theorem pE (x0:List Int) (x1 x2:Int) (x3:List UInt8) (x4:Bool) (x5 x6:Int) (x7:List UInt8) (x8:Bool) (x9 x10:Int) (x11:List UInt8) (x12:Bool) (x13 x14:Int) (x15 x16 x17 x18:List UInt8) (x19 x20 x21:List ab) (x22:List UInt8) (x23:Bool) (x24 x25:Int) (x26:List UInt8) (x27:List ab) (x28:Bool) (x29 x30:Int) (x31:List UInt8) (x32:Bool) (x33 x34:Int) (x35:List UInt8) (x36:List ab) (x37 x38 x39:List UInt8) (x40:List ab):mt x0 x1 x2 x3 x4 x5 x6 x7 x8 x9 x10 x11 x12 x13 x14 x15 x16 x17 x18 x19 x20 x21 x22 x23 x24 x25 x26 x27 x28 x29 x30 x31 x32 x33 x34 x35 x36 x37 x38 x39 x40=(aZ 16 x0 x1 x2).bind fun ra=>if ra.1=true then (aw 5 ra.2.1.1 ra.2.1.2.1 ra.2.1.2.2.1).bind fun rb=>if (rb.1==0)=true then (aT ([[49,65],[65,66,67,68,69,70,71,72,73,74,75,76,77],[65,32,66],[95]]) rb.2.1.1 rb.2.1.2.1 rb.2.1.2.2.1).bind fun rc=>b7 rc.2.1.1 rc.2.1.2.1 rc.2.1.2.2.1 x3 x4 x5 x6 x7 x8 x9 x10 x11 x12 x13 x14 x15 x16 x17 x18 x19 x20 x21 rc.1 x23 x24 x25 x26 x27 x28 x29 x30 x31 x32 x33 x34 x35 x36 x37 x38 x39 x40 else if (rb.1==1)=true then b7 rb.2.1.1 rb.2.1.2.1 rb.2.1.2.2.1 x3 x4 x5 x6 x7 x8 x9 x10 x11 x12 x13 x14 x15 x16 x17 x18 x19 x20 x21 x22 (!x23) x24 x25 x26 x27 x28 x29 x30 x31 x32 x33 x34 x35 x36 x37 x38 x39 x40 else if (rb.1==2)=true then b7 rb.2.1.1 rb.2.1.2.1 rb.2.1.2.2.1 x3 x4 x5 x6 x7 x8 x9 x10 x11 x12 x13 x14 x15 x16 x17 x18 x19 x20 x21 x22 x23 x24 x25 x26 x27 (!x28) x29 x30 x31 x32 x33 x34 x35 x36 x37 x38 x39 x40 else if (rb.1==3)=true then (aw 20 rb.2.1.1 rb.2.1.2.1 rb.2.1.2.2.1).bind fun rd=>b7 rd.2.1.1 rd.2.1.2.1 rd.2.1.2.2.1 x3 x4 x5 x6 x7 x8 x9 x10 x11 x12 x13 x14 x15 x16 x17 x18 x19 x20 x21 x22 x23 x24 x25 x26 x27 x28 rd.1 0 [] x32 x33 x34 x35 x36 x37 x38 x39 ([]) else (aT ([[57],[65,43,66]]) rb.2.1.1 rb.2.1.2.1 rb.2.1.2.2.1).bind fun rd=>b7 rd.2.1.1 rd.2.1.2.1 rd.2.1.2.2.1 x3 x4 x5 x6 x7 x8 x9 x10 x11 x12 x13 x14 x15 x16 x17 x18 x19 x20 x21 x22 x23 x24 x25 x26 x27 x28 x29 x30 x31 x32 x33 x34 x35 x36 x37 rd.1 x39 x40 else b7 ra.2.1.1 ra.2.1.2.1 ra.2.1.2.2.1 x3 x4 x5 x6 x7 x8 x9 x10 x11 x12 x13 x14 x15 x16 x17 x18 x19 x20 x21 x22 x23 x24 x25 x26 x27 x28 x29 x30 x31 x32 x33 x34 x35 x36 x37 x38 x39 x40:=
  (ah CC _ _ _ _).trans (by kernel_rfl)
theorem pF (x0:List Int) (x1 x2:Int) (x3:List UInt8) (x4:Bool) (x5 x6:Int) (x7:List UInt8) (x8:Bool) (x9 x10:Int) (x11:List UInt8) (x12:Bool) (x13 x14:Int) (x15 x16 x17 x18:List UInt8) (x19 x20 x21:List ab) (x22:List UInt8) (x23:Bool) (x24 x25:Int) (x26:List UInt8) (x27:List ab) (x28:Bool) (x29 x30:Int) (x31:List UInt8) (x32:Bool) (x33 x34:Int) (x35 x36 x37 x38:List UInt8) (x39 x40:List ab):mu x0 x1 x2 x3 x4 x5 x6 x7 x8 x9 x10 x11 x12 x13 x14 x15 x16 x17 x18 x19 x20 x21 x22 x23 x24 x25 x26 x27 x28 x29 x30 x31 x32 x33 x34 x35 x36 x37 x38 x39 x40=(aZ 16 x0 x1 x2).bind fun ra=>if ra.1=true then (aw 5 ra.2.1.1 ra.2.1.2.1 ra.2.1.2.2.1).bind fun rb=>if (rb.1==0)=true then (aT ([[49,65],[65,66,67,68,69,70,71,72,73,74,75,76,77],[65,32,66],[95]]) rb.2.1.1 rb.2.1.2.1 rb.2.1.2.2.1).bind fun rc=>b8 rc.2.1.1 rc.2.1.2.1 rc.2.1.2.2.1 x3 x4 x5 x6 x7 x8 x9 x10 x11 x12 x13 x14 x15 x16 x17 x18 x19 x20 x21 rc.1 x23 x24 x25 x26 x27 x28 x29 x30 x31 x32 x33 x34 x35 x36 x37 x38 x39 x40 else if (rb.1==1)=true then b8 rb.2.1.1 rb.2.1.2.1 rb.2.1.2.2.1 x3 x4 x5 x6 x7 x8 x9 x10 x11 x12 x13 x14 x15 x16 x17 x18 x19 x20 x21 x22 (!x23) x24 x25 x26 x27 x28 x29 x30 x31 x32 x33 x34 x35 x36 x37 x38 x39 x40 else if (rb.1==2)=true then b8 rb.2.1.1 rb.2.1.2.1 rb.2.1.2.2.1 x3 x4 x5 x6 x7 x8 x9 x10 x11 x12 x13 x14 x15 x16 x17 x18 x19 x20 x21 x22 x23 x24 x25 x26 x27 (!x28) x29 x30 x31 x32 x33 x34 x35 x36 x37 x38 x39 x40 else if (rb.1==3)=true then (aw 20 rb.2.1.1 rb.2.1.2.1 rb.2.1.2.2.1).bind fun rd=>b8 rd.2.1.1 rd.2.1.2.1 rd.2.1.2.2.1 x3 x4 x5 x6 x7 x8 x9 x10 x11 x12 x13 x14 x15 x16 x17 x18 x19 x20 x21 x22 x23 x24 x25 x26 x27 x28 rd.1 0 [] x32 x33 x34 x35 x36 x37 x38 ([]) x40 else (aT ([[57],[65,43,66]]) rb.2.1.1 rb.2.1.2.1 rb.2.1.2.2.1).bind fun rd=>b8 rd.2.1.1 rd.2.1.2.1 rd.2.1.2.2.1 x3 x4 x5 x6 x7 x8 x9 x10 x11 x12 x13 x14 x15 x16 x17 x18 x19 x20 x21 x22 x23 x24 x25 x26 x27 x28 x29 x30 x31 x32 x33 x34 x35 x36 rd.1 x38 x39 x40 else b8 ra.2.1.1 ra.2.1.2.1 ra.2.1.2.2.1 x3 x4 x5 x6 x7 x8 x9 x10 x11 x12 x13 x14 x15 x16 x17 x18 x19 x20 x21 x22 x23 x24 x25 x26 x27 x28 x29 x30 x31 x32 x33 x34 x35 x36 x37 x38 x39 x40:=
  (ah CC _ _ _ _).trans (by kernel_rfl)
theorem tF (x0:List Int) (x1 x2:Int) (x3:List UInt8) (x4:Bool) (x5 x6:Int) (x7:List UInt8) (x8:Bool) (x9 x10:Int) (x11:List UInt8) (x12:Bool) (x13 x14:Int) (x15 x16 x17 x18:List UInt8) (x19 x20 x21:List ab) (x22:List UInt8) (x23:Bool) (x24 x25:Int) (x26:List UInt8) (x27:Bool) (x28 x29:Int) (x30:List UInt8) (x31:Bool) (x32 x33:Int) (x34 x35 x36 x37:List UInt8) (x38 x39 x40:List ab):dM x0 x1 x2 x3 x4 x5 x6 x7 x8 x9 x10 x11 x12 x13 x14 x15 x16 x17 x18 x19 x20 x21 x22 x23 x24 x25 x26 x27 x28 x29 x30 x31 x32 x33 x34 x35 x36 x37 x38 x39 x40=some (((aa.mk x22 x23 (ab.mk x24 x25 x26 x38) x27 (ab.mk x28 x29 x30 x39) x31 (ab.mk x32 x33 x34 x40) (az.mk x35 x36 x37))),(((x0),(x1),(x2),()),())):=
  (ah CC _ _ _ _).trans (by kernel_rfl)
theorem tG (x0:az):lJ x0=db (len [x0.fAlways,x0.fSuccess,x0.fFailure]) 0 ([]) ([x0.fAlways,x0.fSuccess,x0.fFailure]):=
  (ah CC _ _ _ _).trans (by kernel_rfl)
theorem iz (x0:(List (List UInt8))):cY x0=bQ x0 (len x0) 0:=
  (ah CC _ _ _ _).trans (by kernel_rfl)
theorem A3 (x0:Bool) (x1:ab):qq x0 x1=if x0=true then (lN x1.re).bind fun ra=>some ra else (rA x1.re (ab.mk (Int.ofNat 0) (Int.ofNat 0) [] [])).bind fun ra=>some ra:=
  (ah CC _ _ _ _).trans (by kernel_rfl)
theorem mG : dN=some (false):=
  (ah CC _ _ _ _).trans (by kernel_rfl)
theorem mH (x0:List UInt8) (x1:Bool) (x2 x3:Int) (x4:List UInt8) (x5:List ab) (x6:Bool) (x7 x8:Int) (x9:List UInt8) (x10:List ab) (x11:Bool) (x12 x13:Int) (x14:List UInt8) (x15:List ab) (x16 x17 x18:List UInt8):jp x0 x1 x2 x3 x4 x5 x6 x7 x8 x9 x10 x11 x12 x13 x14 x15 x16 x17 x18=if (x0==[])=true then if (!x1)=true then if (x16==[]&&(x17==[]&&(x18==[]&&true)))=true then jr else cf x0 x1 x2 x3 x4 x5 x6 x7 x8 x9 x10 x11 x12 x13 x14 x15 x16 x17 x18 else cf x0 x1 x2 x3 x4 x5 x6 x7 x8 x9 x10 x11 x12 x13 x14 x15 x16 x17 x18 else cf x0 x1 x2 x3 x4 x5 x6 x7 x8 x9 x10 x11 x12 x13 x14 x15 x16 x17 x18:=
  (ah CC _ _ _ _).trans (by kernel_rfl)
theorem CW (x0:Int):vo x0=if (x0==6)=true then some 1 else if (x0==7)=true then some 2 else if (x0==8)=true then some 3 else if (x0==9)=true then some 3 else if (x0==10)=true then po else if (x0==11)=true then po else vt x0:=
  (ah CC _ _ _ _).trans (by kernel_rfl)
theorem tH (x0:List UInt8):lK x0=(k7 x0).bind fun ra=>if (!ra)=true then some [] else ((eo x0 ([39])):Option Bool).bind fun rb=>if rb=true then ((app ([34]) x0):Option (List UInt8)).bind fun rc=>(app rc ([34])).bind fun rd=>some rd else ((app ([39]) x0):Option (List UInt8)).bind fun rc=>(app rc ([39])).bind fun rd=>some rd:=
  (ah CC _ _ _ _).trans (by kernel_rfl)
theorem kg (x0:List ab) (x1 x2 x3 x4:Int) (x5:List UInt8) (x6:List ab) (x7:(List (List UInt8))):dA x0 x1 x2 x3 x4 x5 x6 x7=if (decide (x2<x1))=true then (idx x0 x2).bind fun ra=>(cy ra.re).bind fun rb=>(app x7 [rb]).bind fun rc=>dA x0 x1 (w64 (x2+1)) x3 x4 x5 x6 rc else (app x5 ([40])).bind fun ra=>((CO x7 ([44])):Option (List UInt8)).bind fun rd=>(app ra rd).bind fun rc=>(app rc ([41])).bind fun re=>some re:=
  (ah CC _ _ _ _).trans (by kernel_rfl)
theorem zP (x0:Int):nc x0=(lO x0 16 18).bind fun ra=>some ra:=
  (ah CC _ _ _ _).trans (by kernel_rfl)
theorem A4 (x0:Int):lL x0=((idx [[],[],[],[],[],[],[124],[],[43],[45],[42],[47],[46],[36],[45],[36],[46],[42],[64]] x0):Option (List UInt8)).bind fun ra=>some ra:=
  (ah CC _ _ _ _).trans (by kernel_rfl)
theorem wE (x0:az):jq x0=if (!x0.fAlways==[])=true then ((app ([58,40]) x0.fAlways):Option (List UInt8)).bind fun ra=>(app ra ([41])).bind fun rb=>some rb else if (!x0.fSuccess==[])=true then ((app ([83,40]) x0.fSuccess):Option (List UInt8)).bind fun rb=>(app rb ([41])).bind fun rc=>((app ([]) rc):Option (List UInt8)).bind fun rd=>if (!x0.fFailure==[])=true then ((app ([70,40]) x0.fFailure):Option (List UInt8)).bind fun re=>(app re ([41])).bind fun rf=>(app rd rf).bind fun rg=>d7 rg else d7 rd else if (!x0.fFailure==[])=true then ((app ([70,40]) x0.fFailure):Option (List UInt8)).bind fun rc=>(app rc ([41])).bind fun rd=>((app ([]) rd):Option (List UInt8)).bind fun rh=>d7 rh else d7 []:=
  (ah CC _ _ _ _).trans (by kernel_rfl)
theorem lU (x0:List UInt8):cC x0=some x0:=
  (ah CC _ _ _ _).trans (by kernel_rfl)
theorem A5 (x0:List UInt8):qr x0=if (!x0==[])=true then if (decide (len x0<=12))=true then (jX x0 0).bind fun ra=>some (ra==len x0) else some (false) else some (false):=
  (ah CC _ _ _ _).trans (by kernel_rfl)
theorem rM : kA=some (false):=
  (ah CC _ _ _ _).trans (by kernel_rfl)
theorem rN (x0 x1 x2:List UInt8):kB x0 x1 x2=(kX x0).bind fun ra=>if ra=true then (kX x1).bind fun rb=>if rb=true then (kX x2).bind fun rc=>some rc else some (false) else some (false):=
  (ah CC _ _ _ _).trans (by kernel_rfl)
theorem wF (x0:ab):vp x0=(A0 x0.fKind x0.fNum x0.fText x0.fKids).bind fun ra=>some ra:=
  (ah CC _ _ _ _).trans (by kernel_rfl)
theorem vI : nd=some (false):=
  (ah CC _ _ _ _).trans (by kernel_rfl)
theorem vJ (x0:List UInt8) (x1:Bool) (x2 x3:Int) (x4:List UInt8) (x5:List ab) (x6:Bool) (x7 x8:Int) (x9:List UInt8) (x10:List ab) (x11:Bool) (x12 x13:Int) (x14:List UInt8) (x15:List ab) (x16 x17 x18:List UInt8):nf x0 x1 x2 x3 x4 x5 x6 x7 x8 x9 x10 x11 x12 x13 x14 x15 x16 x17 x18=if (!x0==[])=true then some (true) else if x1=true then some (true) else some (!(x16==[]&&(x17==[]&&(x18==[]&&true)))):=
  (ah CC _ _ _ _).trans (by kernel_rfl)
theorem yi (x0 x1:Int) (x2:List UInt8) (x3:List ab):om x0 x1 x2 x3=if (x0==6)=true then some 1 else if (x0==7)=true then some 2 else if (x0==8)=true then some 3 else if (x0==9)=true then some 3 else if (x0==10)=true then kC else if (x0==11)=true then kC else oZ x0:=
  (ah CC _ _ _ _).trans (by kernel_rfl)
theorem tI (x0:List UInt8):lM x0=(oo x0).bind fun ra=>if (!ra)=true then some [] else (k8 x0 39).bind fun rb=>if rb=true then ((app ([34]) x0):Option (List UInt8)).bind fun rc=>(app rc ([34])).bind fun rd=>some rd else ((app ([39]) x0):Option (List UInt8)).bind fun rc=>(app rc ([39])).bind fun rd=>some rd:=
  (ah CC _ _ _ _).trans (by kernel_rfl)
theorem A6 (x0:Int):up x0=if (decide (x0<0))=true then (up (w64 (0-x0))).bind fun ra=>((app ([45]) ra):Option (List UInt8)).bind fun rb=>some rb else lP x0 []:=
  (ah CC _ _ _ _).trans (by kernel_rfl)
theorem lh (x0 x1:Int) (x2:List UInt8) (x3:List ab) (x4:List UInt8) (x5:Int):dn x0 x1 x2 x3 x4 x5=if (decide (x5<len x3))=true then if (decide (x5>0))=true then (app x4 ([44])).bind fun ra=>(idx x3 x5).bind fun rb=>(cO rb.fKind rb.fNum rb.fText rb.fKids).bind fun rc=>(app ra rc).bind fun rd=>dn x0 x1 x2 x3 rd (w64 (x5+1)) else (idx x3 x5).bind fun ra=>(cO ra.fKind ra.fNum ra.fText ra.fKids).bind fun re=>(app x4 re).bind fun rf=>dn x0 x1 x2 x3 rf (w64 (x5+1)) else (app x4 ([41])).bind fun rg=>some rg:=
  (ah CC _ _ _ _).trans (by kernel_rfl)
theorem zQ (x0:Int):vq x0=if (x0==6)=true then some [32,124,32] else if (x0==7)=true then some [32] else if (x0==8)=true then some [32,43,32] else if (x0==9)=true then some [32,45,32] else if (x0==10)=true then some [32,42,32] else if (x0==11)=true then some [32,47,32] else if (x0==12)=true then some [32,46,32] else some [32,36,32]:=
  (ah CC _ _ _ _).trans (by kernel_rfl)
theorem yj (x0:az):kY x0=(lG x0).bind fun ra=>if (!ra)=true then some [] else if (x0.fAlways==[]&&(x0.fSuccess==[]&&(x0.fFailure==[]&&true)))=true then some [] else if (!x0.fAlways==[])=true then ((app ([58,40]) x0.fAlways):Option (List UInt8)).bind fun rb=>(app rb ([41])).bind fun rc=>some rc else if (!x0.fSuccess==[])=true then ((app ([83,40]) x0.fSuccess):Option (List UInt8)).bind fun rc=>(app rc ([41])).bind fun rd=>((app ([58]) rd):Option (List UInt8)).bind fun re=>iW re x0.fAlways x0.fSuccess x0.fFailure else iW [58] x0.fAlways x0.fSuccess x0.fFailure:=
  (ah CC _ _ _ _).trans (by kernel_rfl)
theorem rO (x0:List UInt8):fh x0=some x0:=
  (ah CC _ _ _ _).trans (by kernel_rfl)
theorem iK (x0:List UInt8) (x1:Bool) (x2:Int):eH x0 x1 x2=if (decide (x2<len x0))=true then (idx x0 x2).bind fun ra=>if (decide (ib ra<32))=true then if x1=true then (idx x0 x2).bind fun rb=>if (!ib rb==10)=true then dB else eI x0 x1 x2 else dB else (idx x0 x2).bind fun rc=>if (decide (ib rc>126))=true then if x1=true then (idx x0 x2).bind fun rd=>if (!ib rd==10)=true then dB else eI x0 x1 x2 else dB else eI x0 x1 x2 else some (true):=
  (ah CC _ _ _ _).trans (by kernel_rfl)
theorem nx (x0:List UInt8) (x1:Int) (x2:Bool) (x3:List ae):dK x0 x1 x2 x3=if (decide (x1<len x0))=true then (idx x0 x1).bind fun ra=>if (ib ra==32)=true then dK x0 (w64 (x1+1)) (true) x3 else (yf x0 x1).bind fun rb=>if (decide (rb.2<0))=true then some (([]),(x1),2) else if (len x3==120)=true then some (([]),(x1),6) else if (rb.2==len x0)=true then (app x3 [ae.mk (ae.fKind rb.1) (ae.fNum rb.1) (ae.fText rb.1) x2 true]).bind fun rc=>dK x0 rb.2 (false) rc else (idx x0 rb.2).bind fun rc=>(app x3 [ae.mk (ae.fKind rb.1) (ae.fNum rb.1) (ae.fText rb.1) x2 (Decidable.rec (fun (h:¬ib rc=32) ↦ false) (fun (h:ib rc=32) ↦ true) (Int.instDecidableEq (ib rc) 32))]).bind fun rd=>dK x0 rb.2 (false) rd else if (decide (len x3>0))=true then (idx x3 (w64 (len x3-1))).bind fun re=>((x3[Int.toNat (w64 (len x3-1))]?):Option ae).bind fun rf=>some ((upd x3 (Int.toNat (w64 (len x3-1))) (ae.mk rf.fKind rf.fNum rf.fText rf.fBefore true)),0,0) else some ((x3),0,0):=
  (ah CC _ _ _ _).trans (by kernel_rfl)
theorem ii (x0:List Int) (x1 x2:Int):bY x0 x1 x2=if (decide (x2<x1))=true then (idx x0 x2).bind fun ra=>(qu ra).bind fun rb=>if (!rb)=true then some (false) else bY x0 x1 (w64 (x2+1)) else some (true):=
  (ah CC _ _ _ _).trans (by kernel_rfl)
theorem yk (x0:Int):kZ x0=if (decide (x0>=65))=true then if (decide (x0<=90))=true then some (true) else if (decide (x0>=97))=true then some (decide (x0<=122)) else some (false) else if (decide (x0>=97))=true then some (decide (x0<=122)) else some (false):=
  (ah CC _ _ _ _).trans (by kernel_rfl)
theorem ij (x0:List Int):cT x0=bN x0 (len x0) 0:=
  (ah CC _ _ _ _).trans (by kernel_rfl)
theorem gf (x0:List UInt8) (x1:Int) (x2:List ae):f8 x0 x1 x2=if (decide (x1<len x0))=true then (dO x0 x1).bind fun ra=>if (w64 (x1+ra)==len x0)=true then some ((x2),0,0) else (pp x0 (w64 (x1+ra))).bind fun rb=>(f9 rb.2.2 2).bind fun rc=>(f9 (decide (len x2<120)) 6).bind fun rd=>(pn ([rc,rd])).bind fun re=>if (re !=0)=true then some (([]),(w64 (x1+ra)),re) else if (decide (ra>0))=true then if (w64 (w64 (x1+ra)+rb.2.1)==len x0)=true then dc x0 (w64 (w64 (x1+ra)+rb.2.1)) x2 (ae.fKind rb.1) (ae.fNum rb.1) (ae.fText rb.1) (true) (true) else (idx x0 (w64 (w64 (x1+ra)+rb.2.1))).bind fun rf=>dc x0 (w64 (w64 (x1+ra)+rb.2.1)) x2 (ae.fKind rb.1) (ae.fNum rb.1) (ae.fText rb.1) (true) (ib rf==32) else if (w64 (w64 (x1+ra)+rb.2.1)==len x0)=true then dc x0 (w64 (w64 (x1+ra)+rb.2.1)) x2 (ae.fKind rb.1) (ae.fNum rb.1) (ae.fText rb.1) (len x2==0) (true) else (idx x0 (w64 (w64 (x1+ra)+rb.2.1))).bind fun rf=>dc x0 (w64 (w64 (x1+ra)+rb.2.1)) x2 (ae.fKind rb.1) (ae.fNum rb.1) (ae.fText rb.1) (len x2==0) (ib rf==32) else some ((x2),0,0):=
  (ah CC _ _ _ _).trans (by kernel_rfl)
theorem rP (x0:List ae) (x1:Int):d6 x0 x1=if (x1==len x0)=true then some (true) else (cK x0 x1 10).bind fun ra=>some ra:=
  (ah CC _ _ _ _).trans (by kernel_rfl)
theorem pG (x0:List ae) (x1:Int) (x2:List UInt8) (x3:Bool) (x4 x5:Int) (x6:List UInt8) (x7:List ab) (x8:Bool) (x9 x10:Int) (x11:List UInt8) (x12:List ab) (x13:Bool) (x14 x15:Int) (x16:List UInt8) (x17:List ab) (x18 x19 x20:List UInt8):fx x0 x1 x2 x3 x4 x5 x6 x7 x8 x9 x10 x11 x12 x13 x14 x15 x16 x17 x18 x19 x20=(dk 6 x0 x1).bind fun ra=>if (ra.1.2 !=0)=true then some ((ra.1.2),((ra.2.1.1,ra.2.1.2.1,()),((x2),(true),(ab.fKind ra.1.1),(ab.fNum ra.1.1),(ab.fText ra.1.1),(ab.fKids ra.1.1),(x8),(x9),(x10),(x11),(x12),(x13),(x14),(x15),(x16),(x17),(x18),(x19),(x20),()),())) else (d6 ra.2.1.1 ra.2.1.2.1).bind fun rb=>if (!rb)=true then (eJ ra.2.1.1 ra.2.1.2.1).bind fun rc=>if (!rc)=true then (idx ra.2.1.1 ra.2.1.2.1).bind fun rd=>if (!rd.fBefore)=true then some ((2),((ra.2.1.1,ra.2.1.2.1,()),((x2),(true),(ab.fKind ra.1.1),(ab.fNum ra.1.1),(ab.fText ra.1.1),(ab.fKids ra.1.1),(x8),(x9),(x10),(x11),(x12),(x13),(x14),(x15),(x16),(x17),(x18),(x19),(x20),()),())) else (dk 1 ra.2.1.1 ra.2.1.2.1).bind fun re=>if (re.1.2 !=0)=true then some ((re.1.2),((re.2.1.1,re.2.1.2.1,()),((x2),(true),(ab.fKind ra.1.1),(ab.fNum ra.1.1),(ab.fText ra.1.1),(ab.fKids ra.1.1),(true),(ab.fKind re.1.1),(ab.fNum re.1.1),(ab.fText re.1.1),(ab.fKids re.1.1),(x13),(x14),(x15),(x16),(x17),(x18),(x19),(x20),()),())) else dC re.2.1.1 re.2.1.2.1 x2 (true) (ab.fKind ra.1.1) (ab.fNum ra.1.1) (ab.fText ra.1.1) (ab.fKids ra.1.1) (true) (ab.fKind re.1.1) (ab.fNum re.1.1) (ab.fText re.1.1) (ab.fKids re.1.1) x13 x14 x15 x16 x17 x18 x19 x20 else dC ra.2.1.1 ra.2.1.2.1 x2 (true) (ab.fKind ra.1.1) (ab.fNum ra.1.1) (ab.fText ra.1.1) (ab.fKids ra.1.1) x8 x9 x10 x11 x12 x13 x14 x15 x16 x17 x18 x19 x20 else dC ra.2.1.1 ra.2.1.2.1 x2 (true) (ab.fKind ra.1.1) (ab.fNum ra.1.1) (ab.fText ra.1.1) (ab.fKids ra.1.1) x8 x9 x10 x11 x12 x13 x14 x15 x16 x17 x18 x19 x20:=
  (ah CC _ _ _ _).trans (by kernel_rfl)
theorem tJ (x0:Int) (x1:List ae) (x2:Int):a7 x0 x1 x2=(cK x1 x2 x0).bind fun ra=>if (!ra)=true then some (((false)),(((x1),(x2),()),())) else some (((true)),(((x1),(w64 (x2+1)),()),())):=
  (ah CC _ _ _ _).trans (by kernel_rfl)
theorem pH (x0:List ae) (x1:Int):dX x0 x1=(cK x0 x1 5).bind fun ra=>if ra=true then (dD x0 x1).bind fun rb=>some (((az.mk rb.1.1 [] []),rb.1.2),((rb.2.1.1,rb.2.1.2.1,()),())) else dP (false) x0 x1 [] [] [] [] [] []:=
  (ah CC _ _ _ _).trans (by kernel_rfl)
theorem cU (x0:Bool) (x1:List ae) (x2:Int) (x3:List UInt8) (x4:Bool) (x5 x6:Int) (x7:List UInt8) (x8:List ab) (x9:Bool) (x10 x11:Int) (x12:List UInt8) (x13:List ab) (x14:Bool) (x15 x16:Int) (x17:List UInt8) (x18:List ab) (x19 x20 x21:List UInt8):bg x0 x1 x2 x3 x4 x5 x6 x7 x8 x9 x10 x11 x12 x13 x14 x15 x16 x17 x18 x19 x20 x21=if x0=true then (f9 (x2==len x1) 2).bind fun ra=>some ((ra),(((x1),(x2),()),((x3),(x4),(x5),(x6),(x7),(x8),(x9),(x10),(x11),(x12),(x13),(x14),(x15),(x16),(x17),(x18),(x19),(x20),(x21),()),())) else (f9 (false) 2).bind fun ra=>some ((ra),(((x1),(x2),()),((x3),(x4),(x5),(x6),(x7),(x8),(x9),(x10),(x11),(x12),(x13),(x14),(x15),(x16),(x17),(x18),(x19),(x20),(x21),()),())):=
  (ah CC _ _ _ _).trans (by kernel_rfl)
theorem fI (x0:Bool) (x1:Int):f9 x0 x1=if x0=true then some 0 else some x1:=
  (ah CC _ _ _ _).trans (by kernel_rfl)
theorem rQ (x0:List Int):pn x0=rB x0 (len x0) 0:=
  (ah CC _ _ _ _).trans (by kernel_rfl)
theorem s8 (x0 x1:Int) (x2:List UInt8) (x3:List ab) (x4 x5:Int) (x6:List UInt8) (x7:List ab):qt x0 x1 x2 x3 x4 x5 x6 x7=if (x0 !=x4)=true then hU else if (x1 !=x5)=true then hU else if (!x2==x6)=true then hU else if (len x3 !=len x7)=true then hU else sZ x0 x1 x2 x3 x4 x5 x6 x7:=
  (ah CC _ _ _ _).trans (by kernel_rfl)
theorem tK (x0:List Int) (x1 x2:Int):iU x0 x1 x2=if (decide (x1<len x0))=true then (idx x0 x1).bind fun ra=>if (decide (w64 (x1+1)<=len x0))=true then some (((w64 ra)),(((x0),(w64 (x1+1)),(Go.IntKind.wrap Go.IntKind.u64 (Go.IntKind.wrap Go.IntKind.u64 (Go.IntKind.wrap Go.IntKind.u64 (x2*6364136223846793005)+Go.IntKind.wrap Go.IntKind.u64 (w64 ra))+1442695040888963407)),()),())) else ((shr Go.IntKind.u64 (Go.IntKind.wrap Go.IntKind.u64 (Go.IntKind.wrap Go.IntKind.u64 (Go.IntKind.wrap Go.IntKind.u64 (x2*6364136223846793005)+Go.IntKind.wrap Go.IntKind.u64 (w64 ra))+1442695040888963407)) 40):Option Int).bind fun rb=>some (((w64 (oT Go.BinOp.and Go.IntKind.u64 rb 255))),(((x0),(w64 (x1+1)),(Go.IntKind.wrap Go.IntKind.u64 (Go.IntKind.wrap Go.IntKind.u64 (Go.IntKind.wrap Go.IntKind.u64 (x2*6364136223846793005)+Go.IntKind.wrap Go.IntKind.u64 (w64 ra))+1442695040888963407)),()),())) else if (decide (w64 (x1+1)<=len x0))=true then some ((0),(((x0),(w64 (x1+1)),(Go.IntKind.wrap Go.IntKind.u64 (Go.IntKind.wrap Go.IntKind.u64 (Go.IntKind.wrap Go.IntKind.u64 (x2*6364136223846793005)+Go.IntKind.wrap Go.IntKind.u64 0)+1442695040888963407)),()),())) else ((shr Go.IntKind.u64 (Go.IntKind.wrap Go.IntKind.u64 (Go.IntKind.wrap Go.IntKind.u64 (Go.IntKind.wrap Go.IntKind.u64 (x2*6364136223846793005)+Go.IntKind.wrap Go.IntKind.u64 0)+1442695040888963407)) 40):Option Int).bind fun rc=>some (((w64 (oT Go.BinOp.and Go.IntKind.u64 rc 255))),(((x0),(w64 (x1+1)),(Go.IntKind.wrap Go.IntKind.u64 (Go.IntKind.wrap Go.IntKind.u64 (Go.IntKind.wrap Go.IntKind.u64 (x2*6364136223846793005)+Go.IntKind.wrap Go.IntKind.u64 0)+1442695040888963407)),()),())):=
  (ah CC _ _ _ _).trans (by kernel_rfl)
theorem ny (x0:Int) (x1:List Int) (x2 x3:Int) (x4 x5:List aa) (x6:List UInt8) (x7:Bool) (x8 x9:Int) (x10:List UInt8) (x11:List ab) (x12:Bool) (x13 x14:Int) (x15:List UInt8) (x16:List ab) (x17:Bool) (x18 x19:Int) (x20:List UInt8) (x21:List ab) (x22 x23 x24:List UInt8):ng x0 x1 x2 x3 x4 x5 x6 x7 x8 x9 x10 x11 x12 x13 x14 x15 x16 x17 x18 x19 x20 x21 x22 x23 x24=g9 x0 x1 x2 x3 x4 x5 [] x7 x8 x9 x10 x11 x12 x13 x14 x15 x16 x17 x18 x19 x20 x21 x22 x23 x24:=
  (ah CC _ _ _ _).trans (by kernel_rfl)
theorem vK (x0:Int) (x1:List Int) (x2 x3:Int) (x4 x5:List aa) (x6:List UInt8) (x7:Bool) (x8 x9:Int) (x10:List UInt8) (x11:List ab) (x12:Bool) (x13 x14:Int) (x15:List UInt8) (x16:List ab) (x17:Bool) (x18 x19:Int) (x20:List UInt8) (x21:List ab) (x22 x23 x24:List UInt8):g9 x0 x1 x2 x3 x4 x5 x6 x7 x8 x9 x10 x11 x12 x13 x14 x15 x16 x17 x18 x19 x20 x21 x22 x23 x24=(aZ 20 x1 x2 x3).bind fun ra=>if ra.1=true then (app x5 [aa.mk x6 x7 (ab.mk x8 x9 x10 x11) x12 (ab.mk x13 x14 x15 x16) x17 (ab.mk x18 x19 x20 x21) (az.mk x22 x23 x24)]).bind fun rb=>hY x0 ra.2.1.1 ra.2.1.2.1 ra.2.1.2.2.1 x4 rb else (dU (aa.mk x6 x7 (ab.mk x8 x9 x10 x11) x12 (ab.mk x13 x14 x15 x16) x17 (ab.mk x18 x19 x20 x21) (az.mk x22 x23 x24))).bind fun rc=>if rc=true then (app x5 [aa.mk x6 x7 (ab.mk x8 x9 x10 x11) x12 (ab.mk x13 x14 x15 x16) x17 (ab.mk x18 x19 x20 x21) (az.mk x22 x23 x24)]).bind fun rd=>hY x0 ra.2.1.1 ra.2.1.2.1 ra.2.1.2.2.1 x4 rd else hY x0 ra.2.1.1 ra.2.1.2.1 ra.2.1.2.2.1 x4 x5:=
  (ah CC _ _ _ _).trans (by kernel_rfl)
theorem tL (x0:List Int) (x1 x2:Int) (x3 x4:List aa):iV x0 x1 x2 x3 x4=(aw 4 x0 x1 x2).bind fun ra=>if (decide (len x4<w64 (79+ra.1)))=true then (app x4 [aa.mk [] true (ab.mk (Int.ofNat 3) (Int.ofNat 0) [65] []) false (ab.mk (Int.ofNat 0) (Int.ofNat 0) [] []) false (ab.mk (Int.ofNat 0) (Int.ofNat 0) [] []) (az.mk [] [] [])]).bind fun rb=>iV ra.2.1.1 ra.2.1.2.1 ra.2.1.2.2.1 x3 rb else some (((ak.mk x4)),((ra.2.1.1,ra.2.1.2.1,ra.2.1.2.2.1,()),())):=
  (ah CC _ _ _ _).trans (by kernel_rfl)
theorem dp (x0:List aa) (x1 x2:Int):aS x0 x1 x2=if (decide (x2<x1))=true then (idx x0 x2).bind fun ra=>(dV (aa.mk ra.fLabel ra.fHasSubject ra.fSubject.re ra.fHasPattern ra.fPattern.re ra.fHasReplace ra.fReplace.re ra.fGoto)).bind fun rb=>if (!rb)=true then some (false) else aS x0 x1 (w64 (x2+1)) else some (true):=
  (ah CC _ _ _ _).trans (by kernel_rfl)
theorem oF : gI=some (false):=
  (ah CC _ _ _ _).trans (by kernel_rfl)
theorem oG (x0:List aa) (x1 x2:Int) (x3:List aa):gJ x0 x1 x2 x3=dz x0 x1 (w64 (x2+1)) x3:=
  (ah CC _ _ _ _).trans (by kernel_rfl)
theorem dR (x0:List aa) (x1 x2:Int) (x3:List Int):a8 x0 x1 x2 x3=if (decide (x2<x1))=true then (idx x0 x2).bind fun ra=>(dW (aa.mk ra.fLabel ra.fHasSubject ra.fSubject.re ra.fHasPattern ra.fPattern.re ra.fHasReplace ra.fReplace.re ra.fGoto)).bind fun rb=>(app rb ([10])).bind fun rc=>(app x3 (List.map (fun (b:UInt8) ↦ ib b) rc)).bind fun rd=>a8 x0 x1 (w64 (x2+1)) rd else ((mS x3):Option (List UInt8)).bind fun ra=>some ra:=
  (ah CC _ _ _ _).trans (by kernel_rfl)
theorem fB (x0:List UInt8) (x1:Int) (x2:List aa):cj x0 x1 x2=if (decide (x1<len x2))=true then if (!x0==[])=true then (idx x2 x1).bind fun ra=>if (ra.fLabel==x0)=true then some x1 else cj x0 (w64 (x1+1)) x2 else cj x0 (w64 (x1+1)) x2 else some (-1):=
  (ah CC _ _ _ _).trans (by kernel_rfl)
theorem nA (x0:List UInt8) (x1:Int) (x2:List aa):hC x0 x1 x2=if (decide (x1<len x2))=true then (idx x2 x1).bind fun ra=>(kV (aa.mk ra.fLabel ra.fHasSubject ra.fSubject.re ra.fHasPattern ra.fPattern.re ra.fHasReplace ra.fReplace.re ra.fGoto)).bind fun rb=>(app rb ([10])).bind fun rc=>(app x0 rc).bind fun rd=>hC rd (w64 (x1+1)) x2 else some x0:=
  (ah CC _ _ _ _).trans (by kernel_rfl)
theorem nB (x0:(List (List UInt8))) (x1 x2:Int) (x3:List aP):hH x0 x1 x2 x3=if (decide (x2<x1))=true then (idx x0 x2).bind fun ra=>(iX ra).bind fun rb=>if rb=true then gb x0 x1 x2 x3 else (pq ra).bind fun rc=>if rc=true then gb x0 x1 x2 x3 else (iv ra).bind fun rd=>if (!rd)=true then (app x3 [aP.mk (w64 (x2+1)) ra]).bind fun re=>gb x0 x1 x2 re else if (len x3==0)=true then some (([]),(w64 (x2+1))) else (idx x3 (w64 (len x3-1))).bind fun rf=>((x3[Int.toNat (w64 (len x3-1))]?):Option aP).bind fun rg=>(cut ra 1 (Option.getD Option.none (len ra))).bind fun rh=>((app ([32]) rh):Option (List UInt8)).bind fun ri=>(app rg.fText ri).bind fun rj=>(idx x3 (w64 (len x3-1))).bind fun rk=>((x3[Int.toNat (w64 (len x3-1))]?):Option aP).bind fun rl=>gb x0 x1 x2 (upd x3 (Int.toNat (w64 (len x3-1))) (aP.mk rl.fNumber rj)) else some ((x3),0):=
  (ah CC _ _ _ _).trans (by kernel_rfl)
theorem oH (x0:List UInt8):gK x0=cD x0 0 0 (len x0) 0 ([]):=
  (ah CC _ _ _ _).trans (by kernel_rfl)
theorem ik (x0:List aP) (x1 x2:Int) (x3:(List (List UInt8))) (x4 x5:Int) (x6:List aP) (x7:Int) (x8:List UInt8):dj x0 x1 x2 x3 x4 x5 x6 x7 x8=if (decide (x5<x4))=true then (idx x3 x5).bind fun ra=>(iX ra).bind fun rb=>if (!rb)=true then (app x6 [aP.mk x7 ra]).bind fun rc=>dj x0 x1 x2 x3 x4 (w64 (x5+1)) rc x7 x8 else dj x0 x1 x2 x3 x4 (w64 (x5+1)) x6 x7 x8 else bH x0 x1 (w64 (x2+1)) x6:=
  (ah CC _ _ _ _).trans (by kernel_rfl)
theorem bK (x0:List aa) (x1:List UInt8):aV x0 x1=ap x0 x1 (len x0) 0:=
  (ah CC _ _ _ _).trans (by kernel_rfl)
theorem li (x0:List UInt8) (x1:Int) (x2:List Int) (x3 x4:Int) (x5:List aa):au x0 x1 x2 x3 x4 x5=cq x0 (w64 (x1+1)) x2 x3 x4 x5:=
  (ah CC _ _ _ _).trans (by kernel_rfl)
theorem nC (x0 x1:List UInt8):ga x0 x1=(dE x0 x1).bind fun ra=>some ra:=
  (ah CC _ _ _ _).trans (by kernel_rfl)
theorem rR (x0 x1:List Int) (x2 x3:Int):gV x0 x1 x2 x3=(aw (len x0) x1 x2 x3).bind fun ra=>(idx x0 ra.1).bind fun rb=>some ((rb),((ra.2.1.1,ra.2.1.2.1,ra.2.1.2.2.1,()),())):=
  (ah CC _ _ _ _).trans (by kernel_rfl)
theorem pI (x0:List Int) (x1 x2:Int) (x3:List UInt8) (x4:Bool) (x5 x6:Int) (x7:List UInt8) (x8:Bool) (x9 x10:Int) (x11:List UInt8) (x12:Bool) (x13 x14:Int) (x15 x16 x17 x18:List UInt8) (x19 x20 x21:List ab) (x22:List UInt8) (x23:Bool) (x24 x25:Int) (x26:List UInt8) (x27:List ab) (x28:Bool) (x29 x30:Int) (x31:List UInt8) (x32:List ab) (x33:Bool) (x34 x35:Int) (x36:List UInt8) (x37:List ab) (x38 x39 x40:List UInt8):cZ x0 x1 x2 x3 x4 x5 x6 x7 x8 x9 x10 x11 x12 x13 x14 x15 x16 x17 x18 x19 x20 x21 x22 x23 x24 x25 x26 x27 x28 x29 x30 x31 x32 x33 x34 x35 x36 x37 x38 x39 x40=some (((aa.mk x22 x23 (ab.mk x24 x25 x26 x27) x28 (ab.mk x29 x30 x31 x32) x33 (ab.mk x34 x35 x36 x37) (az.mk x38 x39 x40))),(((x0),(x1),(x2),()),())):=
  (ah CC _ _ _ _).trans (by kernel_rfl)
theorem pJ (x0:List Int) (x1 x2:Int) (x3:List UInt8) (x4:Bool) (x5 x6:Int) (x7:List UInt8) (x8:Bool) (x9 x10:Int) (x11:List UInt8) (x12:Bool) (x13 x14:Int) (x15 x16 x17 x18:List UInt8) (x19 x20 x21:List ab) (x22:List UInt8) (x23:Bool) (x24 x25:Int) (x26:List UInt8) (x27:List ab) (x28:Bool) (x29 x30:Int) (x31:List UInt8) (x32:Bool) (x33 x34:Int) (x35:List UInt8) (x36:List ab) (x37 x38 x39:List UInt8) (x40:List ab):b7 x0 x1 x2 x3 x4 x5 x6 x7 x8 x9 x10 x11 x12 x13 x14 x15 x16 x17 x18 x19 x20 x21 x22 x23 x24 x25 x26 x27 x28 x29 x30 x31 x32 x33 x34 x35 x36 x37 x38 x39 x40=some (((aa.mk x22 x23 (ab.mk x24 x25 x26 x27) x28 (ab.mk x29 x30 x31 x40) x32 (ab.mk x33 x34 x35 x36) (az.mk x37 x38 x39))),(((x0),(x1),(x2),()),())):=
  (ah CC _ _ _ _).trans (by kernel_rfl)
theorem pK (x0:List Int) (x1 x2:Int) (x3:List UInt8) (x4:Bool) (x5 x6:Int) (x7:List UInt8) (x8:Bool) (x9 x10:Int) (x11:List UInt8) (x12:Bool) (x13 x14:Int) (x15 x16 x17 x18:List UInt8) (x19 x20 x21:List ab) (x22:List UInt8) (x23:Bool) (x24 x25:Int) (x26:List UInt8) (x27:List ab) (x28:Bool) (x29 x30:Int) (x31:List UInt8) (x32:List ab) (x33:Bool) (x34 x35:Int) (x36 x37 x38 x39:List UInt8) (x40:List ab):da x0 x1 x2 x3 x4 x5 x6 x7 x8 x9 x10 x11 x12 x13 x14 x15 x16 x17 x18 x19 x20 x21 x22 x23 x24 x25 x26 x27 x28 x29 x30 x31 x32 x33 x34 x35 x36 x37 x38 x39 x40=some (((aa.mk x22 x23 (ab.mk x24 x25 x26 x27) x28 (ab.mk x29 x30 x31 x32) x33 (ab.mk x34 x35 x36 x40) (az.mk x37 x38 x39))),(((x0),(x1),(x2),()),())):=
  (ah CC _ _ _ _).trans (by kernel_rfl)
theorem pL (x0:List Int) (x1 x2:Int) (x3:List UInt8) (x4:Bool) (x5 x6:Int) (x7:List UInt8) (x8:Bool) (x9 x10:Int) (x11:List UInt8) (x12:Bool) (x13 x14:Int) (x15 x16 x17 x18:List UInt8) (x19 x20 x21:List ab) (x22:List UInt8) (x23:Bool) (x24 x25:Int) (x26:List UInt8) (x27:List ab) (x28:Bool) (x29 x30:Int) (x31:List UInt8) (x32:Bool) (x33 x34:Int) (x35 x36 x37 x38:List UInt8) (x39 x40:List ab):b8 x0 x1 x2 x3 x4 x5 x6 x7 x8 x9 x10 x11 x12 x13 x14 x15 x16 x17 x18 x19 x20 x21 x22 x23 x24 x25 x26 x27 x28 x29 x30 x31 x32 x33 x34 x35 x36 x37 x38 x39 x40=some (((aa.mk x22 x23 (ab.mk x24 x25 x26 x27) x28 (ab.mk x29 x30 x31 x39) x32 (ab.mk x33 x34 x35 x40) (az.mk x36 x37 x38))),(((x0),(x1),(x2),()),())):=
  (ah CC _ _ _ _).trans (by kernel_rfl)
theorem jx (x0 x1:Int) (x2:(List (List UInt8))) (x3:(List (List UInt8))):db x0 x1 x2 x3=if (decide (x1<x0))=true then (idx x3 x1).bind fun ra=>((x3[Int.toNat x1]?):Option (List UInt8)).bind fun rb=>if (!rb==[])=true then (app x2 [rb]).bind fun rc=>db x0 (w64 (x1+1)) rc x3 else db x0 (w64 (x1+1)) x2 x3 else some x2:=
  (ah CC _ _ _ _).trans (by kernel_rfl)
theorem gp (x0:(List (List UInt8))) (x1 x2:Int):bQ x0 x1 x2=if (decide (x2<x1))=true then (idx x0 x2).bind fun ra=>(kW ra).bind fun rb=>if (!rb)=true then some (false) else bQ x0 x1 (w64 (x2+1)) else some (true):=
  (ah CC _ _ _ _).trans (by kernel_rfl)
theorem wG (x0:ab):lN x0=(jY x0.re 0).bind fun ra=>some (decide (ra<=60)):=
  (ah CC _ _ _ _).trans (by kernel_rfl)
theorem yl (x0 x1:ab):rA x0 x1=if (x0.fKind==x1.fKind)=true then if (x0.fNum==x1.fNum)=true then if (x0.fText==x1.fText)=true then (aM x0.fKids x1.fKids).bind fun ra=>some ra else some (false) else some (false) else some (false):=
  (ah CC _ _ _ _).trans (by kernel_rfl)
theorem mI : jr=some (false):=
  (ah CC _ _ _ _).trans (by kernel_rfl)
theorem mJ (x0:List UInt8) (x1:Bool) (x2 x3:Int) (x4:List UInt8) (x5:List ab) (x6:Bool) (x7 x8:Int) (x9:List UInt8) (x10:List ab) (x11:Bool) (x12 x13:Int) (x14:List UInt8) (x15:List ab) (x16 x17 x18:List UInt8):cf x0 x1 x2 x3 x4 x5 x6 x7 x8 x9 x10 x11 x12 x13 x14 x15 x16 x17 x18=(dW (aa.mk x0 x1 (ab.mk x2 x3 x4 x5) x6 (ab.mk x7 x8 x9 x10) x11 (ab.mk x12 x13 x14 x15) (az.mk x16 x17 x18))).bind fun ra=>(ee ra x0).bind fun rb=>(jT rb).bind fun rc=>if (decide (len ra<=4000))=true then some (rc.2.2==0) else some (false):=
  (ah CC _ _ _ _).trans (by kernel_rfl)
theorem wH : po=some 4:=
  (ah CC _ _ _ _).trans (by kernel_rfl)
theorem wI (x0:Int):vt x0=if (x0==12)=true then some 5 else if (x0==13)=true then some 5 else if (x0==14)=true then gL else if (x0==15)=true then gL else if (x0==16)=true then gL else if (x0==17)=true then gL else if (x0==18)=true then gL else vu:=
  (ah CC _ _ _ _).trans (by kernel_rfl)
theorem ym (x0:List UInt8):k7 x0=if (decide (len x0<=200))=true then (eD x0).bind fun ra=>if ra=true then ((eo x0 ([39])):Option Bool).bind fun rb=>if rb=true then ((eo x0 ([34])):Option Bool).bind fun rc=>some (!rc) else some (true) else some (false) else some (false):=
  (ah CC _ _ _ _).trans (by kernel_rfl)
theorem A7 (x0 x1 x2:Int):lO x0 x1 x2=if (decide (x0>=x1))=true then some (decide (x0<=x2)) else some (false):=
  (ah CC _ _ _ _).trans (by kernel_rfl)
theorem rS (x0:List UInt8):d7 x0=if (x0==[])=true then some [] else ((app ([58]) x0):Option (List UInt8)).bind fun ra=>some ra:=
  (ah CC _ _ _ _).trans (by kernel_rfl)
theorem vL (x0:List UInt8) (x1:Int):jX x0 x1=if (decide (x1>=len x0))=true then some x1 else (idx x0 x1).bind fun ra=>(js (ib ra)).bind fun rb=>if (!rb)=true then some x1 else gc x0 x1:=
  (ah CC _ _ _ _).trans (by kernel_rfl)
theorem CX (x0 x1:Int) (x2:List UInt8) (x3:List ab):A0 x0 x1 x2 x3=(qv x0 x1 x2 x3).bind fun ra=>if (decide (ra<=60))=true then (k9 x0 x1 x2 x3).bind fun rb=>some rb else some (false):=
  (ah CC _ _ _ _).trans (by kernel_rfl)
theorem rT : kC=some 4:=
  (ah CC _ _ _ _).trans (by kernel_rfl)
theorem rU (x0:Int):oZ x0=if (x0==12)=true then some 5 else if (x0==13)=true then some 5 else if (x0==14)=true then d8 else if (x0==15)=true then d8 else if (x0==16)=true then d8 else if (x0==17)=true then d8 else if (x0==18)=true then d8 else o4:=
  (ah CC _ _ _ _).trans (by kernel_rfl)
theorem yn (x0:List UInt8):oo x0=if (decide (len x0<=200))=true then (fg x0 (false)).bind fun ra=>if ra=true then (k8 x0 39).bind fun rb=>if rb=true then (k8 x0 34).bind fun rc=>some (!rc) else some (true) else some (false) else some (false):=
  (ah CC _ _ _ _).trans (by kernel_rfl)
theorem yp (x0:List UInt8) (x1:Int):k8 x0 x1=iY x0 x1 0:=
  (ah CC _ _ _ _).trans (by kernel_rfl)
theorem kG (x0:Int) (x1:List UInt8):lP x0 x1=if (decide (x0>=10))=true then ((rem x0 10):Option Int).bind fun ra=>(app (List.map (fun (n:Int) ↦ UInt8.ofNat (Int.toNat n)) [Go.IntKind.wrap Go.IntKind.u8 (w64 (48+ra))]) x1).bind fun rb=>((quo Go.IntKind.i64 x0 10):Option Int).bind fun rc=>lP rc rb else (app (List.map (fun (n:Int) ↦ UInt8.ofNat (Int.toNat n)) [Go.IntKind.wrap Go.IntKind.u8 (w64 (48+x0))]) x1).bind fun ra=>some ra:=
  (ah CC _ _ _ _).trans (by kernel_rfl)
theorem tM (x0 x1 x2 x3:List UInt8):iW x0 x1 x2 x3=if (!x3==[])=true then ((app ([70,40]) x3):Option (List UInt8)).bind fun ra=>(app ra ([41])).bind fun rb=>(app x0 rb).bind fun rc=>some rc else some x0:=
  (ah CC _ _ _ _).trans (by kernel_rfl)
theorem oI : dB=some (false):=
  (ah CC _ _ _ _).trans (by kernel_rfl)
theorem oJ (x0:List UInt8) (x1:Bool) (x2:Int):eI x0 x1 x2=eH x0 x1 (w64 (x2+1)):=
  (ah CC _ _ _ _).trans (by kernel_rfl)
theorem A8 (x0:List UInt8) (x1:Int):yf x0 x1=(idx x0 x1).bind fun ra=>(js (ib ra)).bind fun rb=>if rb=true then (jX x0 x1).bind fun rc=>if (decide (w64 (rc-x1)>12))=true then some ((ae.mk (Int.ofNat 0) (Int.ofNat 0) [] false false),(-1)) else (cut x0 x1 (Option.getD (Option.some rc) (len x0))).bind fun rd=>some ((ae.mk (Int.ofNat 1) (Int.ofNat 0) rd false false),rc) else (lc (ib ra)).bind fun rc=>if rc=true then jZ x0 x1 0 x1 0 0 [] (false) (false) else if (ib ra==39)=true then fQ x0 x1 (ib ra) (w64 (x1+1)) 0 0 [] (false) (false) else if (ib ra==34)=true then fQ x0 x1 (ib ra) (w64 (x1+1)) 0 0 [] (false) (false) else (lQ (ib ra)).bind fun re=>if re=true then (cut x0 x1 (Option.getD (Option.some (w64 (x1+1))) (len x0))).bind fun rf=>some ((ae.mk (Int.ofNat 4) (Int.ofNat 0) rf false false),(w64 (x1+1))) else ep x1 (ib ra) [40,41,60,62,44,58] 0 0 0 [] (false) (false):=
  (ah CC _ _ _ _).trans (by kernel_rfl)
theorem zR (x0:Int):qu x0=if (decide (x0>=32))=true then some (decide (x0<=126)) else some (false):=
  (ah CC _ _ _ _).trans (by kernel_rfl)
theorem gg (x0:List Int) (x1 x2:Int):bN x0 x1 x2=if (decide (x2<x1))=true then (idx x0 x2).bind fun ra=>(ia ra).bind fun rb=>if (!rb)=true then some (false) else bN x0 x1 (w64 (x2+1)) else some (true):=
  (ah CC _ _ _ _).trans (by kernel_rfl)
theorem jI (x0:List UInt8) (x1:Int):dO x0 x1=ca x0 x1 x1:=
  (ah CC _ _ _ _).trans (by kernel_rfl)
theorem wJ (x0:List UInt8) (x1:Int):pp x0 x1=(idx x0 x1).bind fun ra=>(kZ (ib ra)).bind fun rb=>if rb=true then (eT x0 x1).bind fun rc=>(cut x0 x1 (Option.getD (Option.some (w64 (x1+rc))) (len x0))).bind fun rd=>some ((ae.mk (Int.ofNat 1) (Int.ofNat 0) rd false false),(rc),(decide (rc<=12))) else (nh (ib ra)).bind fun rc=>if rc=true then (gM x0 x1).bind fun re=>(cut x0 x1 (Option.getD (Option.some (w64 (x1+re))) (len x0))).bind fun rf=>((oj rf):Option (Int×Bool)).bind fun rg=>some ((ae.mk (Int.ofNat 2) rg.1 [] false false),(re),rg.2) else if (ib ra==39)=true then (cb x0 (w64 (x1+1)) (ib ra)).bind fun rh=>(cut x0 (w64 (x1+1)) (Option.getD (Option.some (w64 (w64 (x1+1)+rh))) (len x0))).bind fun rg=>if (decide (w64 (w64 (x1+1)+rh)<len x0))=true then some ((ae.mk (Int.ofNat 3) (Int.ofNat 0) rg false false),(w64 (rh+2)),(decide (rh<=200))) else some ((ae.mk (Int.ofNat 3) (Int.ofNat 0) rg false false),(w64 (rh+2)),(false)) else if (ib ra==34)=true then (cb x0 (w64 (x1+1)) (ib ra)).bind fun ri=>(cut x0 (w64 (x1+1)) (Option.getD (Option.some (w64 (w64 (x1+1)+ri))) (len x0))).bind fun rj=>if (decide (w64 (w64 (x1+1)+ri)<len x0))=true then some ((ae.mk (Int.ofNat 3) (Int.ofNat 0) rj false false),(w64 (ri+2)),(decide (ri<=200))) else some ((ae.mk (Int.ofNat 3) (Int.ofNat 0) rj false false),(w64 (ri+2)),(false)) else ((gF ([43,45,42,47,124,46,36,64,61]) (ib ra)):Option Int).bind fun rg=>if (decide (rg>=0))=true then ((chr (ib ra)):Option (List UInt8)).bind fun rk=>some ((ae.mk (Int.ofNat 4) (Int.ofNat 0) rk false false),1,(true)) else ((gF ([40,41,60,62,44,58]) (ib ra)):Option Int).bind fun rk=>some ((ae.mk (w64 (5+rk)) (Int.ofNat 0) [] false false),1,(decide (rk>=0))):=
  (ah CC _ _ _ _).trans (by kernel_rfl)
theorem pM (x0:List UInt8) (x1:Int) (x2:List ae) (x3 x4:Int) (x5:List UInt8) (x6 x7:Bool):dc x0 x1 x2 x3 x4 x5 x6 x7=(app x2 [ae.mk x3 x4 x5 x6 x7]).bind fun ra=>f8 x0 x1 ra:=
  (ah CC _ _ _ _).trans (by kernel_rfl)
theorem vM (x0:List ae) (x1 x2:Int):cK x0 x1 x2=if (decide (x1<len x0))=true then (idx x0 x1).bind fun ra=>some (ra.fKind==x2) else some (false):=
  (ah CC _ _ _ _).trans (by kernel_rfl)
theorem tN (x0:Int) (x1:List ae) (x2:Int):dk x0 x1 x2=(qw x1 x2 x0).bind fun ra=>if (ra.2.2==0)=true then some (((ab.mk (ab.fKind ra.1) (ab.fNum ra.1) (ab.fText ra.1) (ab.fKids ra.1)),ra.2.2),(((x1),ra.2.1,()),())) else some (((ab.mk (ab.fKind ra.1) (ab.fNum ra.1) (ab.fText ra.1) (ab.fKids ra.1)),ra.2.2),(((x1),(x2),()),())):=
  (ah CC _ _ _ _).trans (by kernel_rfl)
theorem oK (x0:List ae) (x1:Int):eJ x0 x1=(cK x0 x1 4).bind fun ra=>if ra=true then (idx x0 x1).bind fun rb=>(qx rb).bind fun rc=>if rc=true then (idx x0 x1).bind fun rd=>some (rd.fText==[61]) else some (false) else some (false):=
  (ah CC _ _ _ _).trans (by kernel_rfl)
theorem oL (x0:List ae) (x1:Int) (x2:List UInt8) (x3:Bool) (x4 x5:Int) (x6:List UInt8) (x7:List ab) (x8:Bool) (x9 x10:Int) (x11:List UInt8) (x12:List ab) (x13:Bool) (x14 x15:Int) (x16:List UInt8) (x17:List ab) (x18 x19 x20:List UInt8):dC x0 x1 x2 x3 x4 x5 x6 x7 x8 x9 x10 x11 x12 x13 x14 x15 x16 x17 x18 x19 x20=(eJ x0 x1).bind fun ra=>if (!ra)=true then some ((0),(((x0),(x1),()),((x2),(x3),(x4),(x5),(x6),(x7),(x8),(x9),(x10),(x11),(x12),(x13),(x14),(x15),(x16),(x17),(x18),(x19),(x20),()),())) else (d6 x0 (w64 (x1+1))).bind fun rb=>if rb=true then some ((0),(((x0),(w64 (x1+1)),()),((x2),(x3),(x4),(x5),(x6),(x7),(x8),(x9),(x10),(x11),(x12),(true),1,0,[],([]),(x18),(x19),(x20),()),())) else (dk 1 x0 (w64 (x1+1))).bind fun rc=>some ((rc.1.2),((rc.2.1.1,rc.2.1.2.1,()),((x2),(x3),(x4),(x5),(x6),(x7),(x8),(x9),(x10),(x11),(x12),(true),(ab.fKind rc.1.1),(ab.fNum rc.1.1),(ab.fText rc.1.1),(ab.fKids rc.1.1),(x18),(x19),(x20),()),())):=
  (ah CC _ _ _ _).trans (by kernel_rfl)
theorem qC (x0:List ae) (x1:Int):dD x0 x1=(a7 5 x0 x1).bind fun ra=>if (!ra.1)=true then some (([],(false)),((ra.2.1.1,ra.2.1.2.1,()),())) else (cF ra.2.1.1 ra.2.1.2.1).bind fun rb=>if rb.1.2=true then (a7 6 rb.2.1.1 rb.2.1.2.1).bind fun rc=>some ((rb.1.1,rc.1),((rc.2.1.1,rc.2.1.2.1,()),())) else some ((rb.1.1,(false)),((rb.2.1.1,rb.2.1.2.1,()),())):=
  (ah CC _ _ _ _).trans (by kernel_rfl)
theorem mK (x0:Bool) (x1:List ae) (x2:Int) (x3 x4 x5 x6 x7 x8:List UInt8):dP x0 x1 x2 x3 x4 x5 x6 x7 x8=(cK x1 x2 1).bind fun ra=>if ra=true then (cF x1 x2).bind fun rb=>if (rb.1.1==[83])=true then if (x7==[])=true then (dD rb.2.1.1 rb.2.1.2.1).bind fun rc=>eU rc.1.2 rc.2.1.1 rc.2.1.2.1 x3 x4 x5 x6 rc.1.1 x8 else if (rb.1.1==[70])=true then if (x8==[])=true then eV rb.2.1.1 rb.2.1.2.1 x3 x4 x5 x6 x7 x8 else ch rb.2.1.1 rb.2.1.2.1 x3 x4 x5 else ch rb.2.1.1 rb.2.1.2.1 x3 x4 x5 else if (rb.1.1==[70])=true then if (x8==[])=true then eV rb.2.1.1 rb.2.1.2.1 x3 x4 x5 x6 x7 x8 else ch rb.2.1.1 rb.2.1.2.1 x3 x4 x5 else ch rb.2.1.1 rb.2.1.2.1 x3 x4 x5 else some (((az.mk x6 x7 x8),x0),(((x1),(x2),()),())):=
  (ah CC _ _ _ _).trans (by kernel_rfl)
theorem cn (x0:List Int) (x1 x2:Int):rB x0 x1 x2=if (decide (x2<x1))=true then (idx x0 x2).bind fun ra=>if (ra !=0)=true then some ra else rB x0 x1 (w64 (x2+1)) else some 0:=
  (ah CC _ _ _ _).trans (by kernel_rfl)
theorem vN : hU=some (false):=
  (ah CC _ _ _ _).trans (by kernel_rfl)
theorem nD (x0 x1:Int) (x2:List UInt8) (x3:List ab) (x4 x5:Int) (x6:List UInt8) (x7:List ab):sZ x0 x1 x2 x3 x4 x5 x6 x7=kc x0 x1 x2 x3 x4 x5 x6 x7 0:=
  (ah CC _ _ _ _).trans (by kernel_rfl)
theorem vO (x0:Int) (x1:List Int) (x2 x3:Int) (x4 x5:List aa):hY x0 x1 x2 x3 x4 x5=jU (w64 (x0-1)) x1 x2 x3 x4 x5:=
  (ah CC _ _ _ _).trans (by kernel_rfl)
theorem tO (x0:List UInt8):iX x0=((Gp x0 ([32])):Option (List UInt8)).bind fun ra=>some (ra==[]):=
  (ah CC _ _ _ _).trans (by kernel_rfl)
theorem tP (x0:(List (List UInt8))) (x1 x2:Int) (x3:List aP):gb x0 x1 x2 x3=hH x0 x1 (w64 (x2+1)) x3:=
  (ah CC _ _ _ _).trans (by kernel_rfl)
theorem wK (x0:List UInt8):pq x0=(cM x0 [42]).bind fun ra=>some ra:=
  (ah CC _ _ _ _).trans (by kernel_rfl)
theorem pN (x0:List UInt8):iv x0=(cM x0 [43]).bind fun ra=>some ra:=
  (ah CC _ _ _ _).trans (by kernel_rfl)
theorem gh (x0:List UInt8) (x1 x2 x3 x4:Int) (x5:(List (List UInt8))):cD x0 x1 x2 x3 x4 x5=if (decide (x4<x3))=true then (idx x0 x4).bind fun ra=>if (x2 !=0)=true then if (ib ra==x2)=true then bE x0 x1 0 x3 x4 x5 else bE x0 x1 x2 x3 x4 x5 else if (ib ra==39)=true then bE x0 x1 (ib ra) x3 x4 x5 else if (ib ra==34)=true then bE x0 x1 (ib ra) x3 x4 x5 else if (ib ra==59)=true then (cut x0 x1 (Option.getD (Option.some x4) (len x0))).bind fun rb=>(app x5 [rb]).bind fun rc=>bE x0 (w64 (x4+1)) x2 x3 x4 rc else bE x0 x1 x2 x3 x4 x5 else (cut x0 x1 (Option.getD Option.none (len x0))).bind fun ra=>(app x5 [ra]).bind fun rd=>some rd:=
  (ah CC _ _ _ _).trans (by kernel_rfl)
theorem aQ (x0:List aa) (x1:List UInt8) (x2 x3:Int):ap x0 x1 x2 x3=if (decide (x3<x2))=true then (idx x0 x3).bind fun ra=>(gd (aa.mk ra.fLabel ra.fHasSubject ra.fSubject.re ra.fHasPattern ra.fPattern.re ra.fHasReplace ra.fReplace.re ra.fGoto) x1).bind fun rb=>if rb=true then some x3 else ap x0 x1 x2 (w64 (x3+1)) else some (-1):=
  (ah CC _ _ _ _).trans (by kernel_rfl)
theorem fT (x0 x1:List UInt8):dE x0 x1=(dL x0 x1).bind fun ra=>if ra=true then (cut x0 0 (Option.getD (Option.some (w64 (len x0-len x1))) (len x0))).bind fun rb=>some rb else some x0:=
  (ah CC _ _ _ _).trans (by kernel_rfl)
theorem vP (x0:ab) (x1:Int):jY x0 x1=if (decide (w64 (x1+1)>60))=true then some 61 else (iw x0.re).bind fun ra=>if (!ra)=true then some 61 else eu (w64 (x1+1)) x0.fKids (len x0.fKids) 0:=
  (ah CC _ _ _ _).trans (by kernel_rfl)
theorem bV (x0 x1:List ab):aM x0 x1=if (len x0 !=len x1)=true then some (false) else aH x1 x0 (len x0) 0:=
  (ah CC _ _ _ _).trans (by kernel_rfl)
theorem nE (x0 x1:List UInt8):ee x0 x1=(dF x0 x1).bind fun ra=>some ra:=
  (ah CC _ _ _ _).trans (by kernel_rfl)
theorem wL : gL=some 6:=
  (ah CC _ _ _ _).trans (by kernel_rfl)
theorem wM : vu=some 7:=
  (ah CC _ _ _ _).trans (by kernel_rfl)
theorem wN (x0:Int):js x0=if (decide (x0>=65))=true then if (decide (x0<=90))=true then some (true) else if (decide (x0>=97))=true then some (decide (x0<=122)) else some (false) else if (decide (x0>=97))=true then some (decide (x0<=122)) else some (false):=
  (ah CC _ _ _ _).trans (by kernel_rfl)
theorem kh (x0:List UInt8) (x1:Int):gc x0 x1=if (decide (x1<len x0))=true then (idx x0 x1).bind fun ra=>(js (ib ra)).bind fun rb=>if rb=true then ge x0 x1 else (idx x0 x1).bind fun rc=>(lc (ib rc)).bind fun rd=>if rd=true then ge x0 x1 else (idx x0 x1).bind fun re=>if (ib re==95)=true then ge x0 x1 else jt x1 else jt x1:=
  (ah CC _ _ _ _).trans (by kernel_rfl)
theorem zS (x0 x1:Int) (x2:List UInt8) (x3:List ab):qv x0 x1 x2 x3=ic x0 x1 x2 x3 1 0:=
  (ah CC _ _ _ _).trans (by kernel_rfl)
theorem yq (x0 x1:Int) (x2:List UInt8) (x3:List ab):k9 x0 x1 x2 x3=(rC x0 x1 x2 x3).bind fun ra=>if (!ra)=true then some (false) else iZ x0 x1 x2 x3 0:=
  (ah CC _ _ _ _).trans (by kernel_rfl)
theorem rV : d8=some 6:=
  (ah CC _ _ _ _).trans (by kernel_rfl)
theorem rW : o4=some 7:=
  (ah CC _ _ _ _).trans (by kernel_rfl)
theorem tQ (x0:List UInt8) (x1 x2:Int):iY x0 x1 x2=if (decide (x2<len x0))=true then (idx x0 x2).bind fun ra=>if (ib ra==x1)=true then some (true) else iY x0 x1 (w64 (x2+1)) else some (false):=
  (ah CC _ _ _ _).trans (by kernel_rfl)
theorem yr (x0:Int):lc x0=if (decide (x0>=48))=true then some (decide (x0<=57)) else some (false):=
  (ah CC _ _ _ _).trans (by kernel_rfl)
theorem nG (x0:List UInt8) (x1 x2 x3 x4 x5:Int) (x6:List UInt8) (x7 x8:Bool):jZ x0 x1 x2 x3 x4 x5 x6 x7 x8=if (decide (x3<len x0))=true then (idx x0 x3).bind fun ra=>(lc (ib ra)).bind fun rb=>if rb=true then if (decide (w64 (x3-x1)<14))=true then s5 x0 x1 x2 x3 x4 x5 x6 x7 x8 else ie x1 x2 x3 x4 x5 x6 x7 x8 else ie x1 x2 x3 x4 x5 x6 x7 x8 else ie x1 x2 x3 x4 x5 x6 x7 x8:=
  (ah CC _ _ _ _).trans (by kernel_rfl)
theorem nH (x0:List UInt8) (x1 x2 x3 x4 x5:Int) (x6:List UInt8) (x7 x8:Bool):fQ x0 x1 x2 x3 x4 x5 x6 x7 x8=if (decide (x3<len x0))=true then (idx x0 x3).bind fun ra=>if (ib ra !=x2)=true then fQ x0 x1 x2 (w64 (x3+1)) x4 x5 x6 x7 x8 else if (x3==len x0)=true then ig x4 x5 x6 x7 x8 else if (decide (w64 (w64 (x3-x1)-1)>200))=true then ig x4 x5 x6 x7 x8 else ni x0 x1 x3 x4 x5 x6 x7 x8 else if (x3==len x0)=true then ig x4 x5 x6 x7 x8 else if (decide (w64 (w64 (x3-x1)-1)>200))=true then ig x4 x5 x6 x7 x8 else ni x0 x1 x3 x4 x5 x6 x7 x8:=
  (ah CC _ _ _ _).trans (by kernel_rfl)
theorem tR (x0:Int):lQ x0=if (x0==43)=true then bm else if (x0==45)=true then bm else if (x0==42)=true then bm else if (x0==47)=true then bm else if (x0==124)=true then bm else if (x0==46)=true then bm else if (x0==36)=true then bm else if (x0==64)=true then bm else if (x0==61)=true then bm else ld:=
  (ah CC _ _ _ _).trans (by kernel_rfl)
theorem nI (x0 x1:Int) (x2:List UInt8) (x3 x4 x5:Int) (x6:List UInt8) (x7 x8:Bool):ep x0 x1 x2 x3 x4 x5 x6 x7 x8=if (decide (x3<len x2))=true then (idx x2 x3).bind fun ra=>if (ib ra==x1)=true then some ((ae.mk (w64 (5+x3)) (Int.ofNat 0) [] false false),(w64 (x0+1))) else ep x0 x1 x2 (w64 (x3+1)) x4 x5 x6 x7 x8 else some ((ae.mk (Int.ofNat 0) (Int.ofNat 0) [] false false),(-1)):=
  (ah CC _ _ _ _).trans (by kernel_rfl)
theorem vQ (x0:Int):ia x0=(kZ x0).bind fun ra=>if ra=true then some (true) else (nh x0).bind fun rb=>if rb=true then some (true) else some (x0==95):=
  (ah CC _ _ _ _).trans (by kernel_rfl)
theorem iA (x0:List UInt8) (x1 x2:Int):ca x0 x1 x2=if (decide (x2<len x0))=true then (idx x0 x2).bind fun ra=>(nj (ib ra)).bind fun rb=>if rb=true then ca x0 x1 (w64 (x2+1)) else some (w64 (x2-x1)) else some (w64 (x2-x1)):=
  (ah CC _ _ _ _).trans (by kernel_rfl)
theorem lV (x0:List UInt8) (x1:Int):eT x0 x1=cG x0 x1 x1:=
  (ah CC _ _ _ _).trans (by kernel_rfl)
theorem zT (x0:Int):nh x0=if (decide (x0>=48))=true then some (decide (x0<=57)) else some (false):=
  (ah CC _ _ _ _).trans (by kernel_rfl)
theorem oM (x0:List UInt8) (x1:Int):gM x0 x1=du x0 x1 x1:=
  (ah CC _ _ _ _).trans (by kernel_rfl)
theorem kH (x0:List UInt8) (x1 x2:Int):cb x0 x1 x2=ck x0 x1 x2 x1:=
  (ah CC _ _ _ _).trans (by kernel_rfl)
theorem zU (x0:List ae) (x1 x2:Int):qw x0 x1 x2=if (decide (len x0>120))=true then nk 0 0 [] ([]) else (bZ x0).bind fun ra=>if (!ra)=true then nk 0 0 [] ([]) else (lO x1 0 (len x0)).bind fun rb=>if (!rb)=true then nk 0 0 [] ([]) else s6 x0 x1 x2 0 0 [] ([]):=
  (ah CC _ _ _ _).trans (by kernel_rfl)
theorem zV (x0:ae):qx x0=(ke x0).bind fun ra=>if ra=true then if (x0.fKind==4)=true then if x0.fBefore=true then some x0.fAfter else some (false) else some (false) else some (false):=
  (ah CC _ _ _ _).trans (by kernel_rfl)
theorem tS (x0:List ae) (x1:Int):cF x0 x1=(a7 1 x0 x1).bind fun ra=>if (!ra.1)=true then some (([],(false)),((ra.2.1.1,ra.2.1.2.1,()),())) else (idx ra.2.1.1 (w64 (ra.2.1.2.1-1))).bind fun rb=>some ((rb.fText,(true)),((ra.2.1.1,ra.2.1.2.1,()),())):=
  (ah CC _ _ _ _).trans (by kernel_rfl)
theorem cI (x0:Bool) (x1:List ae) (x2:Int) (x3 x4 x5 x6 x7 x8:List UInt8):eU x0 x1 x2 x3 x4 x5 x6 x7 x8=if (!x0)=true then some (((az.mk [] [] []),(false)),(((x1),(x2),()),())) else dP x0 x1 x2 x3 x4 x5 x6 x7 x8:=
  (ah CC _ _ _ _).trans (by kernel_rfl)
theorem lW (x0:List ae) (x1:Int) (x2 x3 x4 x5 x6 x7:List UInt8):eV x0 x1 x2 x3 x4 x5 x6 x7=(dD x0 x1).bind fun ra=>eU ra.1.2 ra.2.1.1 ra.2.1.2.1 x2 x3 x4 x5 x6 ra.1.1:=
  (ah CC _ _ _ _).trans (by kernel_rfl)
theorem mL (x0:List ae) (x1:Int) (x2 x3 x4:List UInt8):ch x0 x1 x2 x3 x4=some (((az.mk [] [] []),(false)),(((x0),(x1),()),())):=
  (ah CC _ _ _ _).trans (by kernel_rfl)
theorem jy (x0 x1:Int) (x2:List UInt8) (x3:List ab) (x4 x5:Int) (x6:List UInt8) (x7:List ab) (x8:Int):kc x0 x1 x2 x3 x4 x5 x6 x7 x8=if (decide (x8<len x3))=true then (idx x3 x8).bind fun ra=>(idx x7 x8).bind fun rb=>(qt ra.fKind ra.fNum ra.fText ra.fKids rb.fKind rb.fNum rb.fText rb.fKids).bind fun rc=>if (!rc)=true then some (false) else kc x0 x1 x2 x3 x4 x5 x6 x7 (w64 (x8+1)) else some (true):=
  (ah CC _ _ _ _).trans (by kernel_rfl)
theorem lj (x0:List UInt8) (x1 x2 x3 x4:Int) (x5:(List (List UInt8))):bE x0 x1 x2 x3 x4 x5=cD x0 x1 x2 x3 (w64 (x4+1)) x5:=
  (ah CC _ _ _ _).trans (by kernel_rfl)
theorem jJ (x0:aa) (x1:List UInt8):gd x0 x1=some (x0.fLabel==x1):=
  (ah CC _ _ _ _).trans (by kernel_rfl)
theorem tT (x0:List UInt8):lR x0=fy x0 0:=
  (ah CC _ _ _ _).trans (by kernel_rfl)
theorem il (x0:Int) (x1 x2:List aP):bO x0 x1 x2=if (decide (x0<len x1))=true then (idx x1 x0).bind fun ra=>((x1[Int.toNat x0]?):Option aP).bind fun rb=>(gN rb.fText).bind fun rc=>dl x0 rc 0 x1 x2 else some ((x2),0,0):=
  (ah CC _ _ _ _).trans (by kernel_rfl)
theorem gi (x0 x1:List UInt8):dL x0 x1=if (decide (len x0>=len x1))=true then (cut x0 (w64 (len x0-len x1)) (Option.getD Option.none (len x0))).bind fun ra=>some (ra==x1) else some (false):=
  (ah CC _ _ _ _).trans (by kernel_rfl)
theorem pO (x0:ab):iw x0=if (x0.fKind==1)=true then if (len x0.fKids==0)=true then if (x0.fNum==0)=true then (k7 x0.fText).bind fun ra=>some ra else some (false) else some (false) else if (x0.fKind==2)=true then if (len x0.fKids==0)=true then if (x0.fText==[])=true then (oq x0.fNum).bind fun rb=>some rb else some (false) else some (false) else if (x0.fKind==3)=true then if (len x0.fKids==0)=true then if (x0.fNum==0)=true then (lH x0.fText).bind fun rc=>some rc else some (false) else some (false) else (nc x0.fKind).bind fun ra=>if ra=true then if (len x0.fKids==0)=true then if (x0.fNum==0)=true then (lH x0.fText).bind fun rd=>some rd else some (false) else some (false) else if (x0.fKind==4)=true then if (decide (len x0.fKids<=6))=true then if (x0.fNum==0)=true then (lH x0.fText).bind fun re=>some re else some (false) else some (false) else if (x0.fNum !=0)=true then eW else if (!x0.fText==[])=true then eW else iD (len x0.fKids) x0.fKind x0.fNum x0.fText x0.fKids:=
  (ah CC _ _ _ _).trans (by kernel_rfl)
theorem kj (x0:Int) (x1:List ab) (x2 x3:Int):eu x0 x1 x2 x3=if (decide (x3<x2))=true then (idx x1 x3).bind fun ra=>(jY ra.re x0).bind fun rb=>if (decide (rb>60))=true then some rb else eu rb x1 x2 (w64 (x3+1)) else some x0:=
  (ah CC _ _ _ _).trans (by kernel_rfl)
theorem bS (x0 x1:List ab) (x2 x3:Int):aH x0 x1 x2 x3=if (decide (x3<x2))=true then (idx x1 x3).bind fun ra=>(idx x0 x3).bind fun rb=>(rA ra.re rb.re).bind fun rc=>if (!rc)=true then some (false) else aH x0 x1 x2 (w64 (x3+1)) else some (true):=
  (ah CC _ _ _ _).trans (by kernel_rfl)
theorem fU (x0 x1:List UInt8):dF x0 x1=(bM x0 x1).bind fun ra=>if ra=true then (cut x0 (len x1) (Option.getD Option.none (len x0))).bind fun rb=>some rb else some x0:=
  (ah CC _ _ _ _).trans (by kernel_rfl)
theorem qD (x0:List UInt8) (x1:Int):ge x0 x1=gc x0 (w64 (x1+1)):=
  (ah CC _ _ _ _).trans (by kernel_rfl)
theorem km (x0:Int):jt x0=some x0:=
  (ah CC _ _ _ _).trans (by kernel_rfl)
theorem jz (x0 x1:Int) (x2:List UInt8) (x3:List ab) (x4 x5:Int):ic x0 x1 x2 x3 x4 x5=if (decide (x5<len x3))=true then if (decide (x4<=60))=true then (idx x3 x5).bind fun ra=>(qv ra.fKind ra.fNum ra.fText ra.fKids).bind fun rb=>ic x0 x1 x2 x3 (w64 (x4+rb)) (w64 (x5+1)) else some x4 else some x4:=
  (ah CC _ _ _ _).trans (by kernel_rfl)
theorem yu (x0 x1:Int) (x2:List UInt8) (x3:List ab):rC x0 x1 x2 x3=if (x0==1)=true then if (x1==0)=true then if (len x3==0)=true then (oo x2).bind fun ra=>some ra else some (false) else some (false) else if (x0==2)=true then if (x2==[])=true then if (len x3==0)=true then (A1 x1 0 1000000000000).bind fun rb=>some rb else some (false) else some (false) else if (x0==3)=true then fi x0 x1 x2 x3 0 else if (x0==16)=true then fi x0 x1 x2 x3 0 else if (x0==17)=true then fi x0 x1 x2 x3 0 else if (x0==18)=true then fi x0 x1 x2 x3 0 else o5 x0 x1 x2 x3 (false) x0:=
  (ah CC _ _ _ _).trans (by kernel_rfl)
theorem tU (x0 x1:Int) (x2:List UInt8) (x3:List ab) (x4:Int):iZ x0 x1 x2 x3 x4=if (decide (x4<len x3))=true then (idx x3 x4).bind fun ra=>(k9 ra.fKind ra.fNum ra.fText ra.fKids).bind fun rb=>if (!rb)=true then some (false) else iZ x0 x1 x2 x3 (w64 (x4+1)) else some (true):=
  (ah CC _ _ _ _).trans (by kernel_rfl)
theorem vR (x0:List UInt8) (x1 x2 x3 x4 x5:Int) (x6:List UInt8) (x7 x8:Bool):s5 x0 x1 x2 x3 x4 x5 x6 x7 x8=(idx x0 x3).bind fun ra=>jZ x0 x1 (w64 (w64 (10*x2)+w64 (Go.IntKind.wrap Go.IntKind.u8 (ib ra-48)))) (w64 (x3+1)) x4 x5 x6 x7 x8:=
  (ah CC _ _ _ _).trans (by kernel_rfl)
theorem vS (x0 x1 x2 x3 x4:Int) (x5:List UInt8) (x6 x7:Bool):ie x0 x1 x2 x3 x4 x5 x6 x7=if (decide (w64 (x2-x0)>13))=true then some ((ae.mk (Int.ofNat 0) (Int.ofNat 0) [] false false),(-1)) else if (decide (x1>1000000000000))=true then some ((ae.mk (Int.ofNat 0) (Int.ofNat 0) [] false false),(-1)) else some ((ae.mk (Int.ofNat 2) x1 [] false false),x2):=
  (ah CC _ _ _ _).trans (by kernel_rfl)
theorem nJ (x0 x1:Int) (x2:List UInt8) (x3 x4:Bool):ig x0 x1 x2 x3 x4=some ((ae.mk (Int.ofNat 0) (Int.ofNat 0) [] false false),(-1)):=
  (ah CC _ _ _ _).trans (by kernel_rfl)
theorem vT (x0:List UInt8) (x1 x2 x3 x4:Int) (x5:List UInt8) (x6 x7:Bool):ni x0 x1 x2 x3 x4 x5 x6 x7=(cut x0 (w64 (x1+1)) (Option.getD (Option.some x2) (len x0))).bind fun ra=>some ((ae.mk (Int.ofNat 3) (Int.ofNat 0) ra false false),(w64 (x2+1))):=
  (ah CC _ _ _ _).trans (by kernel_rfl)
theorem oN : bm=some (true):=
  (ah CC _ _ _ _).trans (by kernel_rfl)
theorem oO : ld=some (false):=
  (ah CC _ _ _ _).trans (by kernel_rfl)
theorem qE (x0:Int):nj x0=some (x0==32):=
  (ah CC _ _ _ _).trans (by kernel_rfl)
theorem jK (x0:List UInt8) (x1 x2:Int):cG x0 x1 x2=if (decide (x2<len x0))=true then (idx x0 x2).bind fun ra=>(ia (ib ra)).bind fun rb=>if rb=true then cG x0 x1 (w64 (x2+1)) else some (w64 (x2-x1)) else some (w64 (x2-x1)):=
  (ah CC _ _ _ _).trans (by kernel_rfl)
theorem lX (x0:List UInt8) (x1 x2:Int):du x0 x1 x2=if (decide (x2<len x0))=true then (idx x0 x2).bind fun ra=>(nh (ib ra)).bind fun rb=>if rb=true then du x0 x1 (w64 (x2+1)) else some (w64 (x2-x1)) else some (w64 (x2-x1)):=
  (ah CC _ _ _ _).trans (by kernel_rfl)
theorem i7 (x0:List UInt8) (x1 x2 x3:Int):ck x0 x1 x2 x3=if (decide (x3<len x0))=true then (idx x0 x3).bind fun ra=>(o6 (ib ra) x2).bind fun rb=>if rb=true then ck x0 x1 x2 (w64 (x3+1)) else some (w64 (x3-x1)) else some (w64 (x3-x1)):=
  (ah CC _ _ _ _).trans (by kernel_rfl)
theorem fm (x0:List ae):bZ x0=bh x0 (len x0) 0:=
  (ah CC _ _ _ _).trans (by kernel_rfl)
theorem vU (x0:List ae) (x1 x2 x3 x4:Int) (x5:List UInt8) (x6:List ab):s6 x0 x1 x2 x3 x4 x5 x6=(ba x2 x0 x1).bind fun ra=>if (!ra.1.2)=true then some ((ab.mk (Int.ofNat 0) (Int.ofNat 0) [] []),ra.2.1.2.1,2) else (lN (ab.mk (ab.fKind ra.1.1) (ab.fNum ra.1.1) (ab.fText ra.1.1) (ab.fKids ra.1.1))).bind fun rb=>if (!rb)=true then some ((ab.mk (Int.ofNat 0) (Int.ofNat 0) [] []),(x1),6) else some ((ab.mk (ab.fKind ra.1.1) (ab.fNum ra.1.1) (ab.fText ra.1.1) (ab.fKids ra.1.1)),ra.2.1.2.1,0):=
  (ah CC _ _ _ _).trans (by kernel_rfl)
theorem vV (x0:ae):ke x0=if (x0.fKind==1)=true then if (x0.fNum==0)=true then (lH x0.fText).bind fun ra=>some ra else some (false) else if (x0.fKind==2)=true then if (x0.fText==[])=true then (oq x0.fNum).bind fun rb=>some rb else some (false) else if (x0.fKind==3)=true then if (x0.fNum==0)=true then (k7 x0.fText).bind fun rc=>some rc else some (false) else if (x0.fKind==4)=true then if (x0.fNum==0)=true then (nn x0.fText).bind fun rd=>some rd else some (false) else (lO x0.fKind 5 10).bind fun rc=>if rc=true then if (x0.fNum==0)=true then some (x0.fText==[]) else some (false) else some (false):=
  (ah CC _ _ _ _).trans (by kernel_rfl)
theorem jA (x0:List UInt8) (x1:Int):fy x0 x1=if (decide (x1<len x0))=true then (idx x0 x1).bind fun ra=>if (ib ra !=32)=true then some (false) else fy x0 (w64 (x1+1)) else some (true):=
  (ah CC _ _ _ _).trans (by kernel_rfl)
theorem oP (x0:List UInt8):gN x0=cE x0 0 0 0 ([]):=
  (ah CC _ _ _ _).trans (by kernel_rfl)
theorem io (x0:Int) (x1:(List (List UInt8))) (x2:Int) (x3 x4:List aP):dl x0 x1 x2 x3 x4=if (decide (x2<len x1))=true then (idx x1 x2).bind fun ra=>(lR ra).bind fun rb=>if (!rb)=true then (idx x3 x0).bind fun rc=>((x3[Int.toNat x0]?):Option aP).bind fun rd=>(idx x1 x2).bind fun re=>(app x4 [aP.mk rd.fNumber re]).bind fun rf=>dl x0 x1 (w64 (x2+1)) x3 rf else dl x0 x1 (w64 (x2+1)) x3 x4 else bO (w64 (x0+1)) x3 x4:=
  (ah CC _ _ _ _).trans (by kernel_rfl)
theorem qF (x0:Int):oq x0=(lO x0 0 1000000000000).bind fun ra=>some ra:=
  (ah CC _ _ _ _).trans (by kernel_rfl)
theorem lY : eW=some (false):=
  (ah CC _ _ _ _).trans (by kernel_rfl)
theorem lZ (x0 x1 x2:Int) (x3:List UInt8) (x4:List ab):iD x0 x1 x2 x3 x4=if (x1==12)=true then if (x0==2)=true then (idx x4 1).bind fun ra=>some (ra.fKind==3) else some (false) else if (x1==13)=true then if (x0==2)=true then (idx x4 1).bind fun rb=>some (rb.fKind==3) else some (false) else if (x1==14)=true then eX x0 else if (x1==15)=true then eX x0 else iE x0 x1 x2 x3 x4:=
  (ah CC _ _ _ _).trans (by kernel_rfl)
theorem CY (x0 x1 x2:Int):A1 x0 x1 x2=if (decide (x0>=x1))=true then some (decide (x0<=x2)) else some (false):=
  (ah CC _ _ _ _).trans (by kernel_rfl)
theorem rX (x0 x1:Int) (x2:List UInt8) (x3:List ab) (x4:Int):fi x0 x1 x2 x3 x4=cm x0 x1 x2 x3 x4 (true):=
  (ah CC _ _ _ _).trans (by kernel_rfl)
theorem rY (x0 x1:Int) (x2:List UInt8) (x3:List ab) (x4:Bool) (x5:Int):o5 x0 x1 x2 x3 x4 x5=if (x5==4)=true then if (x1==0)=true then (qr x2).bind fun ra=>if ra=true then some (decide (len x3<=6)) else some (false) else some (false) else if (x5==14)=true then cm x0 x1 x2 x3 1 x4 else if (x5==15)=true then cm x0 x1 x2 x3 1 x4 else if (x5==5)=true then cL x0 x1 x2 x3 x4 else if (x5==6)=true then cL x0 x1 x2 x3 x4 else if (x5==7)=true then cL x0 x1 x2 x3 x4 else if (x5==8)=true then cL x0 x1 x2 x3 x4 else if (x5==9)=true then cL x0 x1 x2 x3 x4 else if (x5==10)=true then cL x0 x1 x2 x3 x4 else if (x5==11)=true then cL x0 x1 x2 x3 x4 else o7 x0 x1 x2 x3 x4 x5:=
  (ah CC _ _ _ _).trans (by kernel_rfl)
theorem rZ (x0 x1:Int):o6 x0 x1=some (x0 !=x1):=
  (ah CC _ _ _ _).trans (by kernel_rfl)
theorem cr (x0:List ae) (x1 x2:Int):bh x0 x1 x2=if (decide (x2<x1))=true then (idx x0 x2).bind fun ra=>(ke ra).bind fun rb=>if (!rb)=true then some (false) else bh x0 x1 (w64 (x2+1)) else some (true):=
  (ah CC _ _ _ _).trans (by kernel_rfl)
theorem tV (x0:Int) (x1:List ae) (x2:Int):ba x0 x1 x2=if (x0==6)=true then (cz x1 x2).bind fun ra=>some (((ab.mk (ab.fKind ra.1.1) (ab.fNum ra.1.1) (ab.fText ra.1.1) (ab.fKids ra.1.1)),ra.1.2),((ra.2.1.1,ra.2.1.2.1,()),())) else (ba (w64 (x0+1)) x1 x2).bind fun ra=>if (!ra.1.2)=true then some (((ab.mk (Int.ofNat 0) (Int.ofNat 0) [] []),(false)),((ra.2.1.1,ra.2.1.2.1,()),())) else iy x0 ra.2.1.1 ra.2.1.2.1 0 0 [] ([]) (ab.fKind ra.1.1) (ab.fNum ra.1.1) (ab.fText ra.1.1) (ab.fKids ra.1.1):=
  (ah CC _ _ _ _).trans (by kernel_rfl)
theorem vW (x0:List UInt8):nn x0=if (len x0==1)=true then ((eo ([43,45,42,47,124,46,36,64,61]) x0):Option Bool).bind fun ra=>some ra else some (false):=
  (ah CC _ _ _ _).trans (by kernel_rfl)
theorem gj (x0:List UInt8) (x1 x2 x3:Int) (x4:(List (List UInt8))):cE x0 x1 x2 x3 x4=if (decide (x3<len x0))=true then (idx x0 x3).bind fun ra=>if (x2 !=0)=true then if (ib ra==x2)=true then bJ x0 x1 0 x3 x4 else bJ x0 x1 x2 x3 x4 else if (ib ra==39)=true then bJ x0 x1 (ib ra) x3 x4 else if (ib ra==34)=true then bJ x0 x1 (ib ra) x3 x4 else if (ib ra==59)=true then (cut x0 x1 (Option.getD (Option.some x3) (len x0))).bind fun rb=>(app x4 [rb]).bind fun rc=>bJ x0 (w64 (x3+1)) x2 x3 rc else bJ x0 x1 x2 x3 x4 else (cut x0 x1 (Option.getD Option.none (len x0))).bind fun ra=>(app x4 [ra]).bind fun rd=>some rd:=
  (ah CC _ _ _ _).trans (by kernel_rfl)
theorem l0 (x0:Int):eX x0=some (x0==1):=
  (ah CC _ _ _ _).trans (by kernel_rfl)
theorem l4 (x0 x1 x2:Int) (x3:List UInt8) (x4:List ab):iE x0 x1 x2 x3 x4=if (x0==2)=true then if (x1==5)=true then some (true) else (rD x1).bind fun ra=>some ra else some (false):=
  (ah CC _ _ _ _).trans (by kernel_rfl)
theorem r4 (x0 x1:Int) (x2:List UInt8) (x3:List ab) (x4:Int) (x5:Bool):cm x0 x1 x2 x3 x4 x5=if (x1==0)=true then if (len x3==x4)=true then if x5=true then (qr x2).bind fun ra=>if ra=true then some (true) else if (!x5)=true then some (x2==[]) else some (false) else if (!x5)=true then some (x2==[]) else some (false) else some (false) else some (false):=
  (ah CC _ _ _ _).trans (by kernel_rfl)
theorem r5 (x0 x1:Int) (x2:List UInt8) (x3:List ab) (x4:Bool):cL x0 x1 x2 x3 x4=cm x0 x1 x2 x3 2 x4:=
  (ah CC _ _ _ _).trans (by kernel_rfl)
theorem r6 (x0 x1:Int) (x2:List UInt8) (x3:List ab) (x4:Bool) (x5:Int):o7 x0 x1 x2 x3 x4 x5=if (x5==12)=true then if (len x3==2)=true then (idx x3 1).bind fun ra=>if (ra.fKind !=3)=true then kD else cm x0 x1 x2 x3 2 x4 else cm x0 x1 x2 x3 2 x4 else if (x5==13)=true then if (len x3==2)=true then (idx x3 1).bind fun rb=>if (rb.fKind !=3)=true then kD else cm x0 x1 x2 x3 2 x4 else cm x0 x1 x2 x3 2 x4 else some (false):=
  (ah CC _ _ _ _).trans (by kernel_rfl)
theorem pQ (x0:List ae) (x1:Int):cz x0 x1=(cK x0 x1 4).bind fun ra=>if ra=true then (idx x0 x1).bind fun rb=>if rb.fAfter=true then some (((ab.mk (Int.ofNat 0) (Int.ofNat 0) [] []),(false)),(((x0),(x1),()),())) else (kE rb.fText x0 x1).bind fun rc=>some (((ab.mk (ab.fKind rc.1.1) (ab.fNum rc.1.1) (ab.fText rc.1.1) (ab.fKids rc.1.1)),rc.1.2),((rc.2.1.1,rc.2.1.2.1,()),())) else (dY x0 x1).bind fun rd=>dQ rd.1.2 rd.2.1.1 rd.2.1.2.1 0 0 [] ([]) (ab.fKind rd.1.1) (ab.fNum rd.1.1) (ab.fText rd.1.1) (ab.fKids rd.1.1):=
  (ah CC _ _ _ _).trans (by kernel_rfl)
theorem pR (x0:Int) (x1:List ae) (x2 x3 x4:Int) (x5:List UInt8) (x6:List ab) (x7 x8:Int) (x9:List UInt8) (x10:List ab):iy x0 x1 x2 x3 x4 x5 x6 x7 x8 x9 x10=(fj x0 x1 x2).bind fun ra=>if (!ra.1.2)=true then some (((ab.mk x7 x8 x9 x10),(true)),((ra.2.1.1,ra.2.1.2.1,()),())) else if (x0==5)=true then (cF ra.2.1.1 ra.2.1.2.1).bind fun rb=>if (!rb.1.2)=true then some (((ab.mk (Int.ofNat 0) (Int.ofNat 0) [] []),(false)),((rb.2.1.1,rb.2.1.2.1,()),())) else bR x0 rb.2.1.1 rb.2.1.2.1 x3 x4 x5 x6 ra.1.1 0 [] ([ab.mk x7 x8 x9 x10,ab.mk (Int.ofNat 3) (Int.ofNat 0) rb.1.1 []]) else (ba (w64 (x0+1)) ra.2.1.1 ra.2.1.2.1).bind fun rb=>if (!rb.1.2)=true then some (((ab.mk (Int.ofNat 0) (Int.ofNat 0) [] []),(false)),((rb.2.1.1,rb.2.1.2.1,()),())) else bR x0 rb.2.1.1 rb.2.1.2.1 x3 x4 x5 x6 ra.1.1 0 [] ([ab.mk x7 x8 x9 x10,ab.mk (ab.fKind rb.1.1) (ab.fNum rb.1.1) (ab.fText rb.1.1) (ab.fKids rb.1.1)]):=
  (ah CC _ _ _ _).trans (by kernel_rfl)
theorem l8 (x0:List UInt8) (x1 x2 x3:Int) (x4:(List (List UInt8))):bJ x0 x1 x2 x3 x4=cE x0 x1 x2 (w64 (x3+1)) x4:=
  (ah CC _ _ _ _).trans (by kernel_rfl)
theorem yv (x0:Int):rD x0=(lO x0 6 13).bind fun ra=>some ra:=
  (ah CC _ _ _ _).trans (by kernel_rfl)
theorem r7 : kD=some (false):=
  (ah CC _ _ _ _).trans (by kernel_rfl)
theorem r8 (x0:List UInt8) (x1:List ae) (x2:Int):kE x0 x1 x2=gO x0 14 x1 x2 0 0 [] ([]):=
  (ah CC _ _ _ _).trans (by kernel_rfl)
theorem pS (x0:List ae) (x1:Int):dY x0 x1=if (x1==len x0)=true then some (((ab.mk (Int.ofNat 0) (Int.ofNat 0) [] []),(false)),(((x0),(x1),()),())) else (idx x0 x1).bind fun ra=>if (ra.fKind==3)=true then some (((ab.mk (Int.ofNat 1) (Int.ofNat 0) ra.fText []),(true)),(((x0),(w64 (x1+1)),()),())) else if (ra.fKind==2)=true then some (((ab.mk (Int.ofNat 2) ra.fNum [] []),(true)),(((x0),(w64 (x1+1)),()),())) else if (ra.fKind==1)=true then if (!ra.fAfter)=true then (a7 5 x0 (w64 (x1+1))).bind fun rb=>if rb.1=true then (qy rb.2.1.1 rb.2.1.2.1).bind fun rc=>some (((ab.mk (Int.ofNat 4) (Int.ofNat 0) ra.fText rc.1.1),rc.1.2),((rc.2.1.1,rc.2.1.2.1,()),())) else some (((ab.mk (Int.ofNat 3) (Int.ofNat 0) ra.fText []),(true)),((rb.2.1.1,rb.2.1.2.1,()),())) else some (((ab.mk (Int.ofNat 3) (Int.ofNat 0) ra.fText []),(true)),(((x0),(w64 (x1+1)),()),())) else if (ra.fKind==5)=true then (ba 1 x0 (w64 (x1+1))).bind fun rb=>if rb.1.2=true then (a7 6 rb.2.1.1 rb.2.1.2.1).bind fun rc=>some (((ab.mk (ab.fKind rb.1.1) (ab.fNum rb.1.1) (ab.fText rb.1.1) (ab.fKids rb.1.1)),rc.1),((rc.2.1.1,rc.2.1.2.1,()),())) else some (((ab.mk (ab.fKind rb.1.1) (ab.fNum rb.1.1) (ab.fText rb.1.1) (ab.fKids rb.1.1)),(false)),((rb.2.1.1,rb.2.1.2.1,()),())) else some (((ab.mk (Int.ofNat 0) (Int.ofNat 0) [] []),(false)),(((x0),(x1),()),())):=
  (ah CC _ _ _ _).trans (by kernel_rfl)
theorem gw (x0:Bool) (x1:List ae) (x2 x3 x4:Int) (x5:List UInt8) (x6:List ab) (x7 x8:Int) (x9:List UInt8) (x10:List ab):dQ x0 x1 x2 x3 x4 x5 x6 x7 x8 x9 x10=if x0=true then (cK x1 x2 7).bind fun ra=>if ra=true then (idx x1 x2).bind fun rb=>if (!rb.fBefore)=true then ju x0 x1 x2 x3 x4 x5 x6 x7 x8 x9 x10 else dv x0 x1 x2 x3 x4 x5 x6 x7 x8 x9 x10 else dv x0 x1 x2 x3 x4 x5 x6 x7 x8 x9 x10 else dv x0 x1 x2 x3 x4 x5 x6 x7 x8 x9 x10:=
  (ah CC _ _ _ _).trans (by kernel_rfl)
theorem r9 (x0:Int) (x1:List ae) (x2:Int):fj x0 x1 x2=if (x2==len x1)=true then some ((0,(false)),(((x1),(x2),()),())) else (idx x1 x2).bind fun ra=>if (x0==2)=true then (ed x1 x2).bind fun rb=>some ((7,rb),(((x1),(x2),()),())) else cP x0 6 x1 x2 ra.fKind ra.fNum ra.fText ra.fBefore ra.fAfter:=
  (ah CC _ _ _ _).trans (by kernel_rfl)
theorem gy (x0:Int) (x1:List ae) (x2 x3 x4:Int) (x5:List UInt8) (x6:List ab) (x7 x8:Int) (x9:List UInt8) (x10:List ab):bR x0 x1 x2 x3 x4 x5 x6 x7 x8 x9 x10=(fj x0 x1 x2).bind fun ra=>if (!ra.1.2)=true then some (((ab.mk x7 x8 x9 x10),(true)),((ra.2.1.1,ra.2.1.2.1,()),())) else if (x0==5)=true then (cF ra.2.1.1 ra.2.1.2.1).bind fun rb=>if (!rb.1.2)=true then some (((ab.mk (Int.ofNat 0) (Int.ofNat 0) [] []),(false)),((rb.2.1.1,rb.2.1.2.1,()),())) else bR x0 rb.2.1.1 rb.2.1.2.1 x3 x4 x5 x6 ra.1.1 0 [] ([ab.mk x7 x8 x9 x10,ab.mk (Int.ofNat 3) (Int.ofNat 0) rb.1.1 []]) else (ba (w64 (x0+1)) ra.2.1.1 ra.2.1.2.1).bind fun rb=>if (!rb.1.2)=true then some (((ab.mk (Int.ofNat 0) (Int.ofNat 0) [] []),(false)),((rb.2.1.1,rb.2.1.2.1,()),())) else bR x0 rb.2.1.1 rb.2.1.2.1 x3 x4 x5 x6 ra.1.1 0 [] ([ab.mk x7 x8 x9 x10,ab.mk (ab.fKind rb.1.1) (ab.fNum rb.1.1) (ab.fText rb.1.1) (ab.fKids rb.1.1)]):=
  (ah CC _ _ _ _).trans (by kernel_rfl)
theorem b6 (x0:List UInt8) (x1:Int) (x2:List ae) (x3 x4 x5:Int) (x6:List UInt8) (x7:List ab):gO x0 x1 x2 x3 x4 x5 x6 x7=if (decide (x1<=18))=true then (lL x1).bind fun ra=>if (!ra==x0)=true then gO x0 (w64 (x1+1)) x2 x3 x4 x5 x6 x7 else (nc x1).bind fun rb=>if rb=true then (cF x2 (w64 (x3+1))).bind fun rc=>some (((ab.mk x1 (Int.ofNat 0) rc.1.1 []),rc.1.2),((rc.2.1.1,rc.2.1.2.1,()),())) else (cz x2 (w64 (x3+1))).bind fun rc=>some (((ab.mk x1 (Int.ofNat 0) [] [ab.mk (ab.fKind rc.1.1) (ab.fNum rc.1.1) (ab.fText rc.1.1) (ab.fKids rc.1.1)]),rc.1.2),((rc.2.1.1,rc.2.1.2.1,()),())) else some (((ab.mk (Int.ofNat 0) (Int.ofNat 0) [] []),(false)),(((x2),(x3),()),())):=
  (ah CC _ _ _ _).trans (by kernel_rfl)
theorem tW (x0:List ae) (x1:Int):qy x0 x1=(a7 6 x0 x1).bind fun ra=>if ra.1=true then some ((([]),(true)),((ra.2.1.1,ra.2.1.2.1,()),())) else fA ra.2.1.1 ra.2.1.2.1 ([]):=
  (ah CC _ _ _ _).trans (by kernel_rfl)
theorem mM (x0:Bool) (x1:List ae) (x2 x3 x4:Int) (x5:List UInt8) (x6:List ab) (x7 x8:Int) (x9:List UInt8) (x10:List ab):ju x0 x1 x2 x3 x4 x5 x6 x7 x8 x9 x10=(ba 1 x1 (w64 (x2+1))).bind fun ra=>if (!ra.1.2)=true then some (((ab.mk (Int.ofNat 0) (Int.ofNat 0) [] []),(false)),((ra.2.1.1,ra.2.1.2.1,()),())) else (a7 8 ra.2.1.1 ra.2.1.2.1).bind fun rb=>if (!rb.1)=true then some (((ab.mk (Int.ofNat 0) (Int.ofNat 0) [] []),(false)),((rb.2.1.1,rb.2.1.2.1,()),())) else cc x0 rb.2.1.1 rb.2.1.2.1 x3 x4 x5 x6 5 0 [] ([ab.mk x7 x8 x9 x10,ab.mk (ab.fKind ra.1.1) (ab.fNum ra.1.1) (ab.fText ra.1.1) (ab.fKids ra.1.1)]):=
  (ah CC _ _ _ _).trans (by kernel_rfl)
theorem gk (x0:Bool) (x1:List ae) (x2 x3 x4:Int) (x5:List UInt8) (x6:List ab) (x7 x8:Int) (x9:List UInt8) (x10:List ab):dv x0 x1 x2 x3 x4 x5 x6 x7 x8 x9 x10=some (((ab.mk x7 x8 x9 x10),x0),(((x1),(x2),()),())):=
  (ah CC _ _ _ _).trans (by kernel_rfl)
theorem kI (x0:List ae) (x1:Int):ed x0 x1=(idx x0 x1).bind fun ra=>if (ra.fKind==1)=true then bP ra.fKind ra.fNum ra.fText ra.fBefore ra.fAfter else if (ra.fKind==2)=true then bP ra.fKind ra.fNum ra.fText ra.fBefore ra.fAfter else if (ra.fKind==3)=true then bP ra.fKind ra.fNum ra.fText ra.fBefore ra.fAfter else if (ra.fKind==5)=true then bP ra.fKind ra.fNum ra.fText ra.fBefore ra.fAfter else fk ra.fKind ra.fKind ra.fNum ra.fText ra.fBefore ra.fAfter:=
  (ah CC _ _ _ _).trans (by kernel_rfl)
theorem iL (x0 x1:Int) (x2:List ae) (x3 x4 x5:Int) (x6:List UInt8) (x7 x8:Bool):cP x0 x1 x2 x3 x4 x5 x6 x7 x8=if (decide (x1<=13))=true then if (x1 !=7)=true then (vo x1).bind fun ra=>if (ra==x0)=true then (qx (ae.mk x4 x5 x6 x7 x8)).bind fun rb=>if rb=true then (lL x1).bind fun rc=>if (x6==rc)=true then kf x1 x2 x3 else cQ x0 x1 x2 x3 x4 x5 x6 x7 x8 else cQ x0 x1 x2 x3 x4 x5 x6 x7 x8 else cQ x0 x1 x2 x3 x4 x5 x6 x7 x8 else cQ x0 x1 x2 x3 x4 x5 x6 x7 x8 else some ((0,(false)),(((x2),(x3),()),())):=
  (ah CC _ _ _ _).trans (by kernel_rfl)
theorem pT (x0:List ae) (x1:Int) (x2:List ab):fA x0 x1 x2=(ba 1 x0 x1).bind fun ra=>if (!ra.1.2)=true then some ((([]),(false)),((ra.2.1.1,ra.2.1.2.1,()),())) else (app x2 [ab.mk (ab.fKind ra.1.1) (ab.fNum ra.1.1) (ab.fText ra.1.1) (ab.fKids ra.1.1)]).bind fun rb=>(a7 9 ra.2.1.1 ra.2.1.2.1).bind fun rc=>if (!rc.1)=true then (a7 6 rc.2.1.1 rc.2.1.2.1).bind fun rd=>some (((rb),rd.1),((rd.2.1.1,rd.2.1.2.1,()),())) else fA rc.2.1.1 rc.2.1.2.1 rb:=
  (ah CC _ _ _ _).trans (by kernel_rfl)
theorem fp (x0:Bool) (x1:List ae) (x2 x3 x4:Int) (x5:List UInt8) (x6:List ab) (x7 x8:Int) (x9:List UInt8) (x10:List ab):cc x0 x1 x2 x3 x4 x5 x6 x7 x8 x9 x10=if x0=true then (cK x1 x2 7).bind fun ra=>if ra=true then (idx x1 x2).bind fun rb=>if (!rb.fBefore)=true then gv x0 x1 x2 x3 x4 x5 x6 x7 x8 x9 x10 else cH x0 x1 x2 x3 x4 x5 x6 x7 x8 x9 x10 else cH x0 x1 x2 x3 x4 x5 x6 x7 x8 x9 x10 else cH x0 x1 x2 x3 x4 x5 x6 x7 x8 x9 x10:=
  (ah CC _ _ _ _).trans (by kernel_rfl)
theorem i8 (x0 x1:Int) (x2:List UInt8) (x3 x4:Bool):bP x0 x1 x2 x3 x4=some x3:=
  (ah CC _ _ _ _).trans (by kernel_rfl)
theorem ja (x0 x1 x2:Int) (x3:List UInt8) (x4 x5:Bool):fk x0 x1 x2 x3 x4 x5=if (x0==4)=true then if x4=true then if (!x5)=true then ((eo ([45,42,36,46,64]) x3):Option Bool).bind fun ra=>some ra else some (false) else some (false) else some (false):=
  (ah CC _ _ _ _).trans (by kernel_rfl)
theorem nK (x0:Int) (x1:List ae) (x2:Int):kf x0 x1 x2=some (((x0),(true)),(((x1),(w64 (x2+1)),()),())):=
  (ah CC _ _ _ _).trans (by kernel_rfl)
theorem oQ (x0 x1:Int) (x2:List ae) (x3 x4 x5:Int) (x6:List UInt8) (x7 x8:Bool):cQ x0 x1 x2 x3 x4 x5 x6 x7 x8=cP x0 (w64 (x1+1)) x2 x3 x4 x5 x6 x7 x8:=
  (ah CC _ _ _ _).trans (by kernel_rfl)
theorem fq (x0:Bool) (x1:List ae) (x2 x3 x4:Int) (x5:List UInt8) (x6:List ab) (x7 x8:Int) (x9:List UInt8) (x10:List ab):gv x0 x1 x2 x3 x4 x5 x6 x7 x8 x9 x10=(ba 1 x1 (w64 (x2+1))).bind fun ra=>if (!ra.1.2)=true then some (((ab.mk (Int.ofNat 0) (Int.ofNat 0) [] []),(false)),((ra.2.1.1,ra.2.1.2.1,()),())) else (a7 8 ra.2.1.1 ra.2.1.2.1).bind fun rb=>if (!rb.1)=true then some (((ab.mk (Int.ofNat 0) (Int.ofNat 0) [] []),(false)),((rb.2.1.1,rb.2.1.2.1,()),())) else cc x0 rb.2.1.1 rb.2.1.2.1 x3 x4 x5 x6 5 0 [] ([ab.mk x7 x8 x9 x10,ab.mk (ab.fKind ra.1.1) (ab.fNum ra.1.1) (ab.fText ra.1.1) (ab.fKids ra.1.1)]):=
  (ah CC _ _ _ _).trans (by kernel_rfl)
theorem eO (x0:Bool) (x1:List ae) (x2 x3 x4:Int) (x5:List UInt8) (x6:List ab) (x7 x8:Int) (x9:List UInt8) (x10:List ab):cH x0 x1 x2 x3 x4 x5 x6 x7 x8 x9 x10=some (((ab.mk x7 x8 x9 x10),x0),(((x1),(x2),()),())):=
  (ah CC _ _ _ _).trans (by kernel_rfl)
end Go.Dv.U
