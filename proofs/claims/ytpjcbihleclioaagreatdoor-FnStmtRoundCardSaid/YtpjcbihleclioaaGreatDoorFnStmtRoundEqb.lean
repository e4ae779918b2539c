/- The functions of the program as equations on plain data, each checked by the kernel. -/
import Derived.Test.YtpjcbihleclioaaGreatDoorFnStmtRoundEqa
set_option linter.all false
set_option linter.unusedVariables false
set_option linter.unusedSimpArgs false
namespace Go.Dv.U
open Go Go.Dv Go.Proofs
set_option maxRecDepth 100000
theorem fj (x0:List UInt8) (x1:Int) (x2:List ae):fg x0 x1 x2=if (decide (x1<len x0))=true then (de x0 x1).bind fun ra=>if (w64 (x1+ra)==len x0)=true then some ((x2),0,0) else (mW x0 (w64 (x1+ra))).bind fun rb=>(jP rb.2.2 2).bind fun rc=>(jP (decide (len x2<120)) 6).bind fun rd=>(rR ([rc,rd])).bind fun re=>if (re !=0)=true then some (([]),(w64 (x1+ra)),re) else if (decide (ra>0))=true then if (w64 (w64 (x1+ra)+rb.2.1)==len x0)=true then cG x0 (w64 (w64 (x1+ra)+rb.2.1)) x2 (ae.fKind rb.1) (ae.fNum rb.1) (ae.fText rb.1) (true) (true) else (idx x0 (w64 (w64 (x1+ra)+rb.2.1))).bind fun rf=>cG x0 (w64 (w64 (x1+ra)+rb.2.1)) x2 (ae.fKind rb.1) (ae.fNum rb.1) (ae.fText rb.1) (true) (ib rf==32) else if (w64 (w64 (x1+ra)+rb.2.1)==len x0)=true then cG x0 (w64 (w64 (x1+ra)+rb.2.1)) x2 (ae.fKind rb.1) (ae.fNum rb.1) (ae.fText rb.1) (len x2==0) (true) else (idx x0 (w64 (w64 (x1+ra)+rb.2.1))).bind fun rf=>cG x0 (w64 (w64 (x1+ra)+rb.2.1)) x2 (ae.fKind rb.1) (ae.fNum rb.1) (ae.fText rb.1) (len x2==0) (ib rf==32) else some ((x2),0,0):=
  (ah CC _ _ _ _).trans (by kernel_rfl)
theorem oU (x0:List ae) (x1:Int):dt x0 x1=if (x1==len x0)=true then some (true) else (co x0 x1 10).bind fun ra=>some ra:=
  (ah CC _ _ _ _).trans (by kernel_rfl)
theorem nf (x0:List ae) (x1:Int) (x2:List UInt8) (x3:Bool) (x4 x5:Int) (x6:List UInt8) (x7:List aa) (x8:Bool) (x9 x10:Int) (x11:List UInt8) (x12:List aa) (x13:Bool) (x14 x15:Int) (x16:List UInt8) (x17:List aa) (x18 x19 x20:List UInt8):eK x0 x1 x2 x3 x4 x5 x6 x7 x8 x9 x10 x11 x12 x13 x14 x15 x16 x17 x18 x19 x20=(cM 6 x0 x1).bind fun ra=>if (ra.1.2 !=0)=true then some ((ra.1.2),((ra.2.1.1,ra.2.1.2.1,()),((x2),(true),(aa.fKind ra.1.1),(aa.fNum ra.1.1),(aa.fText ra.1.1),(aa.fKids ra.1.1),(x8),(x9),(x10),(x11),(x12),(x13),(x14),(x15),(x16),(x17),(x18),(x19),(x20),()),())) else (dt ra.2.1.1 ra.2.1.2.1).bind fun rb=>if (!rb)=true then (dR ra.2.1.1 ra.2.1.2.1).bind fun rc=>if (!rc)=true then (idx ra.2.1.1 ra.2.1.2.1).bind fun rd=>if (!rd.fBefore)=true then some ((2),((ra.2.1.1,ra.2.1.2.1,()),((x2),(true),(aa.fKind ra.1.1),(aa.fNum ra.1.1),(aa.fText ra.1.1),(aa.fKids ra.1.1),(x8),(x9),(x10),(x11),(x12),(x13),(x14),(x15),(x16),(x17),(x18),(x19),(x20),()),())) else (cM 1 ra.2.1.1 ra.2.1.2.1).bind fun re=>if (re.1.2 !=0)=true then some ((re.1.2),((re.2.1.1,re.2.1.2.1,()),((x2),(true),(aa.fKind ra.1.1),(aa.fNum ra.1.1),(aa.fText ra.1.1),(aa.fKids ra.1.1),(true),(aa.fKind re.1.1),(aa.fNum re.1.1),(aa.fText re.1.1),(aa.fKids re.1.1),(x13),(x14),(x15),(x16),(x17),(x18),(x19),(x20),()),())) else cV re.2.1.1 re.2.1.2.1 x2 (true) (aa.fKind ra.1.1) (aa.fNum ra.1.1) (aa.fText ra.1.1) (aa.fKids ra.1.1) (true) (aa.fKind re.1.1) (aa.fNum re.1.1) (aa.fText re.1.1) (aa.fKids re.1.1) x13 x14 x15 x16 x17 x18 x19 x20 else cV ra.2.1.1 ra.2.1.2.1 x2 (true) (aa.fKind ra.1.1) (aa.fNum ra.1.1) (aa.fText ra.1.1) (aa.fKids ra.1.1) x8 x9 x10 x11 x12 x13 x14 x15 x16 x17 x18 x19 x20 else cV ra.2.1.1 ra.2.1.2.1 x2 (true) (aa.fKind ra.1.1) (aa.fNum ra.1.1) (aa.fText ra.1.1) (aa.fKids ra.1.1) x8 x9 x10 x11 x12 x13 x14 x15 x16 x17 x18 x19 x20:=
  (ah CC _ _ _ _).trans (by kernel_rfl)
theorem qc (x0:Int) (x1:List ae) (x2:Int):aV x0 x1 x2=(co x1 x2 x0).bind fun ra=>if (!ra)=true then some (((false)),(((x1),(x2),()),())) else some (((true)),(((x1),(w64 (x2+1)),()),())):=
  (ah CC _ _ _ _).trans (by kernel_rfl)
theorem ng (x0:List ae) (x1:Int):dm x0 x1=(co x0 x1 5).bind fun ra=>if ra=true then (cW x0 x1).bind fun rb=>some (((ax.mk rb.1.1 [] []),rb.1.2),((rb.2.1.1,rb.2.1.2.1,()),())) else df (false) x0 x1 [] [] [] [] [] []:=
  (ah CC _ _ _ _).trans (by kernel_rfl)
theorem cy (x0:Bool) (x1:List ae) (x2:Int) (x3:List UInt8) (x4:Bool) (x5 x6:Int) (x7:List UInt8) (x8:List aa) (x9:Bool) (x10 x11:Int) (x12:List UInt8) (x13:List aa) (x14:Bool) (x15 x16:Int) (x17:List UInt8) (x18:List aa) (x19 x20 x21:List UInt8):aY x0 x1 x2 x3 x4 x5 x6 x7 x8 x9 x10 x11 x12 x13 x14 x15 x16 x17 x18 x19 x20 x21=if x0=true then (jP (x2==len x1) 2).bind fun ra=>some ((ra),(((x1),(x2),()),((x3),(x4),(x5),(x6),(x7),(x8),(x9),(x10),(x11),(x12),(x13),(x14),(x15),(x16),(x17),(x18),(x19),(x20),(x21),()),())) else (jP (false) 2).bind fun ra=>some ((ra),(((x1),(x2),()),((x3),(x4),(x5),(x6),(x7),(x8),(x9),(x10),(x11),(x12),(x13),(x14),(x15),(x16),(x17),(x18),(x19),(x20),(x21),()),())):=
  (ah CC _ _ _ _).trans (by kernel_rfl)
theorem g8 (x0:Bool) (x1:Int):jP x0 x1=if x0=true then some 0 else some x1:=
  (ah CC _ _ _ _).trans (by kernel_rfl)
theorem ub (x0:List Int):rR x0=oM x0 (len x0) 0:=
  (ah CC _ _ _ _).trans (by kernel_rfl)
theorem pJ (x0 x1:Int) (x2:List UInt8) (x3:List aa) (x4 x5:Int) (x6:List UInt8) (x7:List aa):nZ x0 x1 x2 x3 x4 x5 x6 x7=if (x0 !=x4)=true then f7 else if (x1 !=x5)=true then f7 else if (!x2==x6)=true then f7 else if (len x3 !=len x7)=true then f7 else pF x0 x1 x2 x3 x4 x5 x6 x7:=
  (ah CC _ _ _ _).trans (by kernel_rfl)
theorem qd (x0:List Int) (x1 x2:Int):gC x0 x1 x2=if (decide (x1<len x0))=true then (idx x0 x1).bind fun ra=>if (decide (w64 (x1+1)<=len x0))=true then some (((w64 ra)),(((x0),(w64 (x1+1)),(Go.IntKind.wrap Go.IntKind.u64 (Go.IntKind.wrap Go.IntKind.u64 (Go.IntKind.wrap Go.IntKind.u64 (x2*6364136223846793005)+Go.IntKind.wrap Go.IntKind.u64 (w64 ra))+1442695040888963407)),()),())) else ((shr Go.IntKind.u64 (Go.IntKind.wrap Go.IntKind.u64 (Go.IntKind.wrap Go.IntKind.u64 (Go.IntKind.wrap Go.IntKind.u64 (x2*6364136223846793005)+Go.IntKind.wrap Go.IntKind.u64 (w64 ra))+1442695040888963407)) 40):Option Int).bind fun rb=>some (((w64 (mz Go.BinOp.and Go.IntKind.u64 rb 255))),(((x0),(w64 (x1+1)),(Go.IntKind.wrap Go.IntKind.u64 (Go.IntKind.wrap Go.IntKind.u64 (Go.IntKind.wrap Go.IntKind.u64 (x2*6364136223846793005)+Go.IntKind.wrap Go.IntKind.u64 (w64 ra))+1442695040888963407)),()),())) else if (decide (w64 (x1+1)<=len x0))=true then some ((0),(((x0),(w64 (x1+1)),(Go.IntKind.wrap Go.IntKind.u64 (Go.IntKind.wrap Go.IntKind.u64 (Go.IntKind.wrap Go.IntKind.u64 (x2*6364136223846793005)+Go.IntKind.wrap Go.IntKind.u64 0)+1442695040888963407)),()),())) else ((shr Go.IntKind.u64 (Go.IntKind.wrap Go.IntKind.u64 (Go.IntKind.wrap Go.IntKind.u64 (Go.IntKind.wrap Go.IntKind.u64 (x2*6364136223846793005)+Go.IntKind.wrap Go.IntKind.u64 0)+1442695040888963407)) 40):Option Int).bind fun rc=>some (((w64 (mz Go.BinOp.and Go.IntKind.u64 rc 255))),(((x0),(w64 (x1+1)),(Go.IntKind.wrap Go.IntKind.u64 (Go.IntKind.wrap Go.IntKind.u64 (Go.IntKind.wrap Go.IntKind.u64 (x2*6364136223846793005)+Go.IntKind.wrap Go.IntKind.u64 0)+1442695040888963407)),()),())):=
  (ah CC _ _ _ _).trans (by kernel_rfl)
theorem oV (x0 x1:List Int) (x2 x3:Int):fU x0 x1 x2 x3=(ay (len x0) x1 x2 x3).bind fun ra=>(idx x0 ra.1).bind fun rb=>some ((rb),((ra.2.1.1,ra.2.1.2.1,ra.2.1.2.2.1,()),())):=
  (ah CC _ _ _ _).trans (by kernel_rfl)
theorem nh (x0:List Int) (x1 x2:Int) (x3:List UInt8) (x4:Bool) (x5 x6:Int) (x7:List UInt8) (x8:Bool) (x9 x10:Int) (x11:List UInt8) (x12:Bool) (x13 x14:Int) (x15 x16 x17 x18:List UInt8) (x19 x20 x21:List aa) (x22:List UInt8) (x23:Bool) (x24 x25:Int) (x26:List UInt8) (x27:List aa) (x28:Bool) (x29 x30:Int) (x31:List UInt8) (x32:List aa) (x33:Bool) (x34 x35:Int) (x36:List UInt8) (x37:List aa) (x38 x39 x40:List UInt8):cD x0 x1 x2 x3 x4 x5 x6 x7 x8 x9 x10 x11 x12 x13 x14 x15 x16 x17 x18 x19 x20 x21 x22 x23 x24 x25 x26 x27 x28 x29 x30 x31 x32 x33 x34 x35 x36 x37 x38 x39 x40=some (((ab.mk x22 x23 (aa.mk x24 x25 x26 x27) x28 (aa.mk x29 x30 x31 x32) x33 (aa.mk x34 x35 x36 x37) (ax.mk x38 x39 x40))),(((x0),(x1),(x2),()),())):=
  (ah CC _ _ _ _).trans (by kernel_rfl)
theorem ni (x0:List Int) (x1 x2:Int) (x3:List UInt8) (x4:Bool) (x5 x6:Int) (x7:List UInt8) (x8:Bool) (x9 x10:Int) (x11:List UInt8) (x12:Bool) (x13 x14:Int) (x15 x16 x17 x18:List UInt8) (x19 x20 x21:List aa) (x22:List UInt8) (x23:Bool) (x24 x25:Int) (x26:List UInt8) (x27:List aa) (x28:Bool) (x29 x30:Int) (x31:List UInt8) (x32:Bool) (x33 x34:Int) (x35:List UInt8) (x36:List aa) (x37 x38 x39:List UInt8) (x40:List aa):bR x0 x1 x2 x3 x4 x5 x6 x7 x8 x9 x10 x11 x12 x13 x14 x15 x16 x17 x18 x19 x20 x21 x22 x23 x24 x25 x26 x27 x28 x29 x30 x31 x32 x33 x34 x35 x36 x37 x38 x39 x40=some (((ab.mk x22 x23 (aa.mk x24 x25 x26 x27) x28 (aa.mk x29 x30 x31 x40) x32 (aa.mk x33 x34 x35 x36) (ax.mk x37 x38 x39))),(((x0),(x1),(x2),()),())):=
  (ah CC _ _ _ _).trans (by kernel_rfl)
theorem nj (x0:List Int) (x1 x2:Int) (x3:List UInt8) (x4:Bool) (x5 x6:Int) (x7:List UInt8) (x8:Bool) (x9 x10:Int) (x11:List UInt8) (x12:Bool) (x13 x14:Int) (x15 x16 x17 x18:List UInt8) (x19 x20 x21:List aa) (x22:List UInt8) (x23:Bool) (x24 x25:Int) (x26:List UInt8) (x27:List aa) (x28:Bool) (x29 x30:Int) (x31:List UInt8) (x32:List aa) (x33:Bool) (x34 x35:Int) (x36 x37 x38 x39:List UInt8) (x40:List aa):cE x0 x1 x2 x3 x4 x5 x6 x7 x8 x9 x10 x11 x12 x13 x14 x15 x16 x17 x18 x19 x20 x21 x22 x23 x24 x25 x26 x27 x28 x29 x30 x31 x32 x33 x34 x35 x36 x37 x38 x39 x40=some (((ab.mk x22 x23 (aa.mk x24 x25 x26 x27) x28 (aa.mk x29 x30 x31 x32) x33 (aa.mk x34 x35 x36 x40) (ax.mk x37 x38 x39))),(((x0),(x1),(x2),()),())):=
  (ah CC _ _ _ _).trans (by kernel_rfl)
theorem nk (x0:List Int) (x1 x2:Int) (x3:List UInt8) (x4:Bool) (x5 x6:Int) (x7:List UInt8) (x8:Bool) (x9 x10:Int) (x11:List UInt8) (x12:Bool) (x13 x14:Int) (x15 x16 x17 x18:List UInt8) (x19 x20 x21:List aa) (x22:List UInt8) (x23:Bool) (x24 x25:Int) (x26:List UInt8) (x27:List aa) (x28:Bool) (x29 x30:Int) (x31:List UInt8) (x32:Bool) (x33 x34:Int) (x35 x36 x37 x38:List UInt8) (x39 x40:List aa):bS x0 x1 x2 x3 x4 x5 x6 x7 x8 x9 x10 x11 x12 x13 x14 x15 x16 x17 x18 x19 x20 x21 x22 x23 x24 x25 x26 x27 x28 x29 x30 x31 x32 x33 x34 x35 x36 x37 x38 x39 x40=some (((ab.mk x22 x23 (aa.mk x24 x25 x26 x27) x28 (aa.mk x29 x30 x31 x39) x32 (aa.mk x33 x34 x35 x40) (ax.mk x36 x37 x38))),(((x0),(x1),(x2),()),())):=
  (ah CC _ _ _ _).trans (by kernel_rfl)
theorem g9 (x0 x1:Int) (x2:(List (List UInt8))) (x3:(List (List UInt8))):cF x0 x1 x2 x3=if (decide (x1<x0))=true then (idx x3 x1).bind fun ra=>((x3[Int.toNat x1]?):Option (List UInt8)).bind fun rb=>if (!rb==[])=true then (app x2 [rb]).bind fun rc=>cF x0 (w64 (x1+1)) rc x3 else cF x0 (w64 (x1+1)) x2 x3 else some x2:=
  (ah CC _ _ _ _).trans (by kernel_rfl)
theorem fu (x0:(List (List UInt8))) (x1 x2:Int):bD x0 x1 x2=if (decide (x2<x1))=true then (idx x0 x2).bind fun ra=>(jh ra).bind fun rb=>if (!rb)=true then some (false) else bD x0 x1 (w64 (x2+1)) else some (true):=
  (ah CC _ _ _ _).trans (by kernel_rfl)
theorem tj (x0:aa):jQ x0=(iA x0.re 0).bind fun ra=>some (decide (ra<=60)):=
  (ah CC _ _ _ _).trans (by kernel_rfl)
theorem uU (x0 x1:aa):oL x0 x1=if (x0.fKind==x1.fKind)=true then if (x0.fNum==x1.fNum)=true then if (x0.fText==x1.fText)=true then (aH x0.fKids x1.fKids).bind fun ra=>some ra else some (false) else some (false) else some (false):=
  (ah CC _ _ _ _).trans (by kernel_rfl)
theorem kL : gV=some (false):=
  (ah CC _ _ _ _).trans (by kernel_rfl)
theorem kM (x0:List UInt8) (x1:Bool) (x2 x3:Int) (x4:List UInt8) (x5:List aa) (x6:Bool) (x7 x8:Int) (x9:List UInt8) (x10:List aa) (x11:Bool) (x12 x13:Int) (x14:List UInt8) (x15:List aa) (x16 x17 x18:List UInt8):bY x0 x1 x2 x3 x4 x5 x6 x7 x8 x9 x10 x11 x12 x13 x14 x15 x16 x17 x18=(eJ (ab.mk x0 x1 (aa.mk x2 x3 x4 x5) x6 (aa.mk x7 x8 x9 x10) x11 (aa.mk x12 x13 x14 x15) (ax.mk x16 x17 x18))).bind fun ra=>(dy ra x0).bind fun rb=>(iw rb).bind fun rc=>if (decide (len ra<=4000))=true then some (rc.2.2==0) else some (false):=
  (ah CC _ _ _ _).trans (by kernel_rfl)
theorem tn : mV=some 4:=
  (ah CC _ _ _ _).trans (by kernel_rfl)
theorem tp (x0:Int):rS x0=if (x0==12)=true then some 5 else if (x0==13)=true then some 5 else if (x0==14)=true then fK else if (x0==15)=true then fK else if (x0==16)=true then fK else if (x0==17)=true then fK else if (x0==18)=true then fK else rT:=
  (ah CC _ _ _ _).trans (by kernel_rfl)
theorem uV (x0:List UInt8):jl x0=if (decide (len x0<=200))=true then (fe x0).bind fun ra=>if ra=true then ((dD x0 ([39])):Option Bool).bind fun rb=>if rb=true then ((dD x0 ([34])):Option Bool).bind fun rc=>some (!rc) else some (true) else some (false) else some (false):=
  (ah CC _ _ _ _).trans (by kernel_rfl)
theorem xM (x0 x1 x2:Int):jR x0 x1 x2=if (decide (x0>=x1))=true then some (decide (x0<=x2)) else some (false):=
  (ah CC _ _ _ _).trans (by kernel_rfl)
theorem oW (x0:List UInt8):du x0=if (x0==[])=true then some [] else ((app ([58]) x0):Option (List UInt8)).bind fun ra=>some ra:=
  (ah CC _ _ _ _).trans (by kernel_rfl)
theorem r8 (x0:List UInt8) (x1:Int):iz x0 x1=if (decide (x1>=len x0))=true then some x1 else (idx x0 x1).bind fun ra=>(gW (ib ra)).bind fun rb=>if (!rb)=true then some x1 else fh x0 x1:=
  (ah CC _ _ _ _).trans (by kernel_rfl)
theorem zH (x0 x1:Int) (x2:List UInt8) (x3:List aa):xF x0 x1 x2 x3=(n8 x0 x1 x2 x3).bind fun ra=>if (decide (ra<=60))=true then (jn x0 x1 x2 x3).bind fun rb=>some rb else some (false):=
  (ah CC _ _ _ _).trans (by kernel_rfl)
theorem oX : iR=some 4:=
  (ah CC _ _ _ _).trans (by kernel_rfl)
theorem oY (x0:Int):mF x0=if (x0==12)=true then some 5 else if (x0==13)=true then some 5 else if (x0==14)=true then dv else if (x0==15)=true then dv else if (x0==16)=true then dv else if (x0==17)=true then dv else if (x0==18)=true then dv else mG:=
  (ah CC _ _ _ _).trans (by kernel_rfl)
theorem uW (x0:List UInt8):l0 x0=if (decide (len x0<=200))=true then (ew x0 (false)).bind fun ra=>if ra=true then (jm x0 39).bind fun rb=>if rb=true then (jm x0 34).bind fun rc=>some (!rc) else some (true) else some (false) else some (false):=
  (ah CC _ _ _ _).trans (by kernel_rfl)
theorem uX (x0:List UInt8) (x1:Int):jm x0 x1=gE x0 x1 0:=
  (ah CC _ _ _ _).trans (by kernel_rfl)
theorem iV (x0:Int) (x1:List UInt8):jS x0 x1=if (decide (x0>=10))=true then ((rem x0 10):Option Int).bind fun ra=>(app (List.map (fun (n:Int) ↦ UInt8.ofNat (Int.toNat n)) [Go.IntKind.wrap Go.IntKind.u8 (w64 (48+ra))]) x1).bind fun rb=>((quo Go.IntKind.i64 x0 10):Option Int).bind fun rc=>jS rc rb else (app (List.map (fun (n:Int) ↦ UInt8.ofNat (Int.toNat n)) [Go.IntKind.wrap Go.IntKind.u8 (w64 (48+x0))]) x1).bind fun ra=>some ra:=
  (ah CC _ _ _ _).trans (by kernel_rfl)
theorem qe (x0 x1 x2 x3:List UInt8):gD x0 x1 x2 x3=if (!x3==[])=true then ((app ([70,40]) x3):Option (List UInt8)).bind fun ra=>(app ra ([41])).bind fun rb=>(app x0 rb).bind fun rc=>some rc else some x0:=
  (ah CC _ _ _ _).trans (by kernel_rfl)
theorem mj : cU=some (false):=
  (ah CC _ _ _ _).trans (by kernel_rfl)
theorem mn (x0:List UInt8) (x1:Bool) (x2:Int):dQ x0 x1 x2=dP x0 x1 (w64 (x2+1)):=
  (ah CC _ _ _ _).trans (by kernel_rfl)
theorem xN (x0:List UInt8) (x1:Int):uO x0 x1=(idx x0 x1).bind fun ra=>(gW (ib ra)).bind fun rb=>if rb=true then (iz x0 x1).bind fun rc=>if (decide (w64 (rc-x1)>12))=true then some ((ae.mk (Int.ofNat 0) (Int.ofNat 0) [] false false),(-1)) else (cut x0 x1 (Option.getD (Option.some rc) (len x0))).bind fun rd=>some ((ae.mk (Int.ofNat 1) (Int.ofNat 0) rd false false),rc) else (jo (ib ra)).bind fun rc=>if rc=true then iB x0 x1 0 x1 0 0 [] (false) (false) else if (ib ra==39)=true then eX x0 x1 (ib ra) (w64 (x1+1)) 0 0 [] (false) (false) else if (ib ra==34)=true then eX x0 x1 (ib ra) (w64 (x1+1)) 0 0 [] (false) (false) else (jT (ib ra)).bind fun re=>if re=true then (cut x0 x1 (Option.getD (Option.some (w64 (x1+1))) (len x0))).bind fun rf=>some ((ae.mk (Int.ofNat 4) (Int.ofNat 0) rf false false),(w64 (x1+1))) else dE x1 (ib ra) [40,41,60,62,44,58] 0 0 0 [] (false) (false):=
  (ah CC _ _ _ _).trans (by kernel_rfl)
theorem wG (x0:Int):n7 x0=if (decide (x0>=32))=true then some (decide (x0<=126)) else some (false):=
  (ah CC _ _ _ _).trans (by kernel_rfl)
theorem fk (x0:List Int) (x1 x2:Int):bA x0 x1 x2=if (decide (x2<x1))=true then (idx x0 x2).bind fun ra=>(f8 ra).bind fun rb=>if (!rb)=true then some (false) else bA x0 x1 (w64 (x2+1)) else some (true):=
  (ah CC _ _ _ _).trans (by kernel_rfl)
theorem ij (x0:List UInt8) (x1:Int):de x0 x1=bU x0 x1 x1:=
  (ah CC _ _ _ _).trans (by kernel_rfl)
theorem tq (x0:List UInt8) (x1:Int):mW x0 x1=(idx x0 x1).bind fun ra=>(jk (ib ra)).bind fun rb=>if rb=true then (d9 x0 x1).bind fun rc=>(cut x0 x1 (Option.getD (Option.some (w64 (x1+rc))) (len x0))).bind fun rd=>some ((ae.mk (Int.ofNat 1) (Int.ofNat 0) rd false false),(rc),(decide (rc<=12))) else (lj (ib ra)).bind fun rc=>if rc=true then (fL x0 x1).bind fun re=>(cut x0 x1 (Option.getD (Option.some (w64 (x1+re))) (len x0))).bind fun rf=>((lX rf):Option (Int×Bool)).bind fun rg=>some ((ae.mk (Int.ofNat 2) rg.1 [] false false),(re),rg.2) else if (ib ra==39)=true then (bV x0 (w64 (x1+1)) (ib ra)).bind fun rh=>(cut x0 (w64 (x1+1)) (Option.getD (Option.some (w64 (w64 (x1+1)+rh))) (len x0))).bind fun rg=>if (decide (w64 (w64 (x1+1)+rh)<len x0))=true then some ((ae.mk (Int.ofNat 3) (Int.ofNat 0) rg false false),(w64 (rh+2)),(decide (rh<=200))) else some ((ae.mk (Int.ofNat 3) (Int.ofNat 0) rg false false),(w64 (rh+2)),(false)) else if (ib ra==34)=true then (bV x0 (w64 (x1+1)) (ib ra)).bind fun ri=>(cut x0 (w64 (x1+1)) (Option.getD (Option.some (w64 (w64 (x1+1)+ri))) (len x0))).bind fun rj=>if (decide (w64 (w64 (x1+1)+ri)<len x0))=true then some ((ae.mk (Int.ofNat 3) (Int.ofNat 0) rj false false),(w64 (ri+2)),(decide (ri<=200))) else some ((ae.mk (Int.ofNat 3) (Int.ofNat 0) rj false false),(w64 (ri+2)),(false)) else ((fI ([43,45,42,47,124,46,36,64,61]) (ib ra)):Option Int).bind fun rg=>if (decide (rg>=0))=true then ((chr (ib ra)):Option (List UInt8)).bind fun rk=>some ((ae.mk (Int.ofNat 4) (Int.ofNat 0) rk false false),1,(true)) else ((fI ([40,41,60,62,44,58]) (ib ra)):Option Int).bind fun rk=>some ((ae.mk (w64 (5+rk)) (Int.ofNat 0) [] false false),1,(decide (rk>=0))):=
  (ah CC _ _ _ _).trans (by kernel_rfl)
theorem nn (x0:List UInt8) (x1:Int) (x2:List ae) (x3 x4:Int) (x5:List UInt8) (x6 x7:Bool):cG x0 x1 x2 x3 x4 x5 x6 x7=(app x2 [ae.mk x3 x4 x5 x6 x7]).bind fun ra=>fg x0 x1 ra:=
  (ah CC _ _ _ _).trans (by kernel_rfl)
theorem r9 (x0:List ae) (x1 x2:Int):co x0 x1 x2=if (decide (x1<len x0))=true then (idx x0 x1).bind fun ra=>some (ra.fKind==x2) else some (false):=
  (ah CC _ _ _ _).trans (by kernel_rfl)
theorem qf (x0:Int) (x1:List ae) (x2:Int):cM x0 x1 x2=(n9 x1 x2 x0).bind fun ra=>if (ra.2.2==0)=true then some (((aa.mk (aa.fKind ra.1) (aa.fNum ra.1) (aa.fText ra.1) (aa.fKids ra.1)),ra.2.2),(((x1),ra.2.1,()),())) else some (((aa.mk (aa.fKind ra.1) (aa.fNum ra.1) (aa.fText ra.1) (aa.fKids ra.1)),ra.2.2),(((x1),(x2),()),())):=
  (ah CC _ _ _ _).trans (by kernel_rfl)
theorem mo (x0:List ae) (x1:Int):dR x0 x1=(co x0 x1 4).bind fun ra=>if ra=true then (idx x0 x1).bind fun rb=>(oa rb).bind fun rc=>if rc=true then (idx x0 x1).bind fun rd=>some (rd.fText==[61]) else some (false) else some (false):=
  (ah CC _ _ _ _).trans (by kernel_rfl)
theorem mq (x0:List ae) (x1:Int) (x2:List UInt8) (x3:Bool) (x4 x5:Int) (x6:List UInt8) (x7:List aa) (x8:Bool) (x9 x10:Int) (x11:List UInt8) (x12:List aa) (x13:Bool) (x14 x15:Int) (x16:List UInt8) (x17:List aa) (x18 x19 x20:List UInt8):cV x0 x1 x2 x3 x4 x5 x6 x7 x8 x9 x10 x11 x12 x13 x14 x15 x16 x17 x18 x19 x20=(dR x0 x1).bind fun ra=>if (!ra)=true then some ((0),(((x0),(x1),()),((x2),(x3),(x4),(x5),(x6),(x7),(x8),(x9),(x10),(x11),(x12),(x13),(x14),(x15),(x16),(x17),(x18),(x19),(x20),()),())) else (dt x0 (w64 (x1+1))).bind fun rb=>if rb=true then some ((0),(((x0),(w64 (x1+1)),()),((x2),(x3),(x4),(x5),(x6),(x7),(x8),(x9),(x10),(x11),(x12),(true),1,0,[],([]),(x18),(x19),(x20),()),())) else (cM 1 x0 (w64 (x1+1))).bind fun rc=>some ((rc.1.2),((rc.2.1.1,rc.2.1.2.1,()),((x2),(x3),(x4),(x5),(x6),(x7),(x8),(x9),(x10),(x11),(x12),(true),(aa.fKind rc.1.1),(aa.fNum rc.1.1),(aa.fText rc.1.1),(aa.fKids rc.1.1),(x18),(x19),(x20),()),())):=
  (ah CC _ _ _ _).trans (by kernel_rfl)
theorem og (x0:List ae) (x1:Int):cW x0 x1=(aV 5 x0 x1).bind fun ra=>if (!ra.1)=true then some (([],(false)),((ra.2.1.1,ra.2.1.2.1,()),())) else (ci ra.2.1.1 ra.2.1.2.1).bind fun rb=>if rb.1.2=true then (aV 6 rb.2.1.1 rb.2.1.2.1).bind fun rc=>some ((rb.1.1,rc.1),((rc.2.1.1,rc.2.1.2.1,()),())) else some ((rb.1.1,(false)),((rb.2.1.1,rb.2.1.2.1,()),())):=
  (ah CC _ _ _ _).trans (by kernel_rfl)
theorem kN (x0:Bool) (x1:List ae) (x2:Int) (x3 x4 x5 x6 x7 x8:List UInt8):df x0 x1 x2 x3 x4 x5 x6 x7 x8=(co x1 x2 1).bind fun ra=>if ra=true then (ci x1 x2).bind fun rb=>if (rb.1.1==[83])=true then if (x7==[])=true then (cW rb.2.1.1 rb.2.1.2.1).bind fun rc=>ed rc.1.2 rc.2.1.1 rc.2.1.2.1 x3 x4 x5 x6 rc.1.1 x8 else if (rb.1.1==[70])=true then if (x8==[])=true then ee rb.2.1.1 rb.2.1.2.1 x3 x4 x5 x6 x7 x8 else bZ rb.2.1.1 rb.2.1.2.1 x3 x4 x5 else bZ rb.2.1.1 rb.2.1.2.1 x3 x4 x5 else if (rb.1.1==[70])=true then if (x8==[])=true then ee rb.2.1.1 rb.2.1.2.1 x3 x4 x5 x6 x7 x8 else bZ rb.2.1.1 rb.2.1.2.1 x3 x4 x5 else bZ rb.2.1.1 rb.2.1.2.1 x3 x4 x5 else some (((ax.mk x6 x7 x8),x0),(((x1),(x2),()),())):=
  (ah CC _ _ _ _).trans (by kernel_rfl)
theorem dS (x0:List Int) (x1 x2:Int):oM x0 x1 x2=if (decide (x2<x1))=true then (idx x0 x2).bind fun ra=>if (ra !=0)=true then some ra else oM x0 x1 (w64 (x2+1)) else some 0:=
  (ah CC _ _ _ _).trans (by kernel_rfl)
theorem sA : f7=some (false):=
  (ah CC _ _ _ _).trans (by kernel_rfl)
theorem lw (x0 x1:Int) (x2:List UInt8) (x3:List aa) (x4 x5:Int) (x6:List UInt8) (x7:List aa):pF x0 x1 x2 x3 x4 x5 x6 x7=iC x0 x1 x2 x3 x4 x5 x6 x7 0:=
  (ah CC _ _ _ _).trans (by kernel_rfl)
theorem sB (x0:aa) (x1:Int):iA x0 x1=if (decide (w64 (x1+1)>60))=true then some 61 else (gg x0.re).bind fun ra=>if (!ra)=true then some 61 else dF (w64 (x1+1)) x0.fKids (len x0.fKids) 0:=
  (ah CC _ _ _ _).trans (by kernel_rfl)
theorem bJ (x0 x1:List aa):aH x0 x1=if (len x0 !=len x1)=true then some (false) else aB x1 x0 (len x0) 0:=
  (ah CC _ _ _ _).trans (by kernel_rfl)
theorem lx (x0 x1:List UInt8):dy x0 x1=(cX x0 x1).bind fun ra=>some ra:=
  (ah CC _ _ _ _).trans (by kernel_rfl)
theorem tu : fK=some 6:=
  (ah CC _ _ _ _).trans (by kernel_rfl)
theorem tv : rT=some 7:=
  (ah CC _ _ _ _).trans (by kernel_rfl)
theorem tx (x0:Int):gW x0=if (decide (x0>=65))=true then if (decide (x0<=90))=true then some (true) else if (decide (x0>=97))=true then some (decide (x0<=122)) else some (false) else if (decide (x0>=97))=true then some (decide (x0<=122)) else some (false):=
  (ah CC _ _ _ _).trans (by kernel_rfl)
theorem iG (x0:List UInt8) (x1:Int):fh x0 x1=if (decide (x1<len x0))=true then (idx x0 x1).bind fun ra=>(gW (ib ra)).bind fun rb=>if rb=true then fi x0 x1 else (idx x0 x1).bind fun rc=>(jo (ib rc)).bind fun rd=>if rd=true then fi x0 x1 else (idx x0 x1).bind fun re=>if (ib re==95)=true then fi x0 x1 else gX x1 else gX x1:=
  (ah CC _ _ _ _).trans (by kernel_rfl)
theorem wH (x0 x1:Int) (x2:List UInt8) (x3:List aa):n8 x0 x1 x2 x3=f9 x0 x1 x2 x3 1 0:=
  (ah CC _ _ _ _).trans (by kernel_rfl)
theorem uY (x0 x1:Int) (x2:List UInt8) (x3:List aa):jn x0 x1 x2 x3=(oN x0 x1 x2 x3).bind fun ra=>if (!ra)=true then some (false) else gF x0 x1 x2 x3 0:=
  (ah CC _ _ _ _).trans (by kernel_rfl)
theorem oZ : dv=some 6:=
  (ah CC _ _ _ _).trans (by kernel_rfl)
theorem o4 : mG=some 7:=
  (ah CC _ _ _ _).trans (by kernel_rfl)
theorem qg (x0:List UInt8) (x1 x2:Int):gE x0 x1 x2=if (decide (x2<len x0))=true then (idx x0 x2).bind fun ra=>if (ib ra==x1)=true then some (true) else gE x0 x1 (w64 (x2+1)) else some (false):=
  (ah CC _ _ _ _).trans (by kernel_rfl)
theorem uZ (x0:Int):jo x0=if (decide (x0>=48))=true then some (decide (x0<=57)) else some (false):=
  (ah CC _ _ _ _).trans (by kernel_rfl)
theorem ly (x0:List UInt8) (x1 x2 x3 x4 x5:Int) (x6:List UInt8) (x7 x8:Bool):iB x0 x1 x2 x3 x4 x5 x6 x7 x8=if (decide (x3<len x0))=true then (idx x0 x3).bind fun ra=>(jo (ib ra)).bind fun rb=>if rb=true then if (decide (w64 (x3-x1)<14))=true then pG x0 x1 x2 x3 x4 x5 x6 x7 x8 else ga x1 x2 x3 x4 x5 x6 x7 x8 else ga x1 x2 x3 x4 x5 x6 x7 x8 else ga x1 x2 x3 x4 x5 x6 x7 x8:=
  (ah CC _ _ _ _).trans (by kernel_rfl)
theorem lz (x0:List UInt8) (x1 x2 x3 x4 x5:Int) (x6:List UInt8) (x7 x8:Bool):eX x0 x1 x2 x3 x4 x5 x6 x7 x8=if (decide (x3<len x0))=true then (idx x0 x3).bind fun ra=>if (ib ra !=x2)=true then eX x0 x1 x2 (w64 (x3+1)) x4 x5 x6 x7 x8 else if (x3==len x0)=true then gb x4 x5 x6 x7 x8 else if (decide (w64 (w64 (x3-x1)-1)>200))=true then gb x4 x5 x6 x7 x8 else lk x0 x1 x3 x4 x5 x6 x7 x8 else if (x3==len x0)=true then gb x4 x5 x6 x7 x8 else if (decide (w64 (w64 (x3-x1)-1)>200))=true then gb x4 x5 x6 x7 x8 else lk x0 x1 x3 x4 x5 x6 x7 x8:=
  (ah CC _ _ _ _).trans (by kernel_rfl)
theorem qh (x0:Int):jT x0=if (x0==43)=true then ba else if (x0==45)=true then ba else if (x0==42)=true then ba else if (x0==47)=true then ba else if (x0==124)=true then ba else if (x0==46)=true then ba else if (x0==36)=true then ba else if (x0==64)=true then ba else if (x0==61)=true then ba else jp:=
  (ah CC _ _ _ _).trans (by kernel_rfl)
theorem lA (x0 x1:Int) (x2:List UInt8) (x3 x4 x5:Int) (x6:List UInt8) (x7 x8:Bool):dE x0 x1 x2 x3 x4 x5 x6 x7 x8=if (decide (x3<len x2))=true then (idx x2 x3).bind fun ra=>if (ib ra==x1)=true then some ((ae.mk (w64 (5+x3)) (Int.ofNat 0) [] false false),(w64 (x0+1))) else dE x0 x1 x2 (w64 (x3+1)) x4 x5 x6 x7 x8 else some ((ae.mk (Int.ofNat 0) (Int.ofNat 0) [] false false),(-1)):=
  (ah CC _ _ _ _).trans (by kernel_rfl)
theorem sC (x0:Int):f8 x0=(jk x0).bind fun ra=>if ra=true then some (true) else (lj x0).bind fun rb=>if rb=true then some (true) else some (x0==95):=
  (ah CC _ _ _ _).trans (by kernel_rfl)
theorem gj (x0:List UInt8) (x1 x2:Int):bU x0 x1 x2=if (decide (x2<len x0))=true then (idx x0 x2).bind fun ra=>(lm (ib ra)).bind fun rb=>if rb=true then bU x0 x1 (w64 (x2+1)) else some (w64 (x2-x1)) else some (w64 (x2-x1)):=
  (ah CC _ _ _ _).trans (by kernel_rfl)
theorem jX (x0:List UInt8) (x1:Int):d9 x0 x1=cj x0 x1 x1:=
  (ah CC _ _ _ _).trans (by kernel_rfl)
theorem wI (x0:Int):lj x0=if (decide (x0>=48))=true then some (decide (x0<=57)) else some (false):=
  (ah CC _ _ _ _).trans (by kernel_rfl)
theorem mr (x0:List UInt8) (x1:Int):fL x0 x1=cP x0 x1 x1:=
  (ah CC _ _ _ _).trans (by kernel_rfl)
theorem iW (x0:List UInt8) (x1 x2:Int):bV x0 x1 x2=b5 x0 x1 x2 x1:=
  (ah CC _ _ _ _).trans (by kernel_rfl)
theorem wJ (x0:List ae) (x1 x2:Int):n9 x0 x1 x2=if (decide (len x0>120))=true then ln 0 0 [] ([]) else (bN x0).bind fun ra=>if (!ra)=true then ln 0 0 [] ([]) else (jR x1 0 (len x0)).bind fun rb=>if (!rb)=true then ln 0 0 [] ([]) else pH x0 x1 x2 0 0 [] ([]):=
  (ah CC _ _ _ _).trans (by kernel_rfl)
theorem wK (x0:ae):oa x0=(iD x0).bind fun ra=>if ra=true then if (x0.fKind==4)=true then if x0.fBefore=true then some x0.fAfter else some (false) else some (false) else some (false):=
  (ah CC _ _ _ _).trans (by kernel_rfl)
theorem qi (x0:List ae) (x1:Int):ci x0 x1=(aV 1 x0 x1).bind fun ra=>if (!ra.1)=true then some (([],(false)),((ra.2.1.1,ra.2.1.2.1,()),())) else (idx ra.2.1.1 (w64 (ra.2.1.2.1-1))).bind fun rb=>some ((rb.fText,(true)),((ra.2.1.1,ra.2.1.2.1,()),())):=
  (ah CC _ _ _ _).trans (by kernel_rfl)
theorem cm (x0:Bool) (x1:List ae) (x2:Int) (x3 x4 x5 x6 x7 x8:List UInt8):ed x0 x1 x2 x3 x4 x5 x6 x7 x8=if (!x0)=true then some (((ax.mk [] [] []),(false)),(((x1),(x2),()),())) else df x0 x1 x2 x3 x4 x5 x6 x7 x8:=
  (ah CC _ _ _ _).trans (by kernel_rfl)
theorem jY (x0:List ae) (x1:Int) (x2 x3 x4 x5 x6 x7:List UInt8):ee x0 x1 x2 x3 x4 x5 x6 x7=(cW x0 x1).bind fun ra=>ed ra.1.2 ra.2.1.1 ra.2.1.2.1 x2 x3 x4 x5 x6 ra.1.1:=
  (ah CC _ _ _ _).trans (by kernel_rfl)
theorem kO (x0:List ae) (x1:Int) (x2 x3 x4:List UInt8):bZ x0 x1 x2 x3 x4=some (((ax.mk [] [] []),(false)),(((x0),(x1),()),())):=
  (ah CC _ _ _ _).trans (by kernel_rfl)
theorem hC (x0 x1:Int) (x2:List UInt8) (x3:List aa) (x4 x5:Int) (x6:List UInt8) (x7:List aa) (x8:Int):iC x0 x1 x2 x3 x4 x5 x6 x7 x8=if (decide (x8<len x3))=true then (idx x3 x8).bind fun ra=>(idx x7 x8).bind fun rb=>(nZ ra.fKind ra.fNum ra.fText ra.fKids rb.fKind rb.fNum rb.fText rb.fKids).bind fun rc=>if (!rc)=true then some (false) else iC x0 x1 x2 x3 x4 x5 x6 x7 (w64 (x8+1)) else some (true):=
  (ah CC _ _ _ _).trans (by kernel_rfl)
theorem nq (x0:aa):gg x0=if (x0.fKind==1)=true then if (len x0.fKids==0)=true then if (x0.fNum==0)=true then (jl x0.fText).bind fun ra=>some ra else some (false) else some (false) else if (x0.fKind==2)=true then if (len x0.fKids==0)=true then if (x0.fText==[])=true then (l4 x0.fNum).bind fun rb=>some rb else some (false) else some (false) else if (x0.fKind==3)=true then if (len x0.fKids==0)=true then if (x0.fNum==0)=true then (jK x0.fText).bind fun rc=>some rc else some (false) else some (false) else (lf x0.fKind).bind fun ra=>if ra=true then if (len x0.fKids==0)=true then if (x0.fNum==0)=true then (jK x0.fText).bind fun rd=>some rd else some (false) else some (false) else if (x0.fKind==4)=true then if (decide (len x0.fKids<=6))=true then if (x0.fNum==0)=true then (jK x0.fText).bind fun re=>some re else some (false) else some (false) else if (x0.fNum !=0)=true then ef else if (!x0.fText==[])=true then ef else gp (len x0.fKids) x0.fKind x0.fNum x0.fText x0.fKids:=
  (ah CC _ _ _ _).trans (by kernel_rfl)
theorem iH (x0:Int) (x1:List aa) (x2 x3:Int):dF x0 x1 x2 x3=if (decide (x3<x2))=true then (idx x1 x3).bind fun ra=>(iA ra.re x0).bind fun rb=>if (decide (rb>60))=true then some rb else dF rb x1 x2 (w64 (x3+1)) else some x0:=
  (ah CC _ _ _ _).trans (by kernel_rfl)
theorem bF (x0 x1:List aa) (x2 x3:Int):aB x0 x1 x2 x3=if (decide (x3<x2))=true then (idx x1 x3).bind fun ra=>(idx x0 x3).bind fun rb=>(oL ra.re rb.re).bind fun rc=>if (!rc)=true then some (false) else aB x0 x1 x2 (w64 (x3+1)) else some (true):=
  (ah CC _ _ _ _).trans (by kernel_rfl)
theorem eY (x0 x1:List UInt8):cX x0 x1=(bz x0 x1).bind fun ra=>if ra=true then (cut x0 (len x1) (Option.getD Option.none (len x0))).bind fun rb=>some rb else some x0:=
  (ah CC _ _ _ _).trans (by kernel_rfl)
theorem oh (x0:List UInt8) (x1:Int):fi x0 x1=fh x0 (w64 (x1+1)):=
  (ah CC _ _ _ _).trans (by kernel_rfl)
theorem iI (x0:Int):gX x0=some x0:=
  (ah CC _ _ _ _).trans (by kernel_rfl)
theorem hH (x0 x1:Int) (x2:List UInt8) (x3:List aa) (x4 x5:Int):f9 x0 x1 x2 x3 x4 x5=if (decide (x5<len x3))=true then if (decide (x4<=60))=true then (idx x3 x5).bind fun ra=>(n8 ra.fKind ra.fNum ra.fText ra.fKids).bind fun rb=>f9 x0 x1 x2 x3 (w64 (x4+rb)) (w64 (x5+1)) else some x4 else some x4:=
  (ah CC _ _ _ _).trans (by kernel_rfl)
theorem u6 (x0 x1:Int) (x2:List UInt8) (x3:List aa):oN x0 x1 x2 x3=if (x0==1)=true then if (x1==0)=true then if (len x3==0)=true then (l0 x2).bind fun ra=>some ra else some (false) else some (false) else if (x0==2)=true then if (x2==[])=true then if (len x3==0)=true then (xG x1 0 1000000000000).bind fun rb=>some rb else some (false) else some (false) else if (x0==3)=true then eA x0 x1 x2 x3 0 else if (x0==16)=true then eA x0 x1 x2 x3 0 else if (x0==17)=true then eA x0 x1 x2 x3 0 else if (x0==18)=true then eA x0 x1 x2 x3 0 else mH x0 x1 x2 x3 (false) x0:=
  (ah CC _ _ _ _).trans (by kernel_rfl)
theorem qj (x0 x1:Int) (x2:List UInt8) (x3:List aa) (x4:Int):gF x0 x1 x2 x3 x4=if (decide (x4<len x3))=true then (idx x3 x4).bind fun ra=>(jn ra.fKind ra.fNum ra.fText ra.fKids).bind fun rb=>if (!rb)=true then some (false) else gF x0 x1 x2 x3 (w64 (x4+1)) else some (true):=
  (ah CC _ _ _ _).trans (by kernel_rfl)
theorem sD (x0:List UInt8) (x1 x2 x3 x4 x5:Int) (x6:List UInt8) (x7 x8:Bool):pG x0 x1 x2 x3 x4 x5 x6 x7 x8=(idx x0 x3).bind fun ra=>iB x0 x1 (w64 (w64 (10*x2)+w64 (Go.IntKind.wrap Go.IntKind.u8 (ib ra-48)))) (w64 (x3+1)) x4 x5 x6 x7 x8:=
  (ah CC _ _ _ _).trans (by kernel_rfl)
theorem sE (x0 x1 x2 x3 x4:Int) (x5:List UInt8) (x6 x7:Bool):ga x0 x1 x2 x3 x4 x5 x6 x7=if (decide (w64 (x2-x0)>13))=true then some ((ae.mk (Int.ofNat 0) (Int.ofNat 0) [] false false),(-1)) else if (decide (x1>1000000000000))=true then some ((ae.mk (Int.ofNat 0) (Int.ofNat 0) [] false false),(-1)) else some ((ae.mk (Int.ofNat 2) x1 [] false false),x2):=
  (ah CC _ _ _ _).trans (by kernel_rfl)
theorem lB (x0 x1:Int) (x2:List UInt8) (x3 x4:Bool):gb x0 x1 x2 x3 x4=some ((ae.mk (Int.ofNat 0) (Int.ofNat 0) [] false false),(-1)):=
  (ah CC _ _ _ _).trans (by kernel_rfl)
theorem sF (x0:List UInt8) (x1 x2 x3 x4:Int) (x5:List UInt8) (x6 x7:Bool):lk x0 x1 x2 x3 x4 x5 x6 x7=(cut x0 (w64 (x1+1)) (Option.getD (Option.some x2) (len x0))).bind fun ra=>some ((ae.mk (Int.ofNat 3) (Int.ofNat 0) ra false false),(w64 (x2+1))):=
  (ah CC _ _ _ _).trans (by kernel_rfl)
theorem mt : ba=some (true):=
  (ah CC _ _ _ _).trans (by kernel_rfl)
theorem mu : jp=some (false):=
  (ah CC _ _ _ _).trans (by kernel_rfl)
theorem oi (x0:Int):lm x0=some (x0==32):=
  (ah CC _ _ _ _).trans (by kernel_rfl)
theorem ik (x0:List UInt8) (x1 x2:Int):cj x0 x1 x2=if (decide (x2<len x0))=true then (idx x0 x2).bind fun ra=>(f8 (ib ra)).bind fun rb=>if rb=true then cj x0 x1 (w64 (x2+1)) else some (w64 (x2-x1)) else some (w64 (x2-x1)):=
  (ah CC _ _ _ _).trans (by kernel_rfl)
theorem jZ (x0:List UInt8) (x1 x2:Int):cP x0 x1 x2=if (decide (x2<len x0))=true then (idx x0 x2).bind fun ra=>(lj (ib ra)).bind fun rb=>if rb=true then cP x0 x1 (w64 (x2+1)) else some (w64 (x2-x1)) else some (w64 (x2-x1)):=
  (ah CC _ _ _ _).trans (by kernel_rfl)
theorem gG (x0:List UInt8) (x1 x2 x3:Int):b5 x0 x1 x2 x3=if (decide (x3<len x0))=true then (idx x0 x3).bind fun ra=>(mI (ib ra) x2).bind fun rb=>if rb=true then b5 x0 x1 x2 (w64 (x3+1)) else some (w64 (x3-x1)) else some (w64 (x3-x1)):=
  (ah CC _ _ _ _).trans (by kernel_rfl)
theorem eD (x0:List ae):bN x0=aZ x0 (len x0) 0:=
  (ah CC _ _ _ _).trans (by kernel_rfl)
theorem sG (x0:List ae) (x1 x2 x3 x4:Int) (x5:List UInt8) (x6:List aa):pH x0 x1 x2 x3 x4 x5 x6=(aW x2 x0 x1).bind fun ra=>if (!ra.1.2)=true then some ((aa.mk (Int.ofNat 0) (Int.ofNat 0) [] []),ra.2.1.2.1,2) else (jQ (aa.mk (aa.fKind ra.1.1) (aa.fNum ra.1.1) (aa.fText ra.1.1) (aa.fKids ra.1.1))).bind fun rb=>if (!rb)=true then some ((aa.mk (Int.ofNat 0) (Int.ofNat 0) [] []),(x1),6) else some ((aa.mk (aa.fKind ra.1.1) (aa.fNum ra.1.1) (aa.fText ra.1.1) (aa.fKids ra.1.1)),ra.2.1.2.1,0):=
  (ah CC _ _ _ _).trans (by kernel_rfl)
theorem sH (x0:ae):iD x0=if (x0.fKind==1)=true then if (x0.fNum==0)=true then (jK x0.fText).bind fun ra=>some ra else some (false) else if (x0.fKind==2)=true then if (x0.fText==[])=true then (l4 x0.fNum).bind fun rb=>some rb else some (false) else if (x0.fKind==3)=true then if (x0.fNum==0)=true then (jl x0.fText).bind fun rc=>some rc else some (false) else if (x0.fKind==4)=true then if (x0.fNum==0)=true then (lq x0.fText).bind fun rd=>some rd else some (false) else (jR x0.fKind 5 10).bind fun rc=>if rc=true then if (x0.fNum==0)=true then some (x0.fText==[]) else some (false) else some (false):=
  (ah CC _ _ _ _).trans (by kernel_rfl)
theorem oj (x0:Int):l4 x0=(jR x0 0 1000000000000).bind fun ra=>some ra:=
  (ah CC _ _ _ _).trans (by kernel_rfl)
theorem kc : ef=some (false):=
  (ah CC _ _ _ _).trans (by kernel_rfl)
theorem ke (x0 x1 x2:Int) (x3:List UInt8) (x4:List aa):gp x0 x1 x2 x3 x4=if (x1==12)=true then if (x0==2)=true then (idx x4 1).bind fun ra=>some (ra.fKind==3) else some (false) else if (x1==13)=true then if (x0==2)=true then (idx x4 1).bind fun rb=>some (rb.fKind==3) else some (false) else if (x1==14)=true then eh x0 else if (x1==15)=true then eh x0 else gq x0 x1 x2 x3 x4:=
  (ah CC _ _ _ _).trans (by kernel_rfl)
theorem zI (x0 x1 x2:Int):xG x0 x1 x2=if (decide (x0>=x1))=true then some (decide (x0<=x2)) else some (false):=
  (ah CC _ _ _ _).trans (by kernel_rfl)
theorem o5 (x0 x1:Int) (x2:List UInt8) (x3:List aa) (x4:Int):eA x0 x1 x2 x3 x4=b6 x0 x1 x2 x3 x4 (true):=
  (ah CC _ _ _ _).trans (by kernel_rfl)
theorem o6 (x0 x1:Int) (x2:List UInt8) (x3:List aa) (x4:Bool) (x5:Int):mH x0 x1 x2 x3 x4 x5=if (x5==4)=true then if (x1==0)=true then (nY x2).bind fun ra=>if ra=true then some (decide (len x3<=6)) else some (false) else some (false) else if (x5==14)=true then b6 x0 x1 x2 x3 1 x4 else if (x5==15)=true then b6 x0 x1 x2 x3 1 x4 else if (x5==5)=true then cp x0 x1 x2 x3 x4 else if (x5==6)=true then cp x0 x1 x2 x3 x4 else if (x5==7)=true then cp x0 x1 x2 x3 x4 else if (x5==8)=true then cp x0 x1 x2 x3 x4 else if (x5==9)=true then cp x0 x1 x2 x3 x4 else if (x5==10)=true then cp x0 x1 x2 x3 x4 else if (x5==11)=true then cp x0 x1 x2 x3 x4 else mJ x0 x1 x2 x3 x4 x5:=
  (ah CC _ _ _ _).trans (by kernel_rfl)
theorem o7 (x0 x1:Int):mI x0 x1=some (x0 !=x1):=
  (ah CC _ _ _ _).trans (by kernel_rfl)
theorem b8 (x0:List ae) (x1 x2:Int):aZ x0 x1 x2=if (decide (x2<x1))=true then (idx x0 x2).bind fun ra=>(iD ra).bind fun rb=>if (!rb)=true then some (false) else aZ x0 x1 (w64 (x2+1)) else some (true):=
  (ah CC _ _ _ _).trans (by kernel_rfl)
theorem qk (x0:Int) (x1:List ae) (x2:Int):aW x0 x1 x2=if (x0==6)=true then (cc x1 x2).bind fun ra=>some (((aa.mk (aa.fKind ra.1.1) (aa.fNum ra.1.1) (aa.fText ra.1.1) (aa.fKids ra.1.1)),ra.1.2),((ra.2.1.1,ra.2.1.2.1,()),())) else (aW (w64 (x0+1)) x1 x2).bind fun ra=>if (!ra.1.2)=true then some (((aa.mk (Int.ofNat 0) (Int.ofNat 0) [] []),(false)),((ra.2.1.1,ra.2.1.2.1,()),())) else gh x0 ra.2.1.1 ra.2.1.2.1 0 0 [] ([]) (aa.fKind ra.1.1) (aa.fNum ra.1.1) (aa.fText ra.1.1) (aa.fKids ra.1.1):=
  (ah CC _ _ _ _).trans (by kernel_rfl)
theorem sI (x0:List UInt8):lq x0=if (len x0==1)=true then ((dD ([43,45,42,47,124,46,36,64,61]) x0):Option Bool).bind fun ra=>some ra else some (false):=
  (ah CC _ _ _ _).trans (by kernel_rfl)
theorem kf (x0:Int):eh x0=some (x0==1):=
  (ah CC _ _ _ _).trans (by kernel_rfl)
theorem kg (x0 x1 x2:Int) (x3:List UInt8) (x4:List aa):gq x0 x1 x2 x3 x4=if (x0==2)=true then if (x1==5)=true then some (true) else (oO x1).bind fun ra=>some ra else some (false):=
  (ah CC _ _ _ _).trans (by kernel_rfl)
theorem o8 (x0 x1:Int) (x2:List UInt8) (x3:List aa) (x4:Int) (x5:Bool):b6 x0 x1 x2 x3 x4 x5=if (x1==0)=true then if (len x3==x4)=true then if x5=true then (nY x2).bind fun ra=>if ra=true then some (true) else if (!x5)=true then some (x2==[]) else some (false) else if (!x5)=true then some (x2==[]) else some (false) else some (false) else some (false):=
  (ah CC _ _ _ _).trans (by kernel_rfl)
theorem o9 (x0 x1:Int) (x2:List UInt8) (x3:List aa) (x4:Bool):cp x0 x1 x2 x3 x4=b6 x0 x1 x2 x3 2 x4:=
  (ah CC _ _ _ _).trans (by kernel_rfl)
theorem pa (x0 x1:Int) (x2:List UInt8) (x3:List aa) (x4:Bool) (x5:Int):mJ x0 x1 x2 x3 x4 x5=if (x5==12)=true then if (len x3==2)=true then (idx x3 1).bind fun ra=>if (ra.fKind !=3)=true then iS else b6 x0 x1 x2 x3 2 x4 else b6 x0 x1 x2 x3 2 x4 else if (x5==13)=true then if (len x3==2)=true then (idx x3 1).bind fun rb=>if (rb.fKind !=3)=true then iS else b6 x0 x1 x2 x3 2 x4 else b6 x0 x1 x2 x3 2 x4 else some (false):=
  (ah CC _ _ _ _).trans (by kernel_rfl)
theorem nr (x0:List ae) (x1:Int):cc x0 x1=(co x0 x1 4).bind fun ra=>if ra=true then (idx x0 x1).bind fun rb=>if rb.fAfter=true then some (((aa.mk (Int.ofNat 0) (Int.ofNat 0) [] []),(false)),(((x0),(x1),()),())) else (iT rb.fText x0 x1).bind fun rc=>some (((aa.mk (aa.fKind rc.1.1) (aa.fNum rc.1.1) (aa.fText rc.1.1) (aa.fKids rc.1.1)),rc.1.2),((rc.2.1.1,rc.2.1.2.1,()),())) else (dn x0 x1).bind fun rd=>dh rd.1.2 rd.2.1.1 rd.2.1.2.1 0 0 [] ([]) (aa.fKind rd.1.1) (aa.fNum rd.1.1) (aa.fText rd.1.1) (aa.fKids rd.1.1):=
  (ah CC _ _ _ _).trans (by kernel_rfl)
theorem nt (x0:Int) (x1:List ae) (x2 x3 x4:Int) (x5:List UInt8) (x6:List aa) (x7 x8:Int) (x9:List UInt8) (x10:List aa):gh x0 x1 x2 x3 x4 x5 x6 x7 x8 x9 x10=(eB x0 x1 x2).bind fun ra=>if (!ra.1.2)=true then some (((aa.mk x7 x8 x9 x10),(true)),((ra.2.1.1,ra.2.1.2.1,()),())) else if (x0==5)=true then (ci ra.2.1.1 ra.2.1.2.1).bind fun rb=>if (!rb.1.2)=true then some (((aa.mk (Int.ofNat 0) (Int.ofNat 0) [] []),(false)),((rb.2.1.1,rb.2.1.2.1,()),())) else bE x0 rb.2.1.1 rb.2.1.2.1 x3 x4 x5 x6 ra.1.1 0 [] ([aa.mk x7 x8 x9 x10,aa.mk (Int.ofNat 3) (Int.ofNat 0) rb.1.1 []]) else (aW (w64 (x0+1)) ra.2.1.1 ra.2.1.2.1).bind fun rb=>if (!rb.1.2)=true then some (((aa.mk (Int.ofNat 0) (Int.ofNat 0) [] []),(false)),((rb.2.1.1,rb.2.1.2.1,()),())) else bE x0 rb.2.1.1 rb.2.1.2.1 x3 x4 x5 x6 ra.1.1 0 [] ([aa.mk x7 x8 x9 x10,aa.mk (aa.fKind rb.1.1) (aa.fNum rb.1.1) (aa.fText rb.1.1) (aa.fKids rb.1.1)]):=
  (ah CC _ _ _ _).trans (by kernel_rfl)
theorem u7 (x0:Int):oO x0=(jR x0 6 13).bind fun ra=>some ra:=
  (ah CC _ _ _ _).trans (by kernel_rfl)
theorem pb : iS=some (false):=
  (ah CC _ _ _ _).trans (by kernel_rfl)
theorem pd (x0:List UInt8) (x1:List ae) (x2:Int):iT x0 x1 x2=fM x0 14 x1 x2 0 0 [] ([]):=
  (ah CC _ _ _ _).trans (by kernel_rfl)
theorem nu (x0:List ae) (x1:Int):dn x0 x1=if (x1==len x0)=true then some (((aa.mk (Int.ofNat 0) (Int.ofNat 0) [] []),(false)),(((x0),(x1),()),())) else (idx x0 x1).bind fun ra=>if (ra.fKind==3)=true then some (((aa.mk (Int.ofNat 1) (Int.ofNat 0) ra.fText []),(true)),(((x0),(w64 (x1+1)),()),())) else if (ra.fKind==2)=true then some (((aa.mk (Int.ofNat 2) ra.fNum [] []),(true)),(((x0),(w64 (x1+1)),()),())) else if (ra.fKind==1)=true then if (!ra.fAfter)=true then (aV 5 x0 (w64 (x1+1))).bind fun rb=>if rb.1=true then (oc rb.2.1.1 rb.2.1.2.1).bind fun rc=>some (((aa.mk (Int.ofNat 4) (Int.ofNat 0) ra.fText rc.1.1),rc.1.2),((rc.2.1.1,rc.2.1.2.1,()),())) else some (((aa.mk (Int.ofNat 3) (Int.ofNat 0) ra.fText []),(true)),((rb.2.1.1,rb.2.1.2.1,()),())) else some (((aa.mk (Int.ofNat 3) (Int.ofNat 0) ra.fText []),(true)),(((x0),(w64 (x1+1)),()),())) else if (ra.fKind==5)=true then (aW 1 x0 (w64 (x1+1))).bind fun rb=>if rb.1.2=true then (aV 6 rb.2.1.1 rb.2.1.2.1).bind fun rc=>some (((aa.mk (aa.fKind rb.1.1) (aa.fNum rb.1.1) (aa.fText rb.1.1) (aa.fKids rb.1.1)),rc.1),((rc.2.1.1,rc.2.1.2.1,()),())) else some (((aa.mk (aa.fKind rb.1.1) (aa.fNum rb.1.1) (aa.fText rb.1.1) (aa.fKids rb.1.1)),(false)),((rb.2.1.1,rb.2.1.2.1,()),())) else some (((aa.mk (Int.ofNat 0) (Int.ofNat 0) [] []),(false)),(((x0),(x1),()),())):=
  (ah CC _ _ _ _).trans (by kernel_rfl)
theorem fA (x0:Bool) (x1:List ae) (x2 x3 x4:Int) (x5:List UInt8) (x6:List aa) (x7 x8:Int) (x9:List UInt8) (x10:List aa):dh x0 x1 x2 x3 x4 x5 x6 x7 x8 x9 x10=if x0=true then (co x1 x2 7).bind fun ra=>if ra=true then (idx x1 x2).bind fun rb=>if (!rb.fBefore)=true then gY x0 x1 x2 x3 x4 x5 x6 x7 x8 x9 x10 else cQ x0 x1 x2 x3 x4 x5 x6 x7 x8 x9 x10 else cQ x0 x1 x2 x3 x4 x5 x6 x7 x8 x9 x10 else cQ x0 x1 x2 x3 x4 x5 x6 x7 x8 x9 x10:=
  (ah CC _ _ _ _).trans (by kernel_rfl)
theorem pf (x0:Int) (x1:List ae) (x2:Int):eB x0 x1 x2=if (x2==len x1)=true then some ((0,(false)),(((x1),(x2),()),())) else (idx x1 x2).bind fun ra=>if (x0==2)=true then (dx x1 x2).bind fun rb=>some ((7,rb),(((x1),(x2),()),())) else cr x0 6 x1 x2 ra.fKind ra.fNum ra.fText ra.fBefore ra.fAfter:=
  (ah CC _ _ _ _).trans (by kernel_rfl)
theorem fB (x0:Int) (x1:List ae) (x2 x3 x4:Int) (x5:List UInt8) (x6:List aa) (x7 x8:Int) (x9:List UInt8) (x10:List aa):bE x0 x1 x2 x3 x4 x5 x6 x7 x8 x9 x10=(eB x0 x1 x2).bind fun ra=>if (!ra.1.2)=true then some (((aa.mk x7 x8 x9 x10),(true)),((ra.2.1.1,ra.2.1.2.1,()),())) else if (x0==5)=true then (ci ra.2.1.1 ra.2.1.2.1).bind fun rb=>if (!rb.1.2)=true then some (((aa.mk (Int.ofNat 0) (Int.ofNat 0) [] []),(false)),((rb.2.1.1,rb.2.1.2.1,()),())) else bE x0 rb.2.1.1 rb.2.1.2.1 x3 x4 x5 x6 ra.1.1 0 [] ([aa.mk x7 x8 x9 x10,aa.mk (Int.ofNat 3) (Int.ofNat 0) rb.1.1 []]) else (aW (w64 (x0+1)) ra.2.1.1 ra.2.1.2.1).bind fun rb=>if (!rb.1.2)=true then some (((aa.mk (Int.ofNat 0) (Int.ofNat 0) [] []),(false)),((rb.2.1.1,rb.2.1.2.1,()),())) else bE x0 rb.2.1.1 rb.2.1.2.1 x3 x4 x5 x6 ra.1.1 0 [] ([aa.mk x7 x8 x9 x10,aa.mk (aa.fKind rb.1.1) (aa.fNum rb.1.1) (aa.fText rb.1.1) (aa.fKids rb.1.1)]):=
  (ah CC _ _ _ _).trans (by kernel_rfl)
theorem bQ (x0:List UInt8) (x1:Int) (x2:List ae) (x3 x4 x5:Int) (x6:List UInt8) (x7:List aa):fM x0 x1 x2 x3 x4 x5 x6 x7=if (decide (x1<=18))=true then (jN x1).bind fun ra=>if (!ra==x0)=true then fM x0 (w64 (x1+1)) x2 x3 x4 x5 x6 x7 else (lf x1).bind fun rb=>if rb=true then (ci x2 (w64 (x3+1))).bind fun rc=>some (((aa.mk x1 (Int.ofNat 0) rc.1.1 []),rc.1.2),((rc.2.1.1,rc.2.1.2.1,()),())) else (cc x2 (w64 (x3+1))).bind fun rc=>some (((aa.mk x1 (Int.ofNat 0) [] [aa.mk (aa.fKind rc.1.1) (aa.fNum rc.1.1) (aa.fText rc.1.1) (aa.fKids rc.1.1)]),rc.1.2),((rc.2.1.1,rc.2.1.2.1,()),())) else some (((aa.mk (Int.ofNat 0) (Int.ofNat 0) [] []),(false)),(((x2),(x3),()),())):=
  (ah CC _ _ _ _).trans (by kernel_rfl)
theorem ql (x0:List ae) (x1:Int):oc x0 x1=(aV 6 x0 x1).bind fun ra=>if ra.1=true then some ((([]),(true)),((ra.2.1.1,ra.2.1.2.1,()),())) else eL ra.2.1.1 ra.2.1.2.1 ([]):=
  (ah CC _ _ _ _).trans (by kernel_rfl)
theorem kP (x0:Bool) (x1:List ae) (x2 x3 x4:Int) (x5:List UInt8) (x6:List aa) (x7 x8:Int) (x9:List UInt8) (x10:List aa):gY x0 x1 x2 x3 x4 x5 x6 x7 x8 x9 x10=(aW 1 x1 (w64 (x2+1))).bind fun ra=>if (!ra.1.2)=true then some (((aa.mk (Int.ofNat 0) (Int.ofNat 0) [] []),(false)),((ra.2.1.1,ra.2.1.2.1,()),())) else (aV 8 ra.2.1.1 ra.2.1.2.1).bind fun rb=>if (!rb.1)=true then some (((aa.mk (Int.ofNat 0) (Int.ofNat 0) [] []),(false)),((rb.2.1.1,rb.2.1.2.1,()),())) else bW x0 rb.2.1.1 rb.2.1.2.1 x3 x4 x5 x6 5 0 [] ([aa.mk x7 x8 x9 x10,aa.mk (aa.fKind ra.1.1) (aa.fNum ra.1.1) (aa.fText ra.1.1) (aa.fKids ra.1.1)]):=
  (ah CC _ _ _ _).trans (by kernel_rfl)
theorem fm (x0:Bool) (x1:List ae) (x2 x3 x4:Int) (x5:List UInt8) (x6:List aa) (x7 x8:Int) (x9:List UInt8) (x10:List aa):cQ x0 x1 x2 x3 x4 x5 x6 x7 x8 x9 x10=some (((aa.mk x7 x8 x9 x10),x0),(((x1),(x2),()),())):=
  (ah CC _ _ _ _).trans (by kernel_rfl)
theorem iX (x0:List ae) (x1:Int):dx x0 x1=(idx x0 x1).bind fun ra=>if (ra.fKind==1)=true then bC ra.fKind ra.fNum ra.fText ra.fBefore ra.fAfter else if (ra.fKind==2)=true then bC ra.fKind ra.fNum ra.fText ra.fBefore ra.fAfter else if (ra.fKind==3)=true then bC ra.fKind ra.fNum ra.fText ra.fBefore ra.fAfter else if (ra.fKind==5)=true then bC ra.fKind ra.fNum ra.fText ra.fBefore ra.fAfter else eC ra.fKind ra.fKind ra.fNum ra.fText ra.fBefore ra.fAfter:=
  (ah CC _ _ _ _).trans (by kernel_rfl)
theorem gv (x0 x1:Int) (x2:List ae) (x3 x4 x5:Int) (x6:List UInt8) (x7 x8:Bool):cr x0 x1 x2 x3 x4 x5 x6 x7 x8=if (decide (x1<=13))=true then if (x1 !=7)=true then (rO x1).bind fun ra=>if (ra==x0)=true then (oa (ae.mk x4 x5 x6 x7 x8)).bind fun rb=>if rb=true then (jN x1).bind fun rc=>if (x6==rc)=true then iE x1 x2 x3 else ct x0 x1 x2 x3 x4 x5 x6 x7 x8 else ct x0 x1 x2 x3 x4 x5 x6 x7 x8 else ct x0 x1 x2 x3 x4 x5 x6 x7 x8 else ct x0 x1 x2 x3 x4 x5 x6 x7 x8 else some ((0,(false)),(((x2),(x3),()),())):=
  (ah CC _ _ _ _).trans (by kernel_rfl)
theorem nv (x0:List ae) (x1:Int) (x2:List aa):eL x0 x1 x2=(aW 1 x0 x1).bind fun ra=>if (!ra.1.2)=true then some ((([]),(false)),((ra.2.1.1,ra.2.1.2.1,()),())) else (app x2 [aa.mk (aa.fKind ra.1.1) (aa.fNum ra.1.1) (aa.fText ra.1.1) (aa.fKids ra.1.1)]).bind fun rb=>(aV 9 ra.2.1.1 ra.2.1.2.1).bind fun rc=>if (!rc.1)=true then (aV 6 rc.2.1.1 rc.2.1.2.1).bind fun rd=>some (((rb),rd.1),((rd.2.1.1,rd.2.1.2.1,()),())) else eL rc.2.1.1 rc.2.1.2.1 rb:=
  (ah CC _ _ _ _).trans (by kernel_rfl)
theorem eE (x0:Bool) (x1:List ae) (x2 x3 x4:Int) (x5:List UInt8) (x6:List aa) (x7 x8:Int) (x9:List UInt8) (x10:List aa):bW x0 x1 x2 x3 x4 x5 x6 x7 x8 x9 x10=if x0=true then (co x1 x2 7).bind fun ra=>if ra=true then (idx x1 x2).bind fun rb=>if (!rb.fBefore)=true then fy x0 x1 x2 x3 x4 x5 x6 x7 x8 x9 x10 else ck x0 x1 x2 x3 x4 x5 x6 x7 x8 x9 x10 else ck x0 x1 x2 x3 x4 x5 x6 x7 x8 x9 x10 else ck x0 x1 x2 x3 x4 x5 x6 x7 x8 x9 x10:=
  (ah CC _ _ _ _).trans (by kernel_rfl)
theorem gH (x0 x1:Int) (x2:List UInt8) (x3 x4:Bool):bC x0 x1 x2 x3 x4=some x3:=
  (ah CC _ _ _ _).trans (by kernel_rfl)
theorem gI (x0 x1 x2:Int) (x3:List UInt8) (x4 x5:Bool):eC x0 x1 x2 x3 x4 x5=if (x0==4)=true then if x4=true then if (!x5)=true then ((dD ([45,42,36,46,64]) x3):Option Bool).bind fun ra=>some ra else some (false) else some (false) else some (false):=
  (ah CC _ _ _ _).trans (by kernel_rfl)
theorem lC (x0:Int) (x1:List ae) (x2:Int):iE x0 x1 x2=some (((x0),(true)),(((x1),(w64 (x2+1)),()),())):=
  (ah CC _ _ _ _).trans (by kernel_rfl)
theorem mv (x0 x1:Int) (x2:List ae) (x3 x4 x5:Int) (x6:List UInt8) (x7 x8:Bool):ct x0 x1 x2 x3 x4 x5 x6 x7 x8=cr x0 (w64 (x1+1)) x2 x3 x4 x5 x6 x7 x8:=
  (ah CC _ _ _ _).trans (by kernel_rfl)
theorem eF (x0:Bool) (x1:List ae) (x2 x3 x4:Int) (x5:List UInt8) (x6:List aa) (x7 x8:Int) (x9:List UInt8) (x10:List aa):fy x0 x1 x2 x3 x4 x5 x6 x7 x8 x9 x10=(aW 1 x1 (w64 (x2+1))).bind fun ra=>if (!ra.1.2)=true then some (((aa.mk (Int.ofNat 0) (Int.ofNat 0) [] []),(false)),((ra.2.1.1,ra.2.1.2.1,()),())) else (aV 8 ra.2.1.1 ra.2.1.2.1).bind fun rb=>if (!rb.1)=true then some (((aa.mk (Int.ofNat 0) (Int.ofNat 0) [] []),(false)),((rb.2.1.1,rb.2.1.2.1,()),())) else bW x0 rb.2.1.1 rb.2.1.2.1 x3 x4 x5 x6 5 0 [] ([aa.mk x7 x8 x9 x10,aa.mk (aa.fKind ra.1.1) (aa.fNum ra.1.1) (aa.fText ra.1.1) (aa.fKids ra.1.1)]):=
  (ah CC _ _ _ _).trans (by kernel_rfl)
theorem dY (x0:Bool) (x1:List ae) (x2 x3 x4:Int) (x5:List UInt8) (x6:List aa) (x7 x8:Int) (x9:List UInt8) (x10:List aa):ck x0 x1 x2 x3 x4 x5 x6 x7 x8 x9 x10=some (((aa.mk x7 x8 x9 x10),x0),(((x1),(x2),()),())):=
  (ah CC _ _ _ _).trans (by kernel_rfl)
end Go.Dv.U
