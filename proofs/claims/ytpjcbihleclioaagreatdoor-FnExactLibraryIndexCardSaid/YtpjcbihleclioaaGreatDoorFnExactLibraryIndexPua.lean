/- Plain laws about these equations. -/
import Derived.Test.YtpjcbihleclioaaGreatDoorFnExactLibraryIndexEqb
set_option linter.all false
set_option linter.unusedVariables false
set_option linter.unusedSimpArgs false
namespace Go.Dv.U
open Go Go.Dv Go.Proofs
theorem aa.ind {P:aa->Prop} (h:∀ x,(∀ y∈x.fKids,P y)->P x):∀ x,P x:=by
 intro x
 exact aa.rec (motive_1:=P) (motive_2:=fun l=>∀ y∈l,P y) (fun a0 a1 a2 a3 ih=>h ⟨a0,a1,a2,a3⟩ ih) (fun y hy=>by cases hy)
  (fun a l ha hl y hy=>by
   cases hy with
   | head=>exact ha
   | tail _ hy=>exact hl y hy) x
mutual
def aa.m : aa->Nat
 | ⟨_,_,a2,a3⟩=>a2.length+(a3.length+aa.ms a3)
def aa.ms : List aa->Nat
 | []=>0
 | y:: r=>aa.m y+aa.ms r
end
theorem aa.ms_eq : ∀ l,aa.ms l=aS aa.m l
 | []=>rfl
 | y:: r=>by simp only [aa.ms,aS,aa.ms_eq r]
theorem aa.m_eq (x:aa):x.m=x.fText.length+(x.fKids.length+aS aa.m x.fKids):=by
 rw [<-aa.ms_eq];cases x;rfl
theorem aa.m_kid {x y:aa} (h:y∈x.fKids):y.m+x.fKids.length<=x.m:=by
 have:=pb (m:=aa.m) h
 rw [aa.m_eq x];omega
def aw.m (x:aw):Nat:=x.fAlways.length+x.fSuccess.length+x.fFailure.length
theorem aw.m_eq (x:aw):x.m=x.fAlways.length+x.fSuccess.length+x.fFailure.length:=rfl
def ab.m (x:ab):Nat:=x.fLabel.length+aa.m x.fSubject+aa.m x.fPattern+aa.m x.fReplace+aw.m x.fGoto
theorem ab.m_eq (x:ab):x.m=x.fLabel.length+aa.m x.fSubject+aa.m x.fPattern+aa.m x.fReplace+aw.m x.fGoto:=rfl
def aq.m (x:aq):Nat:=(x.fStatements.length+aS ab.m x.fStatements)
theorem aq.m_eq (x:aq):x.m=(x.fStatements.length+aS ab.m x.fStatements):=rfl
def ac.m (x:ac):Nat:=x.fText.length
theorem ac.m_eq (x:ac):x.m=x.fText.length:=rfl
def aO.m (x:aO):Nat:=x.fText.length
theorem aO.m_eq (x:aO):x.m=x.fText.length:=rfl
def bN.m (x:bN):Nat:=x.fText.length
theorem bN.m_eq (x:bN):x.m=x.fText.length:=rfl
def bG.m (x:bG):Nat:=x.fName.length+(x.fKeys.length+aS bN.m x.fKeys)+(x.fVals.length+aS bN.m x.fVals)+bN.m x.fDefault
theorem bG.m_eq (x:bG):x.m=x.fName.length+(x.fKeys.length+aS bN.m x.fKeys)+(x.fVals.length+aS bN.m x.fVals)+bN.m x.fDefault:=rfl
def eW.m (x:eW):Nat:=(x.fObjects.length+aS bG.m x.fObjects)
theorem eW.m_eq (x:eW):x.m=(x.fObjects.length+aS bG.m x.fObjects):=rfl
def aY.m (x:aY):Nat:=x.fName.length+bN.m x.fValue
theorem aY.m_eq (x:aY):x.m=x.fName.length+bN.m x.fValue:=rfl
def aP.m (x:aP):Nat:=x.fName.length+(x.fParams.length+aS List.length x.fParams)+(x.fLocals.length+aS List.length x.fLocals)+x.fLabel.length
theorem aP.m_eq (x:aP):x.m=x.fName.length+(x.fParams.length+aS List.length x.fParams)+(x.fLocals.length+aS List.length x.fLocals)+x.fLabel.length:=rfl
def aF.m (x:aF):Nat:=x.fName.length+(x.fFields.length+aS List.length x.fFields)
theorem aF.m_eq (x:aF):x.m=x.fName.length+(x.fFields.length+aS List.length x.fFields):=rfl
def cu.m (x:cu):Nat:=(x.fVars.length+aS aY.m x.fVars)+(x.fFunctions.length+aS aP.m x.fFunctions)+(x.fTypes.length+aS aF.m x.fTypes)
theorem cu.m_eq (x:cu):x.m=(x.fVars.length+aS aY.m x.fVars)+(x.fFunctions.length+aS aP.m x.fFunctions)+(x.fTypes.length+aS aF.m x.fTypes):=rfl
def fq.m (x:fq):Nat:=x.fName.length+(x.fLines.length+aS List.length x.fLines)
theorem fq.m_eq (x:fq):x.m=x.fName.length+(x.fLines.length+aS List.length x.fLines):=rfl
def aV.m (x:aV):Nat:=(x.fInput.length+aS List.length x.fInput)+(x.fOutput.length+aS List.length x.fOutput)+(x.fFiles.length+aS fq.m x.fFiles)+(x.fTrace.length+aS List.length x.fTrace)
theorem aV.m_eq (x:aV):x.m=(x.fInput.length+aS List.length x.fInput)+(x.fOutput.length+aS List.length x.fOutput)+(x.fFiles.length+aS fq.m x.fFiles)+(x.fTrace.length+aS List.length x.fTrace):=rfl
def bE.m (x:bE):Nat:=eW.m x.fHeap+cu.m x.fScope+aV.m x.fConsole
theorem bE.m_eq (x:bE):x.m=eW.m x.fHeap+cu.m x.fScope+aV.m x.fConsole:=rfl
def bh.m (x:bh):Nat:=bE.m x.fMemory
theorem bh.m_eq (x:bh):x.m=bE.m x.fMemory:=rfl
end Go.Dv.U

namespace Go.Dv
open Go
def B4 {α:Type} (c:α->Nat->Bool):List α->Nat->Bool
 | [],_=>true
 | y:: r,i=>c y i&&B4 c r (i+1)
theorem DR {α:Type} {p:α->Bool} {c:α->Nat->Bool}:∀ (l:List α) (i:Nat),B4 (fun y i=>p y&&c y i) l i=(l.all p&&B4 c l i)
 | [],_=>rfl
 | y:: r,i=>by
  simp only [B4,List.all_cons,DR r (i+1)]
  cases p y<;>cases c y i<;>cases r.all p<;>simp
theorem GF {α:Type} {xs:List α} (hx:xs.length<=9223372036854775807) {c:α->Nat->Bool} {J:Int->Option Bool}
  (hs:∀ (i:Nat) (y:α),i<xs.length->y∈xs->idx xs (i:Int)=some y->w64 ((i:Int)+1)=((i+1:Nat):Int)->J (i:Int)=if c y i=true then J ((i+1:Nat):Int) else some false):
  J 0=if B4 c xs 0=true then J (xs.length:Int) else some false:=by
 refine bz hx (P:=fun i l=>J (i:Int)=if B4 c l i=true then J (xs.length:Int) else some false) ?_ ?_
 ·simp [B4]
 ·intro i y l _ hlt hy hi hw ih
  rw [hs i y hlt hy hi hw]
  have hg:B4 c (y:: l) i=(c y i&&B4 c l (i+1)):=rfl
  by_cases hc:c y i=true
  ·rw [if_pos hc,ih]
   by_cases h2:B4 c l (i+1)=true
   ·rw [if_pos h2,if_pos (by rw [hg,hc,h2];rfl)]
   ·rw [if_neg h2,if_neg (by rw [hg,hc];simpa using h2)]
  ·rw [if_neg hc,if_neg (by rw [hg];simp [hc])]
def ixF {α:Type} (p:α->Bool):List α->Nat->Int
 | [],_=>-1
 | y:: r,i=>if p y=true then (i:Int) else ixF p r (i+1)
theorem CN {α:Type} {xs:List α} (hx:xs.length<=9223372036854775807) {p:α->Bool} {J:Int->Option Int}
  (hs:∀ (i:Nat) (y:α),i<xs.length->y∈xs->idx xs (i:Int)=some y->w64 ((i:Int)+1)=((i+1:Nat):Int)->J (i:Int)=if p y=true then some (i:Int) else J ((i+1:Nat):Int))
  (he:J (xs.length:Int)=some (-1)):J 0=some (ixF p xs 0):=by
 refine bz hx (P:=fun i l=>J (i:Int)=some (ixF p l i)) ?_ ?_
 ·rw [he];rfl
 ·intro i y l _ hlt hy hi hw ih
  rw [hs i y hlt hy hi hw]
  by_cases hc:p y=true
  ·rw [if_pos hc];simp [ixF,hc]
  ·rw [if_neg hc,ih];simp [ixF,hc]
theorem qj {α β γ:Type} {xs:List α} (hx:xs.length<=9223372036854775807) {f:α->List β} {B:Nat} {J:Int->List β->Option γ}
  (hs:∀ (i:Nat) (y:α) (a:List β),i<xs.length->y∈xs->idx xs (i:Int)=some y->w64 ((i:Int)+1)=((i+1:Nat):Int)->a.length+(f y).length<=B->J (i:Int) a=J ((i+1:Nat):Int) (a++f y))
  (hb:(xs.flatMap f).length<=B):J 0 []=J (xs.length:Int) (xs.flatMap f):=by
 have key:=bz hx (P:=fun i l=>∀ a:List β,a.length+(l.flatMap f).length<=B->J (i:Int) a=J (xs.length:Int) (a++l.flatMap f)) (by
  intro a _
  simp) (by
  intro i y l _ hlt hy hi hw ih a ha
  simp only [List.flatMap_cons,List.length_append] at ha
  rw [hs i y a hlt hy hi hw (by omega),ih (a++f y) (by simp only [List.length_append];omega)]
  simp only [List.flatMap_cons,List.append_assoc]) [] (by simpa using hb)
 simpa using key
theorem zk (s:List UInt8):mj (s.map ib)=some s:=by
 unfold mj
 have h:((s.map ib).all fun n=>decide (0<=n)&&decide (n<256))=true:=by
  simp only [List.all_map,List.all_eq_true]
  intro x _
  simp [MX x,GB x]
 rw [if_pos h,List.map_map]
 congr 1
 conv=>rhs;rw [<-List.map_id s]
 apply List.map_congr_left
 intro x _
 simp only [Function.comp,id,ib,Int.ofNat_eq_natCast,Int.toNat_natCast]
 exact UInt8.ofNat_toNat
end Go.Dv

namespace Go.Dv.U
open Go Go.Dv Go.Proofs
theorem lh (a b c:Int):nN a b c=some (decide (b<=a)&&decide (a<=c)):=by
 rw [CK];grind
theorem qk (a b c:Int):rN a b c=some (decide (b<=a)&&decide (a<=c)):=by
 rw [EP];grind
end Go.Dv.U

namespace Go.Dv.U
open Go Go.Dv Go.Proofs
def oY (b:Int):Bool:=(decide (65<=b)&&decide (b<=90))||(decide (97<=b)&&decide (b<=122))
def b5 (b:Int):Bool:=decide (48<=b)&&decide (b<=57)
def dh (b:Int):Bool:=oY b||b5 b||b==95
theorem oh (b:Int):m7 b=some (oY b):=by
 rw [Ac];unfold oY;grind
theorem mL (b:Int):kT b=some (oY b):=by
 rw [yx];unfold oY;grind
theorem pL (b:Int):pk b=some (b5 b):=by
 rw [BH];unfold b5;grind
theorem oi (b:Int):nc b=some (b5 b):=by
 rw [Ai];unfold b5;grind
theorem pM (b:Int):js b=some (dh b):=by
 rw [xr,oh,pL];unfold dh
 simp only [Option.bind_some];grind
def b6 (s:List UInt8):Bool:=match s with
 | []=>false
 | b:: _=>decide (s.length<=12)&&oY (ib b)&&s.all fun c=>dh (ib c)
theorem Am {s:List UInt8} (h:s.length<=9223372036854775807):dw (s.map ib)=some (s.all fun c=>dh (ib c)):=by
 rw [jx]
 have:=wi (xs:=s.map ib) (by simpa using h) (F:=js) (p:=dh) (J:=bX (s.map ib) (len (s.map ib))) (fun i=>by rw [il]) (fun y _=>pM y)
 rw [this,List.all_map]
 rfl
theorem sE {s:List UInt8}:nG s=some (b6 s):=by
 rw [CF]
 cases s with
 | nil=>simp [b6,aj]
 | cons b r=>
  by_cases h:(b:: r).length<=12
  ·have h1:decide (len (b:: r)>=1)=true:=by simp only [aj,List.length_cons,decide_eq_true_eq];omega
   have h2:decide (len (b:: r)<=12)=true:=by simp only [aj,decide_eq_true_eq];omega
   rw [if_pos h1,if_pos h2,jf]
   simp only [List.getElem?_cons_zero,Option.bind_some,oh]
   have:=Am (s:=b:: r) (by omega)
   simp only [List.map_cons] at this ⊢
   rw [this]
   simp only [b6,h,decide_true,Bool.true_and,Option.bind_some]
   cases oY (ib b)<;>simp
  ·have h2:¬ decide (len (b:: r)<=12)=true:=by simp only [aj,decide_eq_true_eq];omega
   rw [if_neg h2]
   simp only [b6,h,decide_false,Bool.false_and]
   split<;>rfl
def yC : List UInt8->Nat
 | []=>0
 | b:: r=>if dh (ib b) then yC r+1 else 0
theorem BL : ∀ s,yC s=s.length↔(s.all fun c=>dh (ib c))=true
 | []=>by simp [yC]
 | b:: r=>by
  have:=BL r
  simp only [yC,List.length_cons,List.all_cons,Bool.and_eq_true]
  cases dh (ib b)
  ·simp
  ·simp [this]
theorem tD {s:List UInt8} (h:s.length<=9223372036854775807):∀ (n i:Nat),i+n=s.length->hY s i=some ((i+yC (s.drop i):Nat):Int):=by
 intro n
 induction n with
 | zero=>
  intro i hi
  have:i=s.length:=by omega
  subst this
  rw [ma,mc,List.drop_length]
  simp [aj,yC]
 | succ n ih=>
  intro i hi
  have hlt:i<s.length:=by omega
  have hc:decide ((i:Int)<len s)=true:=by simp [aj,hlt]
  rw [ma,if_pos hc,ce,List.getElem?_eq_getElem hlt,List.drop_eq_getElem_cons hlt]
  simp only [Option.bind_some,mL,oi,tq,mc,yC]
  have hw:w64 ((i:Int)+1)=((i+1:Nat):Int):=by rw [aW (by omega) (by omega)];omega
  rw [hw,ih (i+1) (by omega)]
  unfold dh
  cases oY (ib s[i])<;>cases b5 (ib s[i])<;>cases hb:(ib s[i]==95)<;>simp<;>omega
theorem pN {s:List UInt8} (h:s.length<=9223372036854775807) {i:Nat} (hi:i<=s.length):
  lU s i=some (match s.drop i with
   | []=>(i:Int)
   | b:: r=>if oY (ib b) then ((i+yC (b:: r):Nat):Int) else i):=by
 rw [xk]
 by_cases hlt:i<s.length
 ·have hc:¬ decide ((i:Int)>=len s)=true:=by simp only [aj,decide_eq_true_eq];omega
  rw [if_neg hc,ce,List.getElem?_eq_getElem hlt,List.drop_eq_getElem_cons hlt]
  simp only [Option.bind_some,mL]
  rw [tD h (s.length-i) i (by omega),List.drop_eq_getElem_cons hlt]
  cases oY (ib s[i])<;>simp
 ·have:i=s.length:=by omega
  subst this
  rw [List.drop_length]
  simp [aj]
theorem li {s:List UInt8}:lT s=some (b6 s):=by
 rw [CI]
 cases s with
 | nil=>simp [b6]
 | cons b r=>
  have h0:(!(b:: r)==[])=true:=rfl
  rw [if_pos h0]
  by_cases h:(b:: r).length<=12
  ·have h2:decide (len (b:: r)<=12)=true:=by simp only [aj,decide_eq_true_eq];omega
   have:=pN (s:=b:: r) (by omega) (Nat.zero_le _)
   simp only [Int.natCast_zero,List.drop_zero,Nat.zero_add] at this
   rw [if_pos h2,this]
   simp only [b6,h,decide_true,Bool.true_and,Option.bind_some,aj]
   congr 1
   rw [Bool.eq_iff_iff,Bool.and_eq_true,<-BL]
   cases hL:oY (ib b)
   ·simp;omega
   ·simp;omega
  ·have h2:¬ decide (len (b:: r)<=12)=true:=by simp only [aj,decide_eq_true_eq];omega
   rw [if_neg h2]
   simp only [b6,h,decide_false,Bool.false_and]
end Go.Dv.U

namespace Go.Dv.U
open Go Go.Dv Go.Proofs
def Io (b:UInt8):Bool:=decide (32<=ib b)&&decide (ib b<=126)
def eV (s:List UInt8):Bool:=s.all Io
def hasB (c:Int) (s:List UInt8):Bool:=s.any fun b=>ib b==c
theorem BM (b:Int):tf b=some (decide (32<=b)&&decide (b<=126)):=by
 rw [BF];grind
theorem gF {s:List UInt8} (h:s.length<=9223372036854775807):fK s=some (eV s):=by
 rw [vw,kY]
 have:=wi (xs:=s.map ib) (by simpa using h) (F:=tf) (p:=fun b=>decide (32<=b)&&decide (b<=126)) (J:=ci (s.map ib) (len (s.map ib))) (fun i=>by rw [jw]) (fun y _=>BM y)
 rw [this,List.all_map]
 rfl
def Hu (x:Bool) (b:UInt8):Bool:=Io b||(x&&ib b==10)
theorem s_l01Printable_ok' {s:List UInt8} (h:s.length<=9223372036854775807) (x:Bool):eY s x=some (s.all (Hu x)):=by
 rw [ub]
 refine bz (xs:=s) h (P:=fun i l=>fO s x i=some (l.all (Hu x))) ?_ ?_
 ·rw [kf];simp [aj]
 ·intro i y l _ hlt hy hi hw ih
  rw [kf,hi,if_pos (by simp [aj,hlt])]
  simp only [Option.bind_some,qx,qy,hw,ih,List.all_cons,Hu,Io]
  by_cases h1:ib y<32
  ·have h3:¬ (32<=ib y):=by omega
   cases x<;>by_cases h2:ib y=10<;>simp [h1,h2,h3]
  ·have h3:32<=ib y:=by omega
   by_cases h2:ib y>126
   ·have h4:¬ (ib y<=126):=by omega
    have h5:¬ ib y=10:=by omega
    cases x<;>simp [h1,h2,h3,h4,h5]
   ·have h4:ib y<=126:=by omega
    cases x<;>simp [h1,h2,h3,h4]
theorem nr {s:List UInt8} (h:s.length<=9223372036854775807):eY s false=some (eV s):=by
 rw [s_l01Printable_ok' h]
 congr 1
 unfold eV
 congr 1
 funext b
 simp [Hu]
theorem oj {s:List UInt8} (h:s.length<=9223372036854775807) (c:Int):na s c=some (hasB c s):=by
 rw [Ag]
 exact Im h (p:=fun b=>ib b==c) (J:=kA s c) (fun i=>by rw [vM])
theorem xC (c:UInt8):∀ s:List UInt8,decide (0<=Lib.index s [c])=hasB (ib c) s
 | []=>by simp [Lib.index,hasB]
 | b:: l=>by
  have ih:=xC c l
  have hge:=Lib.index_ge l [c]
  unfold Lib.index
  have hp:[c].isPrefixOf (b:: l)=(ib b==ib c):=by
   rw [Bool.eq_iff_iff]
   simp only [List.isPrefixOf,Bool.and_true,beq_iff_eq,qP]
   exact eq_comm
  have hh:hasB (ib c) (b:: l)=(ib b==ib c||hasB (ib c) l):=rfl
  rw [hp,hh,<-ih]
  cases (ib b==ib c)
  ·simp only [Bool.false_eq_true,if_false,Bool.false_or]
   split
   ·rename_i h;rw [beq_iff_eq] at h;rw [h]
   ·rename_i h
    have h:¬ Lib.index l [c] = -1:=by simpa using h
    rw [Bool.eq_iff_iff,decide_eq_true_eq,decide_eq_true_eq];omega
  ·simp
theorem kH {s:List UInt8} (h:s.length<4294967281) (c:UInt8):fA s [c]=some (hasB (ib c) s):=by
 unfold fA
 rw [if_pos h,<-xC]
 rfl
def Ao (s:List UInt8):Bool:=decide (s.length<=200)&&eV s&&!(hasB 39 s&&hasB 34 s)
def xD (s:List UInt8):List UInt8:=if Ao s=true then (if hasB 39 s=true then 34:: s++[34] else 39:: s++[39]) else []
theorem c39 (s:List UInt8) (h:s.length<=200):fA s [39]=some (hasB 39 s):=kH (by omega) 39
theorem c34 (s:List UInt8) (h:s.length<=200):fA s [34]=some (hasB 34 s):=kH (by omega) 34
theorem ol (s:List UInt8):m8 s=some (Ao s):=by
 rw [Ae]
 by_cases h:s.length<=200
 ·have h1:decide (len s<=200)=true:=by simp only [aj,decide_eq_true_eq];omega
  rw [if_pos h1,gF (by omega),c39 s h,c34 s h]
  simp only [Option.bind_some,Ao,h,decide_true,Bool.true_and]
  cases eV s<;>cases hasB 39 s<;>simp
 ·have h1:¬ decide (len s<=200)=true:=by simp only [aj,decide_eq_true_eq];omega
  rw [if_neg h1]
  simp [Ao,h]
theorem om (s:List UInt8):m9 s=some (Ao s):=by
 rw [Af]
 by_cases h:s.length<=200
 ·have h1:decide (len s<=200)=true:=by simp only [aj,decide_eq_true_eq];omega
  rw [if_pos h1,nr (by omega),oj (by omega),oj (by omega)]
  simp only [Option.bind_some,Ao,h,decide_true,Bool.true_and]
  cases eV s<;>cases hasB 39 s<;>simp
 ·have h1:¬ decide (len s<=200)=true:=by simp only [aj,decide_eq_true_eq];omega
  rw [if_neg h1]
  simp [Ao,h]
theorem Ap {s:List UInt8} (h:Ao s=true):s.length<=200:=by
 unfold Ao at h
 simp only [Bool.and_eq_true_iff,decide_eq_true_eq] at h
 exact h.1.1
theorem GH (s:List UInt8):(xD s).length<=202:=by
 unfold xD
 split
 ·rename_i h
  have:=Ap h
  split<;>simp<;>omega
 ·simp
theorem vU (s:List UInt8):nJ s=some (xD s):=by
 rw [vE,ol]
 simp only [Option.bind_some,xD]
 cases h:Ao s
 ·rfl
 ·have hl:=Ap h
  simp only [Bool.not_true,Bool.false_eq_true,if_false,if_true,c39 s hl,Option.bind_some]
  rw [av (by simp;omega),av (by simp;omega)]
  simp only [Option.bind_some]
  rw [av (by simp;omega),av (by simp;omega)]
  cases hasB 39 s<;>rfl
theorem vV (s:List UInt8):nL s=some (xD s):=by
 rw [vF,om]
 simp only [Option.bind_some,xD]
 cases h:Ao s
 ·rfl
 ·have hl:=Ap h
  simp only [Bool.not_true,Bool.false_eq_true,if_false,if_true,oj (show s.length<=9223372036854775807 by omega),Option.bind_some]
  rw [av (by simp;omega),av (by simp;omega)]
  simp only [Option.bind_some]
  rw [av (by simp;omega),av (by simp;omega)]
  cases hasB 39 s<;>rfl
theorem nt : ∀ (k u:Nat),u<10 ^ (k+1)->Lib.nDigits u<=k+1
 | 0,u,h=>by rw [Lib.nDigits_small (by simpa using h)];exact Nat.le_refl _
 | k+1,u,h=>by
  by_cases hu:u<10
  ·rw [Lib.nDigits_small hu];omega
  ·rw [Lib.nDigits_big hu]
   have:=nt k (u / 10) (by rw [Nat.div_lt_iff_lt_mul (by decide)];rw [Nat.pow_succ] at h;exact h)
   omega
theorem kK {r:Int} (h0:0<=r) (h1:r<10):UInt8.ofNat (Int.toNat (IntKind.wrap .u8 (w64 (48+r))))=UInt8.ofNat (48+r.toNat):=by
 rw [aW (by omega) (by omega)]
 have e2:IntKind.u8.wrap (48+r)=48+r:=by unfold IntKind.wrap;simp [IntKind.bits,IntKind.signed];omega
 rw [e2]
 congr 1
 omega
theorem GI (u:Nat):rem (u:Int) 10=some ((u % 10:Nat):Int):=by
 unfold rem
 rw [if_neg (by decide),Int.tmod_eq_emod_of_nonneg (by omega)]
 congr 1
theorem GJ {u:Nat} (h:u<9223372036854775808):quo .i64 (u:Int) 10=some ((u / 10:Nat):Int):=by
 unfold quo
 rw [if_neg (by decide),Int.tdiv_eq_ediv_of_nonneg (by omega)]
 congr 1
 have:IntKind.i64.wrap ((u:Int) / 10)=w64 ((u:Int) / 10):=rfl
 rw [this,aW (by omega) (by omega)]
 omega
theorem yD : ∀ (k u:Nat) (s:List UInt8),u<10 ^ (k+1)->u<9223372036854775808->s.length+k+1<=1000->nO u s=some (Lib.decDigits u++s):=by
 intro k
 induction k with
 | zero=>
  intro u s h h2 hl
  have hu:u<10:=by simpa using h
  rw [mF,if_neg (by simp only [decide_eq_true_eq];omega)]
  simp only [List.map_cons,List.map_nil,kK (r:=(u:Int)) (by omega) (by omega),Int.toNat_natCast]
  rw [av (by simp;omega)]
  rw [Lib.decDigits_one hu]
  rfl
 | succ k ih=>
  intro u s h h2 hl
  by_cases hu:u<10
  ·rw [mF,if_neg (by simp only [decide_eq_true_eq];omega)]
   simp only [List.map_cons,List.map_nil,kK (r:=(u:Int)) (by omega) (by omega),Int.toNat_natCast]
   rw [av (by simp;omega),Lib.decDigits_one hu]
   rfl
  ·rw [mF,if_pos (by simp only [decide_eq_true_eq];omega),GI,GJ h2]
   simp only [Option.bind_some,List.map_cons,List.map_nil,kK (r:=((u % 10:Nat):Int)) (by omega) (by omega),Int.toNat_natCast]
   rw [av (by simp;omega)]
   simp only [Option.bind_some]
   rw [ih (u / 10) _ (by rw [Nat.div_lt_iff_lt_mul (by decide)];rw [Nat.pow_succ] at h;exact h) (by omega) (by simp;omega)]
   have hd:Lib.decDigits u=Lib.decDigits (u / 10)++[UInt8.ofNat (48+u % 10)]:=by
    rw [Lib.decDigits,dif_neg hu]
   rw [hd]
   simp
theorem Aq (u:Nat):Lib.itoa (u:Int)=Lib.decDigits u:=by
 unfold Lib.itoa
 rw [if_neg (by omega)]
 rfl
theorem CO {n:Int} (h0:0<=n) (h1:n<9223372036854775808):wj n=some (Lib.itoa n):=by
 obtain ⟨u,rfl⟩:∃ u:Nat,n=u:=⟨n.toNat,by omega⟩
 rw [CJ,if_neg (by simp),yD 18 u [] (by omega) (by omega) (by decide),Aq]
 simp
theorem vd {n:Int} (h0:-9223372036854775808<=n) (h1:n<=9223372036854775807):mY n=some (Lib.itoa n):=by
 rw [BB]
 unfold If
 rw [if_pos ⟨rfl,h0,h1⟩]
 rfl
theorem Ip {n:Int} (h0:0<=n) (h1:n<=1000000000000):(Lib.itoa n).length<=13:=by
 obtain ⟨u,rfl⟩:∃ u:Nat,n=u:=⟨n.toNat,by omega⟩
 rw [Aq,Lib.decDigits_length]
 exact nt 12 u (by omega)
end Go.Dv.U

namespace Go.Dv.U
open Go Go.Dv Go.Proofs
def J3 (c:List Int) (a B:Int):Prop:=(∀ y∈c,0<=y/\y<=255)/\c.length<=9223372036854775807/\0<=a/\a<=B
def Dr {α:Type} (o:Option (α×((List Int×Int×Int×Unit)×Unit))) (B:Int) (P:α->Prop):Prop:=∃ v c a s,o=some (v,((c,a,s,()),()))/\J3 c a B/\P v
theorem Dr.bind {α β:Type} {o:Option (α×((List Int×Int×Int×Unit)×Unit))} {B B':Int} {P:α->Prop} {Q:β->Prop} {k:α×((List Int×Int×Int×Unit)×Unit)->Option (β×((List Int×Int×Int×Unit)×Unit))}
  (h:Dr o B P) (hk:∀ v c a s,J3 c a B->P v->Dr (k (v,((c,a,s,()),()))) B' Q):Dr (o.bind k) B' Q:=by
 obtain ⟨v,c,a,s,rfl,h2,h3⟩:=h
 exact hk v c a s h2 h3
theorem Dr.some {α:Type} {v:α} {c:List Int} {a s B:Int} {P:α->Prop} (h:J3 c a B) (hp:P v):Dr (Option.some (v,((c,a,s,()),()))) B P:=⟨v,c,a,s,rfl,h,hp⟩
end Go.Dv.U

namespace Go.Dv.U
open Go Go.Dv Go.Proofs
theorem CP (a b:Int):rI [a,b]=some (if a≠0 then a else b):=by
 rw [uh]
 have e2:len [a,b]=2:=rfl
 have w1:w64 (0+1)=1:=by decide
 have w2:w64 (1+1)=2:=by decide
 rw [e2,cK,if_pos (by decide),jf]
 simp only [List.getElem?_cons_zero,Option.bind_some]
 by_cases ha:a=0
 ·subst ha
  rw [if_neg (by simp),w1,cK,if_pos (by decide),rG]
  simp only [List.getElem?_cons_succ,List.getElem?_cons_zero,Option.bind_some]
  by_cases hb:b=0
  ·subst hb
   rw [if_neg (by simp),w2,cK,if_neg (by decide)]
   simp
  ·rw [if_pos (by simpa using hb)];simp
 ·rw [if_pos (by simpa using ha),if_pos ha]
theorem CQ (b:Bool) (n:Int):g9 b n=some (if b=true then 0 else n):=by
 rw [gL,qf]
end Go.Dv.U

namespace Go.Dv.U
open Go Go.Dv Go.Proofs
def aN (p:Int->Bool):List UInt8->Nat
 | []=>0
 | b:: r=>if p (ib b)=true then aN p r+1 else 0
theorem iv (p:Int->Bool):∀ s,aN p s<=s.length
 | []=>Nat.le_refl _
 | b:: r=>by
  have:=iv p r
  simp only [aN,List.length_cons]
  split<;>omega
theorem pO (p:Int->Bool):∀ s:List UInt8,(s.take (aN p s)).all (fun b=>p (ib b))=true
 | []=>rfl
 | b:: r=>by
  simp only [aN]
  split
  ·rename_i h
   rw [List.take_succ_cons,List.all_cons,pO p r,h];rfl
  ·rfl
theorem DS : ∀ s,aN dh s=yC s
 | []=>rfl
 | b:: r=>by
  simp only [aN,yC,DS r]
def xE (b:Int):Bool:=b==43||b==45||b==42||b==47||b==124||b==46||b==36||b==64||b==61
def me (b:Int):Int:=if b=40 then 5 else if b=41 then 6 else if b=60 then 7 else if b=62 then 8 else if b=44 then 9 else if b=58 then 10 else 0
def vW : List UInt8->Option (Int×Int×List UInt8×Nat)
 | []=>none
 | b:: r=>
  if oY (ib b)=true then (if aN dh (b:: r)<=12 then some (1,0,(b:: r).take (aN dh (b:: r)),aN dh (b:: r)) else none)
  else if b5 (ib b)=true then (if aN b5 (b:: r)<=13/\xX ((b:: r).take (aN b5 (b:: r))) 0<=1000000000000 then some (2,((xX ((b:: r).take (aN b5 (b:: r))) 0:Nat):Int),[],aN b5 (b:: r)) else none)
  else if ib b=39\/ib b=34 then (if aN (fun c=>c !=ib b) r<r.length/\aN (fun c=>c !=ib b) r<=200 then some (3,0,r.take (aN (fun c=>c !=ib b) r),aN (fun c=>c !=ib b) r+2) else none)
  else if xE (ib b)=true then some (4,0,[b],1)
  else if me (ib b)≠0 then some (me (ib b),0,[],1) else none
theorem fR (b:UInt8) (r:List UInt8):vW (b:: r) =
  if oY (ib b)=true then (if aN dh (b:: r)<=12 then some (1,0,(b:: r).take (aN dh (b:: r)),aN dh (b:: r)) else none)
  else if b5 (ib b)=true then (if aN b5 (b:: r)<=13/\xX ((b:: r).take (aN b5 (b:: r))) 0<=1000000000000 then some (2,((xX ((b:: r).take (aN b5 (b:: r))) 0:Nat):Int),[],aN b5 (b:: r)) else none)
  else if ib b=39\/ib b=34 then (if aN (fun c=>c !=ib b) r<r.length/\aN (fun c=>c !=ib b) r<=200 then some (3,0,r.take (aN (fun c=>c !=ib b) r),aN (fun c=>c !=ib b) r+2) else none)
  else if xE (ib b)=true then some (4,0,[b],1)
  else if me (ib b)≠0 then some (me (ib b),0,[],1) else none:=rfl
theorem pQ {s:List UInt8} {k n:Int} {t:List UInt8} {m:Nat} (h:vW s=some (k,n,t,m)):1<=m/\m<=s.length:=by
 cases s with
 | nil=>cases h
 | cons b r=>
  rw [fR] at h
  have l1:=iv dh (b:: r)
  have l2:=iv b5 (b:: r)
  have l3:=iv (fun c=>c !=ib b) r
  simp only [List.length_cons] at l1 l2 ⊢
  split at h
  ·rename_i hl
   have:1<=aN dh (b:: r):=by
    have:dh (ib b)=true:=by unfold dh;rw [hl];rfl
    simp only [aN,this,if_true];omega
   split at h
   ·cases h;omega
   ·cases h
  split at h
  ·rename_i hl
   have:1<=aN b5 (b:: r):=by simp only [aN,hl,if_true];omega
   split at h
   ·cases h;omega
   ·cases h
  split at h
  ·split at h
   ·rename_i hc;cases h;omega
   ·cases h
  split at h
  ·cases h;omega
  split at h
  ·cases h;omega
  ·cases h
def cG (s:List UInt8):Bool:=match s with | []=>true | b:: _=>ib b==32
def jb : Nat->List UInt8->Bool->List ac->Nat->List ac×Int×Int
 | _,[],_,out,_=>(out,0,0)
 | 0,_:: _,_,out,_=>(out,0,0)
 | n+1,b:: r,bl,out,at_=>if ib b=32 then jb n r true out (at_+1) else match vW (b:: r) with
  | none=>([],at_,2)
  | some (k,m,t,w)=>if 120<=out.length then ([],at_,6) else jb n ((b:: r).drop w) false (out++[⟨k,m,t,bl,cG ((b:: r).drop w)⟩]) (at_+w)
theorem Ar {x:List UInt8} (hx:x.length<=1000000) (p:Int->Bool) {J:Int->Option Int} (at_:Nat) (hJ:∀ i:Int,J i=if decide (i<len x)=true then (idx x i).bind fun y=>if p (ib y)=true then J (w64 (i+1)) else some (w64 (i-at_)) else some (w64 (i-at_))):
  ∀ (l:List UInt8) (j:Nat),x.drop j=l->at_<=j->j<=x.length->J (j:Int)=some ((j-at_+aN p l:Nat):Int):=by
 intro l
 induction l with
 | nil=>
  intro j hd ha hj
  have:x.length<=j:=by
   have:=congrArg List.length hd
   simp at this;omega
  rw [hJ,if_neg (by simp [aj];omega),aW (by omega) (by omega)]
  simp [aN];omega
 | cons b l ih=>
  intro j hd ha hj
  have hlt:j<x.length:=by
   have:=congrArg List.length hd
   simp at this;omega
  rw [List.drop_eq_getElem_cons hlt] at hd
  simp only [List.cons.injEq] at hd
  rw [hJ,if_pos (by simp [aj,hlt]),ce,List.getElem?_eq_getElem hlt,hd.1]
  simp only [Option.bind_some,aN]
  cases hp:p (ib b)
  ·rw [if_neg (by simp),aW (by omega) (by omega)]
   simp;omega
  ·rw [if_pos rfl,aW (by omega) (by omega),show (j:Int)+1=((j+1:Nat):Int) by omega,ih (j+1) hd.2 (by omega) (by omega)]
   simp;omega
section
variable {x:List UInt8} (hx:x.length<=4000)

include hx
theorem J4 {j:Nat} (hj:j<=x.length):f9 x (j:Int)=some (aN dh (x.drop j):Int):=by
 rw [nV]
 have:=Ar (x:=x) (by omega) dh (J:=dd x (j:Int)) j (fun i=>by rw [lx];simp only [pM,Option.bind_some]) (x.drop j) j rfl (Nat.le_refl _) hj
 rw [this];simp
theorem J5 {j:Nat} (hj:j<=x.length):i7 x (j:Int)=some (aN b5 (x.drop j):Int):=by
 rw [qB]
 have:=Ar (x:=x) (by omega) b5 (J:=dV x (j:Int)) j (fun i=>by rw [nX];simp only [pL,Option.bind_some]) (x.drop j) j rfl (Nat.le_refl _) hj
 rw [this];simp
theorem J6 (q:Int) {j:Nat} (hj:j<=x.length):cy x (j:Int) q=some (aN (fun c=>c !=q) (x.drop j):Int):=by
 rw [mG]
 have:=Ar (x:=x) (by omega) (fun c=>c !=q) (J:=cI x (j:Int) q) j (fun i=>by rw [kE];simp only [ut,Option.bind_some]) (x.drop j) j rfl (Nat.le_refl _) hj
 rw [this];simp
theorem J7 {j:Nat} (hj:j<=x.length):ep x (j:Int)=some (aN (fun c=>c==32) (x.drop j):Int):=by
 rw [lu]
 have:=Ar (x:=x) (by omega) (fun c=>c==32) (J:=cw x (j:Int)) j (fun i=>by rw [jR];simp only [tu,Option.bind_some]) (x.drop j) j rfl (Nat.le_refl _) hj
 rw [this];simp
end
theorem zl {x:List UInt8} {j m:Nat} (h:j+m<=x.length):cut x (j:Int) (Option.getD (some ((j+m:Nat):Int)) (len x))=some ((x.drop j).take m):=by
 have:=iB (xs:=x) (a:=j) (b:=j+m) (by omega) h
 rw [Option.getD_some,this,List.drop_take]
 congr 2;omega
theorem GK (b:UInt8):iU [43,45,42,47,124,46,36,64,61] (ib b)=some (Lib.indexByte [43,45,42,47,124,46,36,64,61] b):=by
 unfold iU
 have:(ib b).toNat.toUInt8=b:=by simp [ib]
 rw [this]
theorem EQ (b:UInt8):iU [40,41,60,62,44,58] (ib b)=some (Lib.indexByte [40,41,60,62,44,58] b):=by
 unfold iU
 have:(ib b).toNat.toUInt8=b:=by simp [ib]
 rw [this]
theorem jE {P:UInt8->Prop} (h:∀ n:Fin 256,P (UInt8.ofNat n)) (b:UInt8):P b:=by
 have:=h ⟨b.toNat,b.toNat_lt⟩
 simpa using this
theorem I7 : ∀ b:UInt8,decide (Lib.indexByte [43,45,42,47,124,46,36,64,61] b>=0)=xE (ib b):=jE (by decide +kernel)
theorem J8 : ∀ b:UInt8,(Lib.indexByte [40,41,60,62,44,58] b = -1/\me (ib b)=0)\/(0<=Lib.indexByte [40,41,60,62,44,58] b/\me (ib b)=5+Lib.indexByte [40,41,60,62,44,58] b/\Lib.indexByte [40,41,60,62,44,58] b<=5):=jE (by decide +kernel)
theorem La : ∀ b:UInt8,xE (ib b)=true->chr (ib b)=some [b]:=jE (by decide +kernel)
theorem yE {x:List UInt8} (hx:x.length<=4000) {j:Nat} (hj:j<x.length):∃ (tk:ac) (n:Int) (ok:Bool),rK x (j:Int)=some (tk,n,ok) /\
    (match vW (x.drop j) with | none=>ok=false | some (k,m,t,w)=>ok=true/\tk.fKind=k/\tk.fNum=m/\tk.fText=t/\n=(w:Int)):=by
  obtain ⟨b,r,hd⟩:∃ b r,x.drop j=b:: r:=⟨_,_,List.drop_eq_getElem_cons hj⟩
  have hget:idx x (j:Int)=some b:=by
    rw [ce,List.getElem?_eq_getElem hj]
    rw [List.drop_eq_getElem_cons hj] at hd
    simp only [List.cons.injEq] at hd
    rw [hd.1]
  have hd1:x.drop (j+1)=r:=by
    rw [List.drop_eq_getElem_cons hj] at hd
    simp only [List.cons.injEq] at hd
    exact hd.2
  have hrl:(b:: r).length=x.length-j:=by rw [<-hd,List.length_drop]
  simp only [List.length_cons] at hrl
  rw [yr,hget,hd,fR]
  simp only [Option.bind_some,oh,pL]
  by_cases h1:oY (ib b)=true
  · rw [if_pos h1,if_pos h1,J4 hx (by omega),hd]
    have hle:=iv dh (b:: r)
    simp only [List.length_cons] at hle
    generalize hn:aN dh (b:: r)=n at hle
    simp only [Option.bind_some]
    rw [aW (by omega) (by omega),show (j:Int)+(n:Int)=((j+n:Nat):Int) by omega,zl (by omega),hd]
    simp only [Option.bind_some]
    refine ⟨_,_,_,rfl,?_⟩
    by_cases h12:n<=12
    · rw [if_pos h12]
      exact ⟨by simp;omega,rfl,rfl,rfl,rfl⟩
    · rw [if_neg h12]
      simp;omega
  rw [if_neg h1,if_neg h1]
  by_cases h2:b5 (ib b)=true
  · rw [if_pos h2,if_pos h2,J5 hx (by omega),hd]
    have hle:=iv b5 (b:: r)
    have hall:=pO b5 (b:: r)
    have hpos:1<=aN b5 (b:: r):=by simp only [aN,h2,if_true];omega
    simp only [List.length_cons] at hle
    generalize hn:aN b5 (b:: r)=n at hle hall hpos
    simp only [Option.bind_some]
    rw [aW (by omega) (by omega),show (j:Int)+(n:Int)=((j+n:Nat):Int) by omega,zl (by omega),hd]
    simp only [Option.bind_some]
    have htl:((b:: r).take n).length=n:=by rw [List.length_take];simp;omega
    have hdg:((b:: r).take n).all Gv=true:=by
      have:(fun c:UInt8=>b5 (ib c))=Gv:=by
        funext c
        unfold Gv b5
        rw [Il,Bool.eq_iff_iff]
        simp
        omega
      rw [<-this];exact hall
    unfold qe
    by_cases h13:13<n
    · rw [if_pos (by rw [htl];exact h13)]
      refine ⟨_,_,_,rfl,?_⟩
      rw [if_neg (by omega)]
    · rw [if_neg (by rw [htl];exact h13),if_pos ⟨by intro e;rw [e] at htl;simp at htl;omega,hdg⟩]
      refine ⟨_,_,_,rfl,?_⟩
      by_cases hb:xX ((b:: r).take n) 0<=1000000000000
      · rw [if_pos ⟨by omega,hb⟩]
        exact ⟨by simpa using hb,rfl,rfl,rfl,rfl⟩
      · rw [if_neg (by omega)]
        simpa using hb
  rw [if_neg h2,if_neg h2]
  have quo:ib b=39\/ib b=34->∀ z:Option (ac×Int×Bool),z=((cy x (w64 ((j:Int)+1)) (ib b)).bind fun r194=>((cut x (w64 ((j:Int)+1)) (Option.getD (Option.some (w64 (w64 ((j:Int)+1)+r194))) (len x))):Option (List UInt8)).bind fun y193=>
      if decide (w64 (w64 ((j:Int)+1)+r194)<len x)=true then some (ac.mk (Int.ofNat 3) (Int.ofNat 0) y193 false false,w64 (r194+2),decide (r194<=200)) else some (ac.mk (Int.ofNat 3) (Int.ofNat 0) y193 false false,w64 (r194+2),false)) ->
      ∃ (tk:ac) (n:Int) (ok:Bool),z=some (tk,n,ok)/\(match (if aN (fun c=>c !=ib b) r<r.length/\aN (fun c=>c !=ib b) r<=200 then some ((3:Int),(0:Int),r.take (aN (fun c=>c !=ib b) r),aN (fun c=>c !=ib b) r+2) else none) with | none=>ok=false | some (k,m,t,w)=>ok=true/\tk.fKind=k/\tk.fNum=m/\tk.fText=t/\n=(w:Int)):=by
    intro _ z hz
    have hle:=iv (fun c=>c !=ib b) r
    rw [aW (by omega) (by omega),show (j:Int)+1=((j+1:Nat):Int) by omega,J6 hx (ib b) (by omega),hd1] at hz
    generalize hn:aN (fun c=>c !=ib b) r=n at hle hz
    simp only [Option.bind_some] at hz
    rw [aW (by omega) (by omega),show ((j+1:Nat):Int)+(n:Int)=((j+1+n:Nat):Int) by omega,zl (by omega),hd1] at hz
    simp only [Option.bind_some] at hz
    rw [aW (by omega) (by omega),aj] at hz
    by_cases hq:n<r.length
    · rw [if_pos (by simp;omega)] at hz
      refine ⟨_,_,_,hz,?_⟩
      by_cases h200:n<=200
      · rw [if_pos ⟨hq,h200⟩]
        exact ⟨by simp;omega,rfl,rfl,rfl,by simp⟩
      · rw [if_neg (by omega)]
        simp;omega
    · rw [if_neg (by simp;omega)] at hz
      refine ⟨_,_,_,hz,?_⟩
      rw [if_neg (by omega)]
  by_cases h39:ib b=39
  · rw [if_pos (by simpa using h39),if_pos (.inl h39)]
    exact quo (.inl h39) _ rfl
  rw [if_neg (by simpa using h39)]
  by_cases h34:ib b=34
  · rw [if_pos (by simpa using h34),if_pos (.inr h34)]
    exact quo (.inr h34) _ rfl
  rw [if_neg (by simpa using h34),if_neg (by omega),GK]
  simp only [Option.bind_some]
  by_cases h4:xE (ib b)=true
  · rw [if_pos (by rw [I7];exact h4),if_pos h4,La b h4]
    simp only [Option.bind_some]
    exact ⟨_,_,_,rfl,rfl,rfl,rfl,rfl,rfl⟩
  · rw [if_neg (by rw [I7];exact h4),if_neg h4,EQ]
    simp only [Option.bind_some]
    refine ⟨_,_,_,rfl,?_⟩
    rcases J8 b with ⟨e1,e2⟩ | ⟨e1,e2,e3⟩
    · rw [if_neg (by simpa using e2)]
      simp [e1]
    · rw [if_pos (by omega)]
      refine ⟨by simpa using e1,?_,rfl,rfl,rfl⟩
      show w64 _=_
      rw [aW (by omega) (by omega),e2]
end Go.Dv.U

namespace Go.Dv.U
open Go Go.Dv Go.Proofs
theorem nu {p:Int->Bool} {b:UInt8} {r:List UInt8} (h:p (ib b)=false):aN p (b:: r)=0:=by simp [aN,h]
theorem jc {p:Int->Bool} {b:UInt8} {r:List UInt8} (h:p (ib b)=true):aN p (b:: r)=aN p r+1:=by simp [aN,h]
theorem ER : ∀ (s:List UInt8) (n:Nat) (bl:Bool) (out:List ac) (at_:Nat),s.length<=n->jb n s bl out at_=jb (n-aN (fun c=>c==32) s) (s.drop (aN (fun c=>c==32) s)) (if aN (fun c=>c==32) s=0 then bl else true) out (at_+aN (fun c=>c==32) s):=by
 intro s
 induction s with
 | nil=>intro n bl out at_ _;simp [aN]
 | cons b r ih=>
  intro n bl out at_ h
  by_cases hb:ib b=32
  ·have hr:(fun c:Int=>c==32) (ib b)=true:=by simpa using hb
   rw [jc hr]
   cases n with
   | zero=>simp at h
   | succ n=>
    simp only [jb,hb,if_true]
    rw [ih n true out (at_+1) (by simpa using h)]
    simp only [List.drop_succ_cons,Nat.add_eq_zero_iff,Nat.one_ne_zero,and_false,if_false,ite_self]
    congr 1
    ·omega
    ·omega
  ·have hr:(fun c:Int=>c==32) (ib b)=false:=by simpa using hb
   rw [nu hr]
   simp
theorem wk {p:Int->Bool}:∀ s:List UInt8,∀ b r,s.drop (aN p s)=b:: r->p (ib b)=false
 | [],b,r,h=>by simp [aN] at h
 | c:: s,b,r,h=>by
  cases hc:p (ib c)
  ·rw [nu hc] at h
   simp only [List.drop_zero,List.cons.injEq] at h
   rw [<-h.1];exact hc
  ·rw [jc hc] at h
   exact wk s b r h
theorem J9 {x:List UInt8} (hx:x.length<=4000):∀ (N n j:Nat) (out:List ac),n<=N->j<=x.length->x.length-j<=n->out.length<=120->g8 x (j:Int) out=some (jb n (x.drop j) (len out==0) out j):=by
 intro N
 induction N with
 | zero=>
  intro n j out hn hj hl ho
  have:x.drop j=[]:=List.drop_eq_nil_of_le (by omega)
  rw [ik,if_neg (by simp [aj];omega),this]
  cases n<;>rfl
 | succ N ih=>
  intro n j out hn hj hl ho
  by_cases hlt:j<x.length
  ·rw [ik,if_pos (by simpa [aj] using hlt),J7 hx hj]
   simp only [Option.bind_some]
   have hle:=iv (fun c=>c==32) (x.drop j)
   rw [List.length_drop] at hle
   rw [ER (x.drop j) n (len out==0) out j (by rw [List.length_drop];omega)]
   have hdr:=wk (p:=fun c=>c==32) (x.drop j)
   generalize aN (fun c=>c==32) (x.drop j)=q at hle hdr ⊢
   rw [List.drop_drop] at hdr ⊢
   rw [aW (by omega) (by omega),show (j:Int)+(q:Int)=((j+q:Nat):Int) by omega]
   by_cases hend:j+q=x.length
   ·rw [if_pos (by simp [aj,hend])]
    have:x.drop (j+q)=[]:=List.drop_eq_nil_of_le (by omega)
    rw [this]
    cases (n-q)<;>rfl
   ·rw [if_neg (by simp [aj];omega)]
    have hlt2:j+q<x.length:=by omega
    obtain ⟨b,r,hd⟩:∃ b r,x.drop (j+q)=b:: r:=⟨_,_,List.drop_eq_getElem_cons hlt2⟩
    have hb:¬ ib b=32:=by simpa using hdr b r hd
    obtain ⟨m,hm⟩:∃ m,n-q=m+1:=⟨n-q-1,by omega⟩
    rw [hm,hd]
    simp only [jb,hb,if_false]
    obtain ⟨tk,w,ok,hs,hmt⟩:=yE hx hlt2
    rw [hs]
    rw [hd] at hmt
    simp only [Option.bind_some,CQ,CP]
    cases ht:vW (b:: r) with
    | none=>
     rw [ht] at hmt
     simp only at hmt
     subst hmt
     simp
    | some z=>
     obtain ⟨k,mm,t,w'⟩:=z
     rw [ht] at hmt
     simp only at hmt
     obtain ⟨rfl,rfl,rfl,rfl,rfl⟩:=hmt
     have hw:=pQ ht
     rw [<-hd,List.length_drop] at hw
     simp only [if_true,ne_eq,not_true_eq_false,if_false]
     by_cases h120:120<=out.length
     ·have e:decide (len out<120)=false:=by simp [aj];omega
      rw [e,if_pos h120]
      simp
     ·have e:decide (len out<120)=true:=by simp [aj];omega
      rw [e,if_neg h120]
      simp only [if_true]
      rw [if_neg (by simp),aW (n:=((j+q:Nat):Int)+(w':Int)) (by omega) (by omega),show ((j+q:Nat):Int)+(w':Int)=((j+q+w':Nat):Int) by omega]
      have hrest:(b:: r).drop w'=x.drop (j+q+w'):=by rw [<-hd,List.drop_drop]
      rw [hrest]
      have go:∀ (bf af:Bool),af=cG (x.drop (j+q+w'))->bf=(if q=0 then (len out==0) else true)->dH x ((j+q+w':Nat):Int) out tk.fKind tk.fNum tk.fText bf af=some (jb m (x.drop (j+q+w')) false (out++[⟨tk.fKind,tk.fNum,tk.fText,if q=0 then (len out==0) else true,cG (x.drop (j+q+w'))⟩]) (j+q+w')):=by
       intro bf af h1 h2
       rw [rW,av (by simp;omega)]
       simp only [Option.bind_some]
       rw [ih m (j+q+w') _ (by omega) (by omega) (by omega) (by simp;omega),h1,h2]
       have:(len (out++[(⟨tk.fKind,tk.fNum,tk.fText,if q=0 then (len out==0) else true,cG (x.drop (j+q+w'))⟩:ac)])==0)=false:=by
        simp [aj];omega
       rw [this]
      by_cases hq:q=0
      ·rw [if_neg (by simp [hq])]
       by_cases he:j+q+w'=x.length
       ·have hn2:x.drop (j+q+w')=[]:=List.drop_eq_nil_of_le (by omega)
        rw [if_pos (by simp [aj,he])]
        exact go _ _ (by rw [hn2];rfl) (by rw [if_pos hq])
       ·rw [if_neg (by simp [aj];omega),ce,List.getElem?_eq_getElem (by omega)]
        simp only [Option.bind_some]
        exact go _ _ (by rw [List.drop_eq_getElem_cons (by omega)];rfl) (by rw [if_pos hq])
      ·rw [if_pos (by simp;omega)]
       by_cases he:j+q+w'=x.length
       ·have hn2:x.drop (j+q+w')=[]:=List.drop_eq_nil_of_le (by omega)
        rw [if_pos (by simp [aj,he])]
        exact go _ _ (by rw [hn2];rfl) (by rw [if_neg hq])
       ·rw [if_neg (by simp [aj];omega),ce,List.getElem?_eq_getElem (by omega)]
        simp only [Option.bind_some]
        exact go _ _ (by rw [List.drop_eq_getElem_cons (by omega)];rfl) (by rw [if_neg hq])
  ·have:x.drop j=[]:=List.drop_eq_nil_of_le (by omega)
   rw [ik,if_neg (by simp [aj];omega),this]
   cases n<;>rfl
def fp (x:List UInt8):List ac×Int×Int:=if x.length<=4000/\eV x=true then jb x.length x true [] 0 else ([],0,1)
theorem pR {x:List UInt8} (h:x.length<=9223372036854775807):lS x=some (fp x):=by
 rw [xf]
 unfold fp
 by_cases hl:x.length<=4000
 ·rw [if_neg (by simp [aj];omega),gF h]
  simp only [Option.bind_some]
  cases hp:eV x
  ·simp
  ·have:=J9 hl x.length x.length 0 [] (Nat.le_refl _) (by omega) (by omega) (by simp)
   simp only [Int.natCast_zero,List.drop_zero] at this
   simp only [Bool.not_true,Bool.false_eq_true,if_false,hl,and_self,if_true]
   rw [this]
   rfl
 ·rw [if_pos (by simp [aj];omega),if_neg (by omega)]
end Go.Dv.U

namespace Go.Dv.U
open Go Go.Dv Go.Proofs
theorem oD (c:Int):kB c=some (xE c):=by
 rw [vN,qD,qE]
 unfold xE
 simp only [qf]
 congr 1
 cases c==43<;>cases c==45<;>cases c==42<;>cases c==47<;>cases c==124<;>cases c==46<;>cases c==36<;>cases c==64<;>cases c==61<;>rfl
def Lb : ac:=⟨0,0,[],false,false⟩
theorem Ld (j:Nat) (hj:j<=4000) (c:Int):fD (j:Int) c [40,41,60,62,44,58] 0 0 0 [] false false=some (if me c≠0 then ((⟨me c,0,[],false,false⟩:ac),((j+1:Nat):Int)) else (Lb,-1)):=by
 have hw:w64 ((j:Int)+1)=((j+1:Nat):Int):=by rw [aW (by omega) (by omega)];omega
 have step:∀ (k:Int) (y:UInt8),idx [40,41,60,62,44,58] k=some y->0<=k->k<6->fD (j:Int) c [40,41,60,62,44,58] k 0 0 [] false false=if ib y=c then some ((⟨w64 (5+k),0,[],false,false⟩:ac),((j+1:Nat):Int)) else fD (j:Int) c [40,41,60,62,44,58] (w64 (k+1)) 0 0 [] false false:=by
  intro k y h h0 h6
  rw [pG,if_pos (by simp [aj];omega),h]
  simp only [Option.bind_some,beq_iff_eq,hw]
  rfl
 have w1:w64 (0+1)=1:=by decide
 have w2:w64 (1+1)=2:=by decide
 have w3:w64 (2+1)=3:=by decide
 have w4:w64 (3+1)=4:=by decide
 have w5:w64 (4+1)=5:=by decide
 have w6:w64 (5+1)=6:=by decide
 have last:fD (j:Int) c [40,41,60,62,44,58] 6 0 0 [] false false=some (Lb,-1):=by
  rw [pG,if_neg (by simp [aj])];rfl
 rw [step 0 40 rfl (by decide) (by decide),w1,step 1 41 rfl (by decide) (by decide),w2,step 2 60 rfl (by decide) (by decide),w3,step 3 62 rfl (by decide) (by decide),w4,step 4 44 rfl (by decide) (by decide),w5,step 5 58 rfl (by decide) (by decide),w6,last]
 have i1:ib 40=40:=by decide
 have i2:ib 41=41:=by decide
 have i3:ib 60=60:=by decide
 have i4:ib 62=62:=by decide
 have i5:ib 44=44:=by decide
 have i6:ib 58=58:=by decide
 have v0:w64 (5+0)=5:=by decide
 have v1:w64 (5+1)=6:=by decide
 have v2:w64 (5+2)=7:=by decide
 have v3:w64 (5+3)=8:=by decide
 have v4:w64 (5+4)=9:=by decide
 have v5:w64 (5+5)=10:=by decide
 simp only [i1,i2,i3,i4,i5,i6,v0,v1,v2,v3,v4,v5]
 unfold me
 by_cases h1:c=40
 ·subst h1;simp
 by_cases h2:c=41
 ·subst h2;simp
 by_cases h3:c=60
 ·subst h3;simp
 by_cases h4:c=62
 ·subst h4;simp
 by_cases h5:c=44
 ·subst h5;simp
 by_cases h6:c=58
 ·subst h6;simp
 have f:∀ n:Int,c≠n->¬ n=c:=fun n h e=>h e.symm
 simp [h1,h2,h3,h4,h5,h6,f _ h1,f _ h2,f _ h3,f _ h4,f _ h5,f _ h6]
section
variable {x:List UInt8} (hx:x.length<=4000)

include hx
theorem Le {j:Nat}:∀ (l:List UInt8) (e acc:Nat),x.drop e=l->j<=e->e<=x.length->e-j<=14->acc<10 ^ (e-j) ->
  lX x (j:Int) (acc:Int) (e:Int) 0 0 [] false false=some (if (e-j)+aN b5 l<=13/\xX (l.take (aN b5 l)) acc<=1000000000000 then ((⟨2,(xX (l.take (aN b5 l)) acc:Nat),[],false,false⟩:ac),((e+aN b5 l:Nat):Int)) else (Lb,-1)):=by
 have L13:∀ (e acc:Nat),j<=e->e<=x.length->ju (j:Int) (acc:Int) (e:Int) 0 0 [] false false=some (if e-j<=13/\acc<=1000000000000 then ((⟨2,(acc:Nat),[],false,false⟩:ac),(e:Int)) else (Lb,-1)):=by
  intro e acc h1 h2
  rw [xv,aW (by omega) (by omega)]
  by_cases h13:e-j<=13
  ·rw [if_neg (by simp;omega)]
   by_cases hb:acc<=1000000000000
   ·rw [if_neg (by simp;omega),if_pos ⟨h13,hb⟩]
    rfl
   ·rw [if_pos (by simp;omega),if_neg (by omega)];rfl
  ·rw [if_pos (by simp;omega),if_neg (by omega)];rfl
 intro l
 induction l with
 | nil=>
  intro e acc hd h1 h2 h3 h4
  have:x.length<=e:=by
   have:=congrArg List.length hd
   simp at this;omega
  rw [pE,if_neg (by simp [aj];omega),L13 e acc h1 h2]
  simp [aN,xX]
 | cons b l ih=>
  intro e acc hd h1 h2 h3 h4
  have hlt:e<x.length:=by
   have:=congrArg List.length hd
   simp at this;omega
  rw [List.drop_eq_getElem_cons hlt] at hd
  simp only [List.cons.injEq] at hd
  rw [pE,if_pos (by simp [aj,hlt]),ce,List.getElem?_eq_getElem hlt,hd.1]
  simp only [Option.bind_some,oi]
  cases hg:b5 (ib b)
  ·rw [if_neg (by simp),L13 e acc h1 h2,nu hg]
   simp [xX]
  ·rw [if_pos rfl,jc hg,aW (by omega) (by omega)]
   by_cases h14:e-j<14
   ·have hb:=Il b
    unfold b5 at hg
    simp only [Bool.and_eq_true_iff,decide_eq_true_eq] at hg
    have hp:10 ^ (e-j)<=10 ^ 13:=Nat.pow_le_pow_right (by decide) (by omega)
    have hp2:10 ^ (e-j+1)=10 ^ (e-j)*10:=Nat.pow_succ _ _
    rw [if_pos (by simp;omega),xu,ce,List.getElem?_eq_getElem hlt,hd.1]
    simp only [Option.bind_some]
    have e1:Go.IntKind.wrap Go.IntKind.u8 (ib b-48)=ib b-48:=by unfold IntKind.wrap;simp [IntKind.bits,IntKind.signed];omega
    rw [e1,aW (n:=ib b-48) (by omega) (by omega),aW (n:=10*(acc:Int)) (by omega) (by omega),aW (n:=10*(acc:Int)+(ib b-48)) (by omega) (by omega),aW (n:=(e:Int)+1) (by omega) (by omega)]
    rw [show 10*(acc:Int)+(ib b-48)=((acc*10+(b.toNat-48):Nat):Int) by omega,show (e:Int)+1=((e+1:Nat):Int) by omega]
    rw [ih (e+1) (acc*10+(b.toNat-48)) hd.2 (by omega) (by omega) (by omega) (by rw [show e+1-j=e-j+1 by omega];omega)]
    have en:xX ((b:: l).take (aN b5 l+1)) acc=xX (l.take (aN b5 l)) (acc*10+(b.toNat-48)):=by
     rw [List.take_succ_cons];rfl
    rw [en,show e+1-j+aN b5 l=e-j+(aN b5 l+1) by omega,show e+1+aN b5 l=e+(aN b5 l+1) by omega]
   ·rw [if_neg (by simp;omega),L13 e acc h1 h2,if_neg (by omega),if_neg (by omega)]
theorem Lf {j:Nat} (q:Int):∀ (l:List UInt8) (e:Nat),x.drop e=l->j+1<=e->e<=x.length ->
  gQ x (j:Int) q (e:Int) 0 0 [] false false=some (if aN (fun c=>c !=q) l<l.length/\e+aN (fun c=>c !=q) l-j-1<=200 then ((⟨3,0,(x.drop (j+1)).take (e+aN (fun c=>c !=q) l-j-1),false,false⟩:ac),((e+aN (fun c=>c !=q) l+1:Nat):Int)) else (Lb,-1)):=by
 intro l
 induction l with
 | nil=>
  intro e hd h1 h2
  have:e=x.length:=by
   have:=congrArg List.length hd
   simp at this;omega
  rw [pF,if_neg (by simp [aj];omega),if_pos (by simp [aj,this]),pH]
  rfl
 | cons b l ih=>
  intro e hd h1 h2
  have hlt:e<x.length:=by
   have:=congrArg List.length hd
   simp at this;omega
  rw [List.drop_eq_getElem_cons hlt] at hd
  simp only [List.cons.injEq] at hd
  rw [pF,if_pos (by simp [aj,hlt]),ce,List.getElem?_eq_getElem hlt,hd.1]
  simp only [Option.bind_some]
  by_cases hb:ib b=q
  ·have hr:(fun c:Int=>c !=q) (ib b)=false:=by simpa using hb
   rw [if_neg (by simpa using hb),if_neg (by simp [aj];omega),nu hr]
   rw [aW (n:=(e:Int)-(j:Int)) (by omega) (by omega),aW (by omega) (by omega)]
   simp only [Nat.add_zero]
   by_cases h200:e-j-1<=200
   ·rw [if_neg (by simp;omega),if_pos ⟨by simp,h200⟩,xw,aW (n:=(j:Int)+1) (by omega) (by omega),aW (by omega) (by omega)]
    have:=zl (x:=x) (j:=j+1) (m:=e-j-1) (by omega)
    rw [show j+1+(e-j-1)=e by omega] at this
    rw [show (j:Int)+1=((j+1:Nat):Int) by omega,this]
    rfl
   ·rw [if_pos (by simp;omega),if_neg (by omega),pH]
    rfl
  ·have hr:(fun c:Int=>c !=q) (ib b)=true:=by simpa using hb
   rw [if_pos (by simpa using hb),aW (by omega) (by omega),show (e:Int)+1=((e+1:Nat):Int) by omega,ih (e+1) hd.2 (by omega) (by omega),jc hr]
   have e1:e+1+aN (fun c=>c !=q) l=e+(aN (fun c=>c !=q) l+1):=by omega
   rw [e1]
   simp only [List.length_cons,Nat.add_lt_add_iff_right]
theorem CR {j:Nat} (hj:j<x.length):∃ (tk:ac) (e:Int),zY x (j:Int)=some (tk,e) /\
  (match vW (x.drop j) with | none=>e = -1 | some (k,m,t,w)=>tk.fKind=k/\tk.fNum=m/\tk.fText=t/\e=((j+w:Nat):Int)):=by
 obtain ⟨b,r,hd⟩:∃ b r,x.drop j=b:: r:=⟨_,_,List.drop_eq_getElem_cons hj⟩
 have hget:idx x (j:Int)=some b:=by
  rw [ce,List.getElem?_eq_getElem hj]
  rw [List.drop_eq_getElem_cons hj] at hd
  simp only [List.cons.injEq] at hd
  rw [hd.1]
 have hd1:x.drop (j+1)=r:=by
  rw [List.drop_eq_getElem_cons hj] at hd
  simp only [List.cons.injEq] at hd
  exact hd.2
 have hrl:(b:: r).length=x.length-j:=by rw [<-hd,List.length_drop]
 simp only [List.length_cons] at hrl
 have hone:w64 ((j:Int)+1)=((j+1:Nat):Int):=by rw [aW (by omega) (by omega)];omega
 rw [CL,hget,hd,fR]
 simp only [Option.bind_some,mL,oi]
 by_cases h1:oY (ib b)=true
 ·have hle:=iv dh (b:: r)
  simp only [List.length_cons] at hle
  rw [if_pos h1,if_pos h1,pN (by omega) (by omega),hd]
  simp only [h1,if_true,Option.bind_some,<-DS]
  generalize aN dh (b:: r)=n at hle
  rw [aW (by omega) (by omega)]
  by_cases h12:n<=12
  ·rw [if_neg (by simp;omega),if_pos h12,zl (by omega),hd]
   exact ⟨_,_,rfl,rfl,rfl,rfl,rfl⟩
  ·rw [if_pos (by simp;omega),if_neg h12]
   exact ⟨_,_,rfl,rfl⟩
 rw [if_neg h1,if_neg h1]
 by_cases h2:b5 (ib b)=true
 ·rw [if_pos h2,if_pos h2]
  have:=Le hx (j:=j) (b:: r) j 0 hd (Nat.le_refl _) (by omega) (by omega) (by simp)
  simp only [Int.natCast_zero,Nat.sub_self,Nat.zero_add] at this
  rw [this]
  split
  ·exact ⟨_,_,rfl,rfl,rfl,rfl,rfl⟩
  ·exact ⟨_,_,rfl,rfl⟩
 rw [if_neg h2,if_neg h2]
 have quo:∃ (tk:ac) (e:Int),gQ x (j:Int) (ib b) ((j+1:Nat):Int) 0 0 [] false false=some (tk,e)/\(match (if aN (fun c=>c !=ib b) r<r.length/\aN (fun c=>c !=ib b) r<=200 then some ((3:Int),(0:Int),r.take (aN (fun c=>c !=ib b) r),aN (fun c=>c !=ib b) r+2) else none) with | none=>e = -1 | some (k,m,t,w)=>tk.fKind=k/\tk.fNum=m/\tk.fText=t/\e=((j+w:Nat):Int)):=by
  rw [Lf hx (ib b) r (j+1) hd1 (Nat.le_refl _) (by omega),hd1]
  rw [show j+1+aN (fun c=>c !=ib b) r-j-1=aN (fun c=>c !=ib b) r by omega]
  split
  ·exact ⟨_,_,rfl,rfl,rfl,rfl,by omega⟩
  ·exact ⟨_,_,rfl,rfl⟩
 by_cases h39:ib b=39
 ·rw [if_pos (by simpa using h39),if_pos (.inl h39),hone]
  exact quo
 rw [if_neg (by simpa using h39)]
 by_cases h34:ib b=34
 ·rw [if_pos (by simpa using h34),if_pos (.inr h34),hone]
  exact quo
 rw [if_neg (by simpa using h34),if_neg (by omega),oD]
 simp only [Option.bind_some]
 by_cases h4:xE (ib b)=true
 ·rw [if_pos h4,if_pos h4,hone]
  have:=zl (x:=x) (j:=j) (m:=1) (by omega)
  rw [this,hd]
  exact ⟨_,_,rfl,rfl,rfl,rfl,rfl⟩
 ·rw [if_neg h4,if_neg h4,Ld j (by omega) (ib b)]
  split
  ·exact ⟨_,_,rfl,rfl,rfl,rfl,rfl⟩
  ·exact ⟨_,_,rfl,rfl⟩
theorem Ka : ∀ (N n j:Nat) (bl:Bool) (out:List ac),n<=N->j<=x.length->x.length-j<=n->out.length<=120 ->
    (∀ tk,out[out.length-1]?=some tk->tk.fAfter=true\/(bl=false/\cG (x.drop j)=false))->ek x (j:Int) bl out=some (jb n (x.drop j) bl out j):=by
  have fin:∀ (j:Nat) (bl:Bool) (out:List ac) (n:Nat),x.length<=j->j<=x.length->out.length<=120->(∀ tk,out[out.length-1]?=some tk->tk.fAfter=true\/(bl=false/\cG (x.drop j)=false))->ek x (j:Int) bl out=some (jb n (x.drop j) bl out j):=by
    intro j bl out n h1 h2 ho hi
    have hd:x.drop j=[]:=List.drop_eq_nil_of_le h1
    have hs:jb n (x.drop j) bl out j=(out,0,0):=by rw [hd];cases n<;>rfl
    rw [hs,pz,if_neg (by simp [aj];omega)]
    by_cases h0:out.length=0
    · rw [if_neg (by simp [aj,h0])]
    · rw [if_pos (by simp [aj];omega),aj,aW (by omega) (by omega),show (out.length:Int)-1=((out.length-1:Nat):Int) by omega,ce,Int.toNat_natCast]
      have hlt:out.length-1<out.length:=by omega
      rw [List.getElem?_eq_getElem hlt]
      simp only [Option.bind_some]
      have ha:(out[out.length-1]).fAfter=true:=by
        rcases hi _ (List.getElem?_eq_getElem hlt) with h | ⟨_,h⟩
        · exact h
        · rw [hd] at h;cases h
      have:upd out (out.length-1) ⟨out[out.length-1].fKind,out[out.length-1].fNum,out[out.length-1].fText,out[out.length-1].fBefore,true⟩=out:=by
        rw [zh,<-ha]
        exact List.set_getElem_self hlt
      rw [this]
  intro N
  induction N with
  | zero=>
    intro n j bl out hn hj hl ho hi
    exact fin j bl out n (by omega) hj ho hi
  | succ N ih =>
    intro n j bl out hn hj hl ho hi
    by_cases hlt:j<x.length
    · obtain ⟨b,r,hd⟩:∃ b r,x.drop j=b:: r:=⟨_,_,List.drop_eq_getElem_cons hlt⟩
      have hget:idx x (j:Int)=some b:=by
        rw [ce,List.getElem?_eq_getElem hlt]
        rw [List.drop_eq_getElem_cons hlt] at hd
        simp only [List.cons.injEq] at hd
        rw [hd.1]
      have hd1:x.drop (j+1)=r:=by
        rw [List.drop_eq_getElem_cons hlt] at hd
        simp only [List.cons.injEq] at hd
        exact hd.2
      obtain ⟨m,rfl⟩:∃ m,n=m+1:=⟨n-1,by omega⟩
      rw [pz,if_pos (by simpa [aj] using hlt),hget,hd]
      simp only [Option.bind_some,jb]
      by_cases hb:ib b=32
      · rw [if_pos (by simpa using hb),if_pos hb,aW (by omega) (by omega),show (j:Int)+1=((j+1:Nat):Int) by omega,ih m (j+1) true out (by omega) (by omega) (by omega) ho (fun tk h=>by
          rcases hi tk h with h | ⟨_,h⟩
          · exact .inl h
          · rw [hd] at h
            simp [cG,hb] at h),hd1]
      · rw [if_neg (by simpa using hb),if_neg hb]
        obtain ⟨tk,e,hs,hmt⟩:=CR hx hlt
        rw [hs]
        rw [hd] at hmt
        simp only [Option.bind_some]
        cases ht:vW (b:: r) with
        | none=>
          rw [ht] at hmt
          simp only at hmt
          subst hmt
          rw [if_pos (by simp)]
        | some z=>
          obtain ⟨k,mm,t,w⟩:=z
          rw [ht] at hmt
          simp only at hmt
          obtain ⟨rfl,rfl,rfl,rfl⟩:=hmt
          have hw:=pQ ht
          rw [<-hd,List.length_drop] at hw
          rw [if_neg (by simp;omega)]
          simp only
          by_cases h120:out.length=120
          · rw [if_pos (show (len out==120)=true by simp [aj,h120]),if_pos (show 120<=out.length by omega)]
          · rw [if_neg (show ¬ (len out==120)=true by simp [aj];omega),if_neg (show ¬ 120<=out.length by omega)]
            have hrest:(b:: r).drop w=x.drop (j+w):=by rw [<-hd,List.drop_drop]
            rw [hrest]
            have go:∀ af:Bool,af=cG (x.drop (j+w))->((app out [(⟨tk.fKind,tk.fNum,tk.fText,bl,af⟩:ac)]).bind fun y=>ek x ((j+w:Nat):Int) false y)=some (jb m (x.drop (j+w)) false (out++[⟨tk.fKind,tk.fNum,tk.fText,bl,cG (x.drop (j+w))⟩]) (j+w)):=by
              intro af h
              rw [av (by simp;omega)]
              simp only [Option.bind_some]
              rw [h]
              exact ih m (j+w) false _ (by omega) (by omega) (by omega) (by simp;omega) (fun tk' hk=>by
                simp only [List.length_append,List.length_cons,List.length_nil,Nat.zero_add,Nat.add_sub_cancel] at hk
                rw [List.getElem?_append_right (Nat.le_refl _)] at hk
                simp only [Nat.sub_self,List.getElem?_cons_zero,Option.some.injEq] at hk
                subst hk
                cases hnb:cG (x.drop (j+w))
                · exact .inr ⟨rfl,rfl⟩
                · exact .inl rfl)
            by_cases he:j+w=x.length
            · have hn2:x.drop (j+w)=[]:=List.drop_eq_nil_of_le (by omega)
              rw [if_pos (show (((j+w:Nat):Int)==len x)=true by simp [aj,he])]
              exact go true (by rw [hn2];rfl)
            · rw [if_neg (show ¬ (((j+w:Nat):Int)==len x)=true by simp [aj];omega),ce,List.getElem?_eq_getElem (by omega)]
              simp only [Option.bind_some]
              exact go _ (by rw [List.drop_eq_getElem_cons (by omega)];rfl)
    · exact fin j bl out n (by omega) hj ho hi
end
theorem pS {x:List UInt8} (h:x.length<=9223372036854775807):lQ x=some (fp x):=by
 rw [xb]
 unfold fp
 by_cases hl:x.length<=4000
 ·rw [if_neg (by simp [aj];omega),nr h]
  simp only [Option.bind_some]
  cases hp:eV x
  ·simp
  ·have:=Ka hl x.length x.length 0 true [] (Nat.le_refl _) (by omega) (by omega) (by simp) (fun tk h=>by simp at h)
   simp only [Int.natCast_zero,List.drop_zero] at this
   simp only [Bool.not_true,Bool.false_eq_true,if_false,hl,and_self,if_true,By]
   rw [this]
   rfl
 ·rw [if_pos (by simp [aj];omega),if_neg (by omega)]
end Go.Dv.U

namespace Go.Dv.U
open Go Go.Dv Go.Proofs
theorem Kb : ∀ u:Nat,(Lib.decDigits u).all (fun b=>b5 (ib b))=true/\xX (Lib.decDigits u) 0=u/\Lib.decDigits u≠[]:=by
 intro u
 induction u using Nat.strongRecOn with
 | _ u ih=>
  have hd:∀ d:Nat,d<10->b5 (ib (UInt8.ofNat (48+d)))=true/\(UInt8.ofNat (48+d)).toNat-48=d:=by
   intro d hd
   have h:(UInt8.ofNat (48+d)).toNat=48+d:=by simp;omega
   refine ⟨?_,by omega⟩
   simp only [b5,Il,h,Bool.and_eq_true,decide_eq_true_eq];omega
  rw [Lib.decDigits]
  by_cases h:u<10
  ·rw [dif_pos h]
   obtain ⟨h1,h2⟩:=hd u h
   refine ⟨by simp only [List.all_cons,List.all_nil,h1,Bool.and_true],?_,by simp⟩
   simp only [xX,List.foldl_cons,List.foldl_nil];omega
  ·rw [dif_neg h]
   obtain ⟨i1,i2,i3⟩:=ih (u / 10) (by omega)
   obtain ⟨h1,h2⟩:=hd (u % 10) (by omega)
   refine ⟨by rw [List.all_append,i1];simp only [List.all_cons,List.all_nil,h1,Bool.and_true],?_,by simp⟩
   unfold xX at i2 ⊢
   rw [List.foldl_append,i2]
   simp only [List.foldl_cons,List.foldl_nil];omega
theorem uE {u:Nat} (h:u<=1000000000000):(Lib.decDigits u).length<=13:=by
 rw [Lib.decDigits_length]
 exact nt 12 u (by omega)
theorem ql {p:Int->Bool}:∀ (a r:List UInt8),a.all (fun b=>p (ib b))=true->(∀ b t,r=b:: t->p (ib b)=false)->aN p (a++r)=a.length
 | [],r,_,h=>by
  cases r with
  | nil=>rfl
  | cons b t=>exact nu (h b t rfl)
 | x:: a,r,ha,h=>by
  rw [List.all_cons,Bool.and_eq_true] at ha
  rw [List.cons_append,jc ha.1,ql a r ha.2 h,List.length_cons]
theorem As {α:Type} (a r:List α):(a++r).take a.length=a:=by simp
theorem Iq {α:Type} (a r:List α):(a++r).drop a.length=r:=by simp
def lK (t:ac):List UInt8:=if t.fKind=1\/t.fKind=4 then t.fText else if t.fKind=2 then Lib.decDigits t.fNum.toNat else if t.fKind=3 then xD t.fText else if t.fKind=5 then [40] else if t.fKind=6 then [41] else if t.fKind=7 then [60] else if t.fKind=8 then [62] else if t.fKind=9 then [44] else [58]
inductive Sc : Bool->List UInt8->List ac->Prop
 | nil (bl:Bool):Sc bl [] []
 | bl (bl:Bool) {r:List UInt8} {L:List ac} (h:Sc true r L):Sc bl (32:: r) L
 | tok (bl:Bool) {s:List UInt8} {k m:Int} {t:List UInt8} {w:Nat} {L:List ac} (hb:∀ b r,s=b:: r->¬ ib b=32) (ht:vW s=some (k,m,t,w)) (h:Sc false (s.drop w) L):Sc bl s (⟨k,m,t,bl,cG (s.drop w)⟩:: L)
theorem Of {b:UInt8} (h:ib b=32):b=32:=qP.1 (h.trans (by decide))
theorem wl : ∀ (n:Nat) (s:List UInt8) (bl:Bool) (out:List ac) (at_:Nat) (R:List ac) (e:Int),s.length<=n->jb n s bl out at_=(R,e,0)->∃ L,Sc bl s L/\R=out++L
 | n,[],bl,out,at_,R,e,_,h=>by
  have:jb n [] bl out at_=(out,0,0):=by cases n<;>rfl
  rw [this] at h
  cases h
  exact ⟨[],.nil bl,by simp⟩
 | 0,b:: r,bl,out,at_,R,e,hn,h=>by simp at hn
 | n + 1,b:: r,bl,out,at_,R,e,hn,h=>by
  rw [jb] at h
  split at h
  ·rename_i hb
   obtain rfl:=Of hb
   obtain ⟨L,h1,h2⟩:=wl n r true out (at_+1) R e (by simpa using hn) h
   exact ⟨L,.bl bl h1,h2⟩
  ·rename_i hb
   split at h
   ·cases h
   ·rename_i k m t w ht
    split at h
    ·cases h
    ·have hl:=pQ ht
     obtain ⟨L,h1,h2⟩:=wl n _ false _ _ R e (by rw [List.length_drop];simp only [List.length_cons] at hn hl ⊢;omega) h
     exact ⟨_,.tok bl (fun b' r' e=>by cases e;exact hb) ht h1,by rw [h2];simp⟩
theorem Ir {bl:Bool} {s:List UInt8} {L:List ac} (h:Sc bl s L):∀ (n:Nat) (out:List ac) (at_:Nat),s.length<=n->out.length+L.length<=120->jb n s bl out at_=(out++L,0,0):=by
 induction h with
 | nil bl=>intro n out at_ _ _;cases n<;>simp [jb]
 | bl bl h ih=>
  intro n out at_ hn hl
  cases n with
  | zero=>simp at hn
  | succ n=>
   have:ib 32=32:=by decide
   rw [jb,if_pos this]
   exact ih n out (at_+1) (by simpa using hn) hl
 | @tok bl s k m t w L hb ht h ih=>
  intro n out at_ hn hl
  have hlen:=pQ ht
  cases s with
  | nil=>cases ht
  | cons b r=>
   cases n with
   | zero=>simp at hn
   | succ n=>
    simp only [List.length_cons] at hl hn hlen
    rw [jb,if_neg (hb b r rfl),ht]
    simp only
    rw [if_neg (by omega),ih n _ _ (by rw [List.length_drop];simp only [List.length_cons];omega) (by simp;omega)]
    simp
def hdD (s:List UInt8):Bool×Bool×Bool:=match s with | []=>(false,false,true) | b:: _=>(dh (ib b),b5 (ib b),ib b==32)
theorem I8 {b:UInt8} (h:ib b=39\/ib b=34):dh (ib b)=false/\b5 (ib b)=false/\(ib b==32)=false/\oY (ib b)=false:=by
 rcases h with h | h<;>rw [h]<;>decide
theorem Is {c:Int} {s:List UInt8} (h:hasB c s=false):∀ b∈s,ib b≠c:=by
 intro b hb e
 have:hasB c s=true:=List.any_eq_true.2 ⟨b,hb,by simpa using e⟩
 rw [h] at this;cases this
theorem GL {s:List UInt8} {k m:Int} {t:List UInt8} {w:Nat} (hp:eV s=true) (ht:vW s=some (k,m,t,w)) (bf af:Bool):
    (1<=k/\k<=10)/\((k=1/\m=0/\b6 t=true)\/(k=2/\t=[]/\0<=m/\m<=1000000000000)\/(k=3/\m=0/\Ao t=true)\/(k=4/\m=0/\∃ b,t=[b]/\xE (ib b)=true)\/(5<=k/\m=0/\t=[])) /\
    (lK ⟨k,m,t,bf,af⟩).length<=w/\hdD (lK ⟨k,m,t,bf,af⟩)=hdD s/\eV (lK ⟨k,m,t,bf,af⟩)=true /\
    ∀ r:List UInt8,(∀ b q,r=b:: q->dh (ib b)=true->∃ b' q',s.drop w=b':: q'/\dh (ib b')=true/\(b5 (ib b)=true->b5 (ib b')=true))->vW (lK ⟨k,m,t,bf,af⟩++r)=some (k,m,t,(lK ⟨k,m,t,bf,af⟩).length):=by
  cases s with
  | nil=>cases ht
  | cons b r0 =>
    have hbp:Io b=true:=by simp only [eV,List.all_cons,Bool.and_eq_true] at hp;exact hp.1
    have hrp:eV r0=true:=by simp only [eV,List.all_cons,Bool.and_eq_true] at hp;exact hp.2
    have tkp:∀ (l:List UInt8) (n:Nat),eV l=true->eV (l.take n)=true:=fun l n h=>List.all_eq_true.2 fun x hx=>List.all_eq_true.1 h x (List.mem_of_mem_take hx)
    rw [fR] at ht
    split at ht
    · -- a name
      rename_i hl
      split at ht
      · rename_i hlen
        cases ht
        have hle:=iv dh (b:: r0)
        have hnb:dh (ib b)=true:=by unfold dh;rw [hl];rfl
        obtain ⟨n,hn⟩:∃ n,aN dh (b:: r0)=n+1:=⟨aN dh r0,jc hnb⟩
        have htk:(b:: r0).take (aN dh (b:: r0))=b:: r0.take n:=by rw [hn];rfl
        have hall:=pO dh (b:: r0)
        have htl:((b:: r0).take (aN dh (b:: r0))).length=aN dh (b:: r0):=by rw [List.length_take];omega
        have htx:lK ⟨1,0,(b:: r0).take (aN dh (b:: r0)),bf,af⟩=(b:: r0).take (aN dh (b:: r0)):=by simp [lK]
        rw [htx]
        refine ⟨by omega,.inl ⟨rfl,rfl,?_⟩,by omega,by rw [htk];rfl,tkp _ _ hp,fun r hr=>?_⟩
        · rw [htk] at hall htl ⊢
          unfold b6
          simp only [hl,Bool.true_and,Bool.and_eq_true,decide_eq_true_eq]
          simp only [List.all_cons,Bool.and_eq_true] at hall
          simp only [List.length_cons] at htl ⊢
          first
          | exact ⟨hall.2,by omega⟩
          | exact ⟨by omega,hall.2⟩
          | (simp [hall.1,hall.2];omega)
        · have hrun:aN dh ((b:: r0).take (aN dh (b:: r0))++r)=((b:: r0).take (aN dh (b:: r0))).length:=ql _ _ hall fun b' q' e=>by
            cases hb':dh (ib b') with
            | false=>rfl
            | true=>
              obtain ⟨b2,q2,e2,h2,_⟩:=hr b' q' e hb'
              have:=wk (p:=dh) (b:: r0) b2 q2 e2
              rw [h2] at this;cases this
          have e1:(b:: r0).take (aN dh (b:: r0))++r=b:: (r0.take n++r):=by rw [htk];rfl
          rw [e1] at hrun ⊢
          rw [fR,if_pos hl,hrun,<-e1,As,if_pos (by omega)]
      · cases ht
    rename_i hl
    split at ht
    · -- a number
      rename_i hd
      split at ht
      · rename_i hc
        cases ht
        obtain ⟨hc1,hc2⟩:=hc
        have hle:=iv b5 (b:: r0)
        have h1:1<=aN b5 (b:: r0):=by rw [jc hd];omega
        generalize hu:xX ((b:: r0).take (aN b5 (b:: r0))) 0=u at hc2
        have htl:((b:: r0).take (aN b5 (b:: r0))).length=aN b5 (b:: r0):=by rw [List.length_take];omega
        have hall:=pO b5 (b:: r0)
        have hub:u<10 ^ aN b5 (b:: r0):=by
          have:=Cx ((b:: r0).take (aN b5 (b:: r0))) 0 0 (by
            rw [List.all_eq_true] at hall ⊢
            intro x hx
            have:=hall x hx
            simp only [b5,Il,Bool.and_eq_true,decide_eq_true_eq] at this
            simp only [Gv,Bool.and_eq_true,decide_eq_true_eq];omega) (by simp)
          rw [hu,htl] at this
          simpa using this
        obtain ⟨d1,d2,d3⟩:=Kb u
        have hdl:(Lib.decDigits u).length<=aN b5 (b:: r0):=by
          obtain ⟨j,hj⟩:∃ j,aN b5 (b:: r0)=j+1:=⟨aN b5 (b:: r0)-1,by omega⟩
          rw [Lib.decDigits_length,hj]
          exact nt j u (by rw [<-hj];exact hub)
        have htx:lK ⟨2,(u:Int),[],bf,af⟩=Lib.decDigits u:=by simp [lK]
        rw [htx]
        have dnm:∀ c:UInt8,b5 (ib c)=true->dh (ib c)=true/\oY (ib c)=false/\(ib c==32)=false/\Io c=true:=by
          intro c hc
          simp only [b5,Bool.and_eq_true,decide_eq_true_eq] at hc
          refine ⟨by simp only [dh,b5,hc.1,hc.2,decide_true,Bool.and_true,Bool.or_true,Bool.true_or],?_,?_,?_⟩
          · simp only [oY,Bool.or_eq_false_iff,Bool.and_eq_false_iff,decide_eq_false_iff_not];omega
          · rw [beq_eq_false_iff_ne];omega
          · simp only [Io,Bool.and_eq_true,decide_eq_true_eq];omega
        refine ⟨by omega,.inr (.inl ⟨rfl,rfl,by omega,by omega⟩),hdl,?_,?_,fun r hr=>?_⟩
        · cases hdd:Lib.decDigits u with
          | nil=>exact absurd hdd d3
          | cons c q=>
            rw [hdd,List.all_cons,Bool.and_eq_true] at d1
            obtain ⟨a1,_,a3,_⟩:=dnm c d1.1
            obtain ⟨b1,_,b3,_⟩:=dnm b hd
            simp only [hdD,a1,a3,b1,b3,hd,d1.1]
        · rw [List.all_eq_true] at d1
          exact List.all_eq_true.2 fun x hx=>(dnm x (d1 x hx)).2.2.2
        · have hrun:aN b5 (Lib.decDigits u++r)=(Lib.decDigits u).length:=ql _ _ d1 fun b' q' e=>by
            cases hb':b5 (ib b') with
            | false=>rfl
            | true=>
              obtain ⟨b2,q2,e2,_,h3⟩:=hr b' q' e (dnm b' hb').1
              have:=wk (p:=b5) (b:: r0) b2 q2 e2
              rw [h3 hb'] at this;cases this
          cases hdd:Lib.decDigits u with
          | nil=>exact absurd hdd d3
          | cons c q=>
            have hc:=d1
            rw [hdd,List.all_cons,Bool.and_eq_true] at hc
            obtain ⟨_,a2,_,_⟩:=dnm c hc.1
            have e1:c:: q++r=c:: (q++r):=rfl
            rw [hdd] at hrun
            rw [e1] at hrun ⊢
            rw [fR,if_neg (by rw [a2];simp),if_pos hc.1,hrun,<-e1,As,<-hdd,d2,if_pos ⟨by omega,hc2⟩]
      · cases ht
    rename_i hd
    split at ht
    · -- a string
      rename_i hq
      split at ht
      · rename_i hc
        cases ht
        obtain ⟨hc1,hc2⟩:=hc
        generalize hn:aN (fun c=>c !=ib b) r0=n at hc1 hc2
        have htl:(r0.take n).length=n:=by rw [List.length_take];omega
        have hno:hasB (ib b) (r0.take n)=false:=by
          have:=pO (fun c=>c !=ib b) r0
          rw [hn] at this
          rw [<-Bool.not_eq_true]
          intro h
          obtain ⟨x,hx,he⟩:=List.any_eq_true.1 h
          have:=List.all_eq_true.1 this x hx
          simp only [bne_iff_ne,ne_eq] at this
          exact this (by simpa using he)
        have hcan:Ao (r0.take n)=true:=by
          have hp2:=tkp r0 n hrp
          have hb2:(hasB 39 (r0.take n)&&hasB 34 (r0.take n))=false:=by
            rcases hq with h | h
            · rw [h] at hno;rw [hno];rfl
            · rw [h] at hno;rw [hno,Bool.and_false]
          unfold Ao
          rw [hp2,hb2,htl];simp;omega
        -- the xD that is printed
        obtain ⟨q,hqq,hqt,hqn⟩:∃ q:UInt8,(ib q=39\/ib q=34)/\xD (r0.take n)=q:: r0.take n++[q]/\hasB (ib q) (r0.take n)=false:=by
          unfold xD
          rw [if_pos hcan]
          by_cases h39:hasB 39 (r0.take n)=true
          · rw [if_pos h39]
            refine ⟨34,.inr (by decide),rfl,?_⟩
            rcases hq with h | h
            · rw [h,h39] at hno;cases hno
            · rw [h] at hno;exact hno
          · rw [if_neg h39]
            exact ⟨39,.inl (by decide),rfl,by rw [show ib 39=39 by decide];simpa using h39⟩
        have htx:lK ⟨3,0,r0.take n,bf,af⟩=q:: r0.take n++[q]:=by rw [<-hqt];simp [lK]
        rw [htx]
        obtain ⟨q1,q2,q3,q4⟩:=I8 hqq
        obtain ⟨b1,b2,b3,b4⟩:=I8 hq
        have hqp:Io q=true:=by rcases hqq with h | h<;>simp [Io,h]
        refine ⟨by omega,.inr (.inr (.inl ⟨rfl,rfl,hcan⟩)),by simp;omega,?_,?_,fun r _=>?_⟩
        · show hdD (q:: (r0.take n++[q]))=hdD (b:: r0)
          simp only [hdD,q1,q2,q3,b1,b2,b3]
        · have:=tkp r0 n hrp
          simp only [eV] at this ⊢
          simp [this,hqp]
        · have hrun:aN (fun c=>c !=ib q) (r0.take n++q:: r)=(r0.take n).length:=ql _ _ (by
              rw [List.all_eq_true];intro x hx;simpa using Is hqn x hx) fun b' q' e=>by cases e;simp
          have e1:q:: r0.take n++[q]++r=q:: (r0.take n++q:: r):=by simp
          rw [e1,fR,if_neg (by rw [q4];simp),if_neg (by rw [q2];simp),if_pos hqq,hrun,As,htl,if_pos ⟨by simp;omega,hc2⟩]
          simp [htl]
      · cases ht
    rename_i hq
    split at ht
    · -- an operator
      rename_i ho
      cases ht
      have htx:lK ⟨4,0,[b],bf,af⟩=[b]:=by simp [lK]
      rw [htx]
      refine ⟨by omega,.inr (.inr (.inr (.inl ⟨rfl,rfl,b,rfl,ho⟩))),by simp,rfl,by simp [eV,hbp],fun r _=>?_⟩
      show vW (b:: r)=_
      rw [fR,if_neg hl,if_neg hd,if_neg hq,if_pos ho]
      rfl
    rename_i ho
    split at ht
    · -- a mark
      rename_i hm
      cases ht
      have hk:(1<=me (ib b)/\me (ib b)<=10)/\5<=me (ib b)/\lK ⟨me (ib b),0,[],bf,af⟩=[b]:=by
        have e:∀ c:UInt8,ib b=ib c->b=c:=fun c h=>qP.1 h
        unfold me at hm ⊢
        by_cases h1:ib b=40
        · obtain rfl:=e 40 (h1.trans (by decide));rw [if_pos h1];exact ⟨by omega,by omega,rfl⟩
        rw [if_neg h1] at hm ⊢
        by_cases h2:ib b=41
        · obtain rfl:=e 41 (h2.trans (by decide));rw [if_pos h2];exact ⟨by omega,by omega,rfl⟩
        rw [if_neg h2] at hm ⊢
        by_cases h3:ib b=60
        · obtain rfl:=e 60 (h3.trans (by decide));rw [if_pos h3];exact ⟨by omega,by omega,rfl⟩
        rw [if_neg h3] at hm ⊢
        by_cases h4:ib b=62
        · obtain rfl:=e 62 (h4.trans (by decide));rw [if_pos h4];exact ⟨by omega,by omega,rfl⟩
        rw [if_neg h4] at hm ⊢
        by_cases h5:ib b=44
        · obtain rfl:=e 44 (h5.trans (by decide));rw [if_pos h5];exact ⟨by omega,by omega,rfl⟩
        rw [if_neg h5] at hm ⊢
        by_cases h6:ib b=58
        · obtain rfl:=e 58 (h6.trans (by decide));rw [if_pos h6];exact ⟨by omega,by omega,rfl⟩
        rw [if_neg h6] at hm
        exact absurd rfl hm
      rw [hk.2.2]
      refine ⟨hk.1,.inr (.inr (.inr (.inr ⟨hk.2.1,rfl,rfl⟩))),by simp,rfl,by simp [eV,hbp],fun r _=>?_⟩
      show vW (b:: r)=_
      rw [fR,if_neg hl,if_neg hd,if_neg hq,if_neg ho,if_pos hm]
      rfl
    · cases ht
def Mw (a:Bool):List ac->List UInt8
 | []=>[]
 | u:: _=>if (u.fBefore||a)=true then [32] else []
def prT : List ac->List UInt8
 | []=>[]
 | t:: r=>lK t++(Mw t.fAfter r++prT r)
theorem tE : ∀ s,cG s=(hdD s).2.2
 | []=>rfl
 | _:: _=>rfl
theorem GM {a r:List UInt8} (h:a≠[]):hdD (a++r)=hdD a:=by
 cases a with
 | nil=>exact absurd rfl h
 | cons=>rfl
def tOk (t:ac):Prop:=(1<=t.fKind/\t.fKind<=10)/\((t.fKind=1/\t.fNum=0/\b6 t.fText=true)\/(t.fKind=2/\t.fText=[]/\0<=t.fNum/\t.fNum<=1000000000000)\/(t.fKind=3/\t.fNum=0/\Ao t.fText=true)\/(t.fKind=4/\t.fNum=0/\∃ b,t.fText=[b]/\xE (ib b)=true)\/(5<=t.fKind/\t.fNum=0/\t.fText=[]))
structure ScP (bl:Bool) (s:List UInt8) (L:List ac):Prop where
 sc:∀ u r,L=u:: r->Sc u.fBefore (prT L) L
 len:(prT L).length<=s.length
 len1:L≠[]->cG s=true->(prT L).length+1<=s.length
 pl:eV (prT L)=true
 ok:∀ t∈L,tOk t
 none:L=[]->cG s=true
 bf:∀ u r,L=u:: r->u.fBefore=(bl||cG s)
 hd:L≠[]->cG s=false->hdD (prT L)=hdD s
theorem M6 {bl:Bool} {s:List UInt8} {L:List ac} (h:Sc bl s L):eV s=true->ScP bl s L:=by
 induction h with
 | nil bl=>intro _;exact ⟨fun u r h=>(by cases h),by simp [prT],fun h=>absurd rfl h,rfl,fun t h=>(by cases h),fun _=>rfl,fun u r h=>(by cases h),fun h=>absurd rfl h⟩
 | bl bl h ih=>
  intro hp
  have hp':=hp
  simp only [eV,List.all_cons,Bool.and_eq_true] at hp'
  have ih:=ih hp'.2
  have h32:∀ r,cG (32:: r)=true:=fun _=>(by decide:(ib 32==32)=true)
  refine ⟨ih.sc,by have:=ih.len;simp only [List.length_cons];omega,fun _ _=>by have:=ih.len;simp only [List.length_cons];omega,ih.pl,ih.ok,fun _=>h32 _,fun u r e=>?_,fun _ hf=>?_⟩
  ·rw [ih.bf u r e,h32];simp
  ·rw [h32] at hf;cases hf
 | @tok bl s k m t w L hb ht h ih=>
  intro hp
  have hlen:=pQ ht
  have hps:eV (s.drop w)=true:=List.all_eq_true.2 fun x hx=>List.all_eq_true.1 hp x (List.mem_of_mem_drop hx)
  have ih:=ih hps
  obtain ⟨g1,g2,g3,g4,g5,g6⟩:=GL hp ht bl (cG (s.drop w))
  have hnb:cG s=false:=by
   cases s with
   | nil=>cases ht
   | cons b r=>simpa [cG] using hb b r rfl
  have hne:lK ⟨k,m,t,bl,cG (s.drop w)⟩≠[]:=by
   intro e
   rw [e] at g4
   rw [tE,<-g4] at hnb
   cases hnb
  -- the rest
  obtain ⟨rest,hrest⟩:∃ rest,rest=Mw (cG (s.drop w)) L++prT L:=⟨_,rfl⟩
  have hpr:prT (⟨k,m,t,bl,cG (s.drop w)⟩:: L)=lK ⟨k,m,t,bl,cG (s.drop w)⟩++rest:=by rw [hrest];rfl
  have hcase:(L=[]/\rest=[]/\cG (s.drop w)=true)\/(∃ u r,L=u:: r/\((cG (s.drop w)=true/\rest=32:: prT L/\u.fBefore=true)\/(cG (s.drop w)=false/\rest=prT L/\u.fBefore=false))):=by
   cases hL:L with
   | nil=>subst hL;exact .inl ⟨rfl,hrest,ih.none rfl⟩
   | cons u r=>
    right
    refine ⟨u,r,rfl,?_⟩
    have hbf:=ih.bf u r hL
    rw [hL] at hrest
    rw [Bool.false_or] at hbf
    cases hn:cG (s.drop w) with
    | true=>rw [hn] at hbf;left;exact ⟨rfl,by rw [hrest];simp only [Mw,hbf,Bool.true_or,if_true];rfl,hbf⟩
    | false=>rw [hn] at hbf;right;exact ⟨rfl,by rw [hrest];simp only [Mw,hbf,hn,Bool.or_self,Bool.false_eq_true,if_false];rfl,hbf⟩
  have hnext:cG rest=cG (s.drop w):=by
   rcases hcase with ⟨_,h2,h3⟩ | ⟨u,r,hL,⟨h1,h2,_⟩ | ⟨h1,h2,_⟩⟩
   ·rw [h2,h3];rfl
   ·rw [h2,h1];exact (by decide:(ib 32==32)=true)
   ·rw [h2,tE,ih.hd (by rw [hL];simp) h1,<-tE]
  have htk:=g6 rest fun b q e hn=>by
   rcases hcase with ⟨_,h2,_⟩ | ⟨u,r,hL,⟨h1,h2,_⟩ | ⟨h1,h2,_⟩⟩
   ·rw [h2] at e;cases e
   ·rw [h2] at e;cases e;exact absurd hn (by decide)
   ·have hh:=ih.hd (by rw [hL];simp) h1
    rw [<-h2,e] at hh
    cases hs:s.drop w with
    | nil=>rw [hs] at h1;cases h1
    | cons b' q'=>
     rw [hs] at hh
     simp only [hdD,Prod.mk.injEq] at hh
     exact ⟨b',q',rfl,by rw [<-hh.1];exact hn,fun hd=>by rw [<-hh.2.1];exact hd⟩
  have hsr:Sc false rest L:=by
   rcases hcase with ⟨h1,h2,_⟩ | ⟨u,r,hL,⟨h1,h2,h3⟩ | ⟨h1,h2,h3⟩⟩
   ·rw [h1,h2];exact .nil false
   ·have:=ih.sc u r hL;rw [h3] at this;rw [h2];exact .bl false this
   ·have:=ih.sc u r hL;rw [h3] at this;rw [h2];exact this
  have hrl:rest.length<=(s.drop w).length:=by
   rcases hcase with ⟨_,h2,_⟩ | ⟨u,r,hL,⟨h1,h2,_⟩ | ⟨h1,h2,_⟩⟩
   ·rw [h2];simp
   ·have:=ih.len1 (by rw [hL];simp) h1;rw [h2];simpa using this
   ·have:=ih.len;rw [h2];exact this
  have hrp:eV rest=true:=by
   rcases hcase with ⟨_,h2,_⟩ | ⟨u,r,hL,⟨h1,h2,_⟩ | ⟨h1,h2,_⟩⟩
   ·rw [h2];rfl
   ·rw [h2]
    simp only [eV,List.all_cons,Bool.and_eq_true]
    exact ⟨by decide,ih.pl⟩
   ·rw [h2];exact ih.pl
  have hdr:(lK ⟨k,m,t,bl,cG (s.drop w)⟩++rest).drop (lK ⟨k,m,t,bl,cG (s.drop w)⟩).length=rest:=Iq _ _
  have hsc:Sc bl (lK ⟨k,m,t,bl,cG (s.drop w)⟩++rest) (⟨k,m,t,bl,cG (s.drop w)⟩:: L):=by
   have:=Sc.tok bl (s:=lK ⟨k,m,t,bl,cG (s.drop w)⟩++rest) (L:=L) (fun b r e=>by
    have hh:hdD (lK ⟨k,m,t,bl,cG (s.drop w)⟩++rest)=hdD s:=(GM hne).trans g4
    rw [e] at hh
    have h2:=tE s
    rw [hnb,<-hh] at h2
    simpa [hdD] using h2.symm) htk (by rw [hdr];exact hsr)
   rw [hdr,hnext] at this
   exact this
  refine ⟨fun u r e=>?_,?_,fun _ hn=>?_,?_,fun t' ht'=>?_,fun e=>(by cases e),fun u r e=>?_,fun _ _=>?_⟩
  ·cases e;rw [hpr];exact hsc
  ·rw [hpr,List.length_append]
   have:=hrl
   rw [List.length_drop] at this
   omega
  ·rw [hnb] at hn;cases hn
  ·rw [hpr]
   simp only [eV,List.all_append,Bool.and_eq_true] at g5 hrp ⊢
   exact ⟨g5,hrp⟩
  ·rcases List.mem_cons.1 ht' with e | e
   ·subst e;exact ⟨g1,g2⟩
   ·exact ih.ok t' e
  ·cases e;rw [hnb];simp
  ·rw [hpr,GM hne];exact g4
theorem xF : ∀ (n:Nat) (s:List UInt8) (bl:Bool) (out:List ac) (at_:Nat) (R:List ac) (e:Int),out.length<=120->jb n s bl out at_=(R,e,0)->R.length<=120
 | n,[],bl,out,at_,R,e,ho,h=>by
  have:jb n [] bl out at_=(out,0,0):=by cases n<;>rfl
  rw [this] at h
  cases h
  exact ho
 | 0,b:: r,bl,out,at_,R,e,ho,h=>by
  rw [jb] at h
  cases h
  exact ho
 | n+1,b:: r,bl,out,at_,R,e,ho,h=>by
  rw [jb] at h
  split at h
  ·exact xF n r true out _ R e ho h
  ·split at h
   ·cases h
   ·split at h
    ·cases h
    ·exact xF n _ false _ _ R e (by simp;omega) h
theorem ES {x:List UInt8} {L:List ac} {e:Int} (h:fp x=(L,e,0)):fp (prT L)=(L,0,0)/\(∀ t∈L,tOk t)/\L.length<=120/\(prT L).length<=4000:=by
 unfold fp at h
 split at h
 ·rename_i hx
  obtain ⟨L',h1,h2⟩:=wl _ _ _ _ _ _ _ (Nat.le_refl _) h
  have hc:=xF _ _ _ _ _ _ _ (by simp) h
  rw [List.nil_append] at h2
  subst h2
  have hp:=M6 h1 hx.2
  have hl:=hp.len
  refine ⟨?_,hp.ok,hc,by omega⟩
  unfold fp
  rw [if_pos ⟨by omega,hp.pl⟩]
  cases hL:L with
  | nil=>rfl
  | cons u r=>
   have hs:=hp.sc u r hL
   rw [hp.bf u r hL] at hs
   simp only [Bool.true_or] at hs
   rw [<-hL]
   have:=Ir hs (prT L).length [] 0 (Nat.le_refl _) (by simpa using hc)
   simpa using this
 ·cases h
end Go.Dv.U

namespace Go.Dv.U
open Go Go.Dv Go.Proofs
theorem DT {t:ac} (h:tOk t):lY t=some true:=by
  obtain ⟨⟨k1,k2⟩,h⟩:=h
  rw [xy]
  simp only [sE,tv,lh,ol,Option.bind_some]
  rcases h with ⟨a,b,c⟩ | ⟨a,b,c,d⟩ | ⟨a,b,c⟩ | ⟨a,b,x,c,d⟩ | ⟨a,b,c⟩
  · simp [a,b,c]
  · simp [a,b,c,d]
  · simp [a,b,c]
  · have hop:pq t.fText=some true:=by
      rw [xz,c]
      have e:(len [x]==(1:Int))=true:=rfl
      rw [if_pos e,kH (by decide) x]
      simp only [Option.bind_some,Option.some.injEq]
      have all:∀ x:UInt8,xE (ib x)=true->hasB (ib x) [43,45,42,47,124,46,36,64,61]=true:=jE (by decide +kernel)
      exact all x d
    simp [a,b,hop]
  · have e1:¬ t.fKind=1:=by omega
    have e2:¬ t.fKind=2:=by omega
    have e3:¬ t.fKind=3:=by omega
    have e4:¬ t.fKind=4:=by omega
    simp [e1,e2,e3,e4,b,c,a,k2]
end Go.Dv.U

namespace Go.Dv.U
open Go Go.Dv Go.Proofs
mutual
def aa.n : aa->Nat
 | ⟨_,_,_,ks⟩=>1+aa.ns ks
def aa.ns : List aa->Nat
 | []=>0
 | y:: r=>aa.n y+aa.ns r
end
theorem aa.ns_eq : ∀ l,aa.ns l=aS aa.n l
 | []=>rfl
 | y:: r=>by simp only [aa.ns,aS,aa.ns_eq r]
theorem aa.n_eq (x:aa):x.n=1+aS aa.n x.fKids:=by
 rw [<-aa.ns_eq];cases x;rfl
mutual
def aa.all (p:aa->Bool):aa->Bool
 | ⟨a,b,c,ks⟩=>p ⟨a,b,c,ks⟩&&aa.alls p ks
def aa.alls (p:aa->Bool):List aa->Bool
 | []=>true
 | y:: r=>aa.all p y&&aa.alls p r
end
theorem aa.alls_eq (p:aa->Bool):∀ l,aa.alls p l=l.all (aa.all p)
 | []=>rfl
 | y:: r=>by simp only [aa.alls,List.all_cons,aa.alls_eq p r]
theorem aa.all_eq (p:aa->Bool) (x:aa):x.all p=(p x&&x.fKids.all (aa.all p)):=by
 rw [<-aa.alls_eq];cases x;rfl
def oo (x:aa):Bool:=
 if x.fKind=1 then x.fKids.length==0&&x.fNum==0&&Ao x.fText
 else if x.fKind=2 then x.fKids.length==0&&x.fText==[]&&(decide (0<=x.fNum)&&decide (x.fNum<=1000000000000))
 else if x.fKind=3\/x.fKind=16\/x.fKind=17\/x.fKind=18 then x.fKids.length==0&&x.fNum==0&&b6 x.fText
 else if x.fKind=4 then decide (x.fKids.length<=6)&&x.fNum==0&&b6 x.fText
 else x.fNum==0&&x.fText==[]&&(if x.fKind=12\/x.fKind=13 then (match x.fKids with | [_,y]=>y.fKind==3 | _=>false)
  else if x.fKind=14\/x.fKind=15 then x.fKids.length==1
  else if 5<=x.fKind/\x.fKind<=11 then x.fKids.length==2 else false)
def aa.good (x:aa):Bool:=x.all oo
def aa.valid (x:aa):Bool:=x.good&&decide (x.n<=60)
theorem aa.good_eq (x:aa):x.good=(oo x&&x.fKids.all aa.good):=aa.all_eq _ _
theorem At (n:Int):qi n=some (decide (0<=n)&&decide (n<=1000000000000)):=by
 rw [tv,lh];rfl
theorem fG (k:Int):ph k=some (decide (16<=k)&&decide (k<=18)):=by
 rw [BC,lh];rfl
theorem Au (k:Int):tX k=some (decide (6<=k)&&decide (k<=13)):=by
 rw [Ak,lh];rfl
theorem DU (k:Int):(k=1\/k=2\/k=3\/k=4\/k=5\/k=6\/k=7\/k=8\/k=9\/k=10\/k=11\/k=12\/k=13\/k=14\/k=15\/k=16\/k=17\/k=18)\/(∀ j:Int,1<=j->j<=18->¬ k=j):=by
 by_cases h:1<=k/\k<=18
 ·left;omega
 ·right;intro j h1 h2 e;omega
theorem sF (x:aa):jO x=some (oo x):=by
  obtain ⟨k,n,t,ks⟩:=x
  rw [r4]
  simp only [ol,At,fG,Au,sE,nY,nZ,n8,n9,Option.bind_some,aj,rG,oo]
  rcases DU k with hk | hk
  · rcases hk with rfl | rfl | rfl | rfl | rfl | rfl | rfl | rfl | rfl | rfl | rfl | rfl | rfl | rfl | rfl | rfl | rfl | rfl<;>rcases ks with _ | ⟨a,_ | ⟨b,_ | ⟨c,r⟩⟩⟩<;>simp<;>first | grind | (by_cases hn:n=0<;>by_cases hm:b6 t=true<;>by_cases hr:r.length<=3<;>simp [hn,hm,hr]<;>omega)
  · have hr:(decide (16<=k)&&decide (k<=18))=false:=by
      by_cases h1:16<=k
      · have:=hk 16 (by omega) (by omega);have:=hk 17 (by omega) (by omega);have:=hk 18 (by omega) (by omega)
        have h2:¬ k<=18:=by omega
        simp [h2]
      · simp [h1]
    have hr2:(decide (6<=k)&&decide (k<=13))=false:=by
      by_cases h1:6<=k
      · have h2:¬ k<=13:=fun h2=>hk k (by omega) (by omega) rfl
        simp [h2]
      · simp [h1]
    have hr3:¬ (5<=k/\k<=11):=fun h=>hk k (by omega) (by omega) rfl
    simp only [hk,hr,hr2,hr3,beq_iff_eq,Int.reduceLE,or_self,if_false,Bool.false_eq_true,not_false_eq_true,Bool.and_false,ite_self]
theorem Av (x:aa):tW x.fKind x.fNum x.fText x.fKids=some (oo x):=by
 obtain ⟨k,n,t,ks⟩:=x
 rw [Aj]
 simp only [om,qk,li,uq,ur,uv,uw,uy,uu,Option.bind_some,aj,rG,oo]
 rcases DU k with hk | hk
 ·rcases hk with rfl | rfl | rfl | rfl | rfl | rfl | rfl | rfl | rfl | rfl | rfl | rfl | rfl | rfl | rfl | rfl | rfl | rfl<;>rcases ks with _ | ⟨a,_ | ⟨b,_ | ⟨c,r⟩⟩⟩<;>simp<;>first | grind | (by_cases hn:n=0<;>by_cases hm:b6 t=true<;>by_cases hr:r.length<=3<;>simp [hn,hm,hr]<;>omega)
 ·have hr3:¬ (5<=k/\k<=11):=fun h=>hk k (by omega) (by omega) rfl
  simp only [hk,hr3,beq_iff_eq,Int.reduceLE,or_self,if_false,Bool.false_eq_true,not_false_eq_true,Bool.and_false,ite_self]
theorem aa.n_le_m : ∀ x:aa,x.n<=x.m+1:=by
 intro x
 induction x using aa.ind with
 | h x ih=>
  rw [x.n_eq,x.m_eq]
  have:∀ l:List aa,(∀ y∈l,y.n<=y.m+1)->aS aa.n l<=l.length+aS aa.m l:=by
   intro l
   induction l with
   | nil=>intro _;simp [aS]
   | cons y r ihr=>
    intro h
    have h1:=h y (by simp)
    have h2:=ihr fun z hz=>h z (by simp [hz])
    simp only [aS,List.length_cons];omega
  have:=this x.fKids ih
  omega
theorem xG : ∀ x:aa,x.m<=1048576->∀ c:Int,0<=c->c<=60->lW x c=some (if x.good=true/\c+x.n<=60 then c+x.n else 61):=by
 intro x
 induction x using aa.ind with
 | h x ih=>
  intro hm c h0 h1
  have hmq:=x.m_eq
  have hn:=x.n_eq
  have loop:∀ c:Int,0<=c->c<=60->fE c x.fKids (len x.fKids) ((0:Nat):Int)=some (if x.fKids.all aa.good=true/\c+aS aa.n x.fKids<=60 then c+aS aa.n x.fKids else 61):=by
   refine bz (xs:=x.fKids) (by omega) (P:=fun i l=>∀ c:Int,0<=c->c<=60->fE c x.fKids (len x.fKids) i=some (if l.all aa.good=true/\c+aS aa.n l<=60 then c+aS aa.n l else 61)) ?_ ?_
   ·intro c h0 h1
    rw [mb]
    simp [aj,aS,h1]
   ·intro i y l _ hlt hy hi hw ih2 c h0 h1
    rw [mb,hi,hw,if_pos (by simp [aj,hlt])]
    have hmy:=aa.m_kid hy
    simp only [Option.bind_some,aa.re_eq,ih y hy (by omega) c h0 h1]
    have e:aS aa.n (y:: l)=y.n+aS aa.n l:=rfl
    rw [e,List.all_cons]
    by_cases hc:y.good=true/\c+y.n<=60
    ·rw [if_pos hc,if_neg (by simp;omega),ih2 _ (by omega) hc.2]
     congr 1
     by_cases hd:l.all aa.good=true/\c+y.n+aS aa.n l<=60
     ·rw [if_pos hd,if_pos ⟨Bool.and_eq_true_iff.2 ⟨hc.1,hd.1⟩,by omega⟩];omega
     ·rw [if_neg hd,if_neg fun h=>hd ⟨(Bool.and_eq_true_iff.1 h.1).2,by omega⟩]
    ·rw [if_neg hc,if_pos (by simp),if_neg fun h=>hc ⟨(Bool.and_eq_true_iff.1 h.1).1,by omega⟩]
  have hg:=x.good_eq
  rw [xq,aW (by omega) (by omega)]
  by_cases c1:c+1>60
  ·rw [if_pos (by simpa using c1),if_neg (by omega)]
  rw [if_neg (by simpa using c1),aa.re_eq,sF]
  have:=loop (c+1) (by omega) (by omega)
  simp only [Int.natCast_zero] at this
  rw [this,hg]
  simp only [Option.bind_some]
  cases ha:oo x
  ·simp
  ·simp only [Bool.not_true,Bool.false_eq_true,if_false,Bool.true_and]
   congr 1
   by_cases hd:x.fKids.all aa.good=true/\c+1+aS aa.n x.fKids<=60
   ·rw [if_pos hd,if_pos ⟨hd.1,by omega⟩];omega
   ·rw [if_neg hd,if_neg fun h=>hd ⟨h.1,by omega⟩]
theorem qY {x:aa} (hm:x.m<=1048576):nM x=some x.valid:=by
 rw [yn,aa.re_eq,xG x hm 0 (by omega) (by omega)]
 simp only [Option.bind_some,aa.valid]
 congr 1
 by_cases h:x.good=true/\(0:Int)+x.n<=60
 ·rw [if_pos h,h.1];simp;omega
 ·rw [if_neg h]
  cases hg:x.good
  ·simp
  ·simp only [hg,true_and] at h;simp;omega
theorem ve : ∀ x:aa,x.m<=1048576->∃ v:Int,jr x.fKind x.fNum x.fText x.fKids=some v/\1<=v/\v<=x.n/\(v<=60->v=x.n):=by
 intro x
 induction x using aa.ind with
 | h x ih=>
  intro hm
  have hmq:=x.m_eq
  have hn:=x.n_eq
  have hnm:=x.n_le_m
  have loop:∀ acc:Int,1<=acc->acc+aS aa.n x.fKids<=1048577->∃ v:Int,jt x.fKind x.fNum x.fText x.fKids acc ((0:Nat):Int)=some v/\acc<=v/\v<=acc+aS aa.n x.fKids/\(v<=60->v=acc+aS aa.n x.fKids):=by
   refine bz (xs:=x.fKids) (by omega) (P:=fun i l=>∀ acc:Int,1<=acc->acc+aS aa.n l<=1048577->∃ v:Int,jt x.fKind x.fNum x.fText x.fKids acc i=some v/\acc<=v/\v<=acc+aS aa.n l/\(v<=60->v=acc+aS aa.n l)) ?_ ?_
   ·intro acc h1 h2
    refine ⟨acc,?_,Int.le_refl _,by simp [aS],by simp [aS]⟩
    rw [k7]
    simp [aj]
   ·intro i y l _ hlt hy hi hw ih2 acc h1 h2
    have hmy:=aa.m_kid hy
    have hyn:=y.n_eq
    have e:aS aa.n (y:: l)=y.n+aS aa.n l:=rfl
    rw [e] at h2 ⊢
    by_cases hc:acc<=60
    ·obtain ⟨v,hv,v1,v2,v3⟩:=ih y hy (by omega)
     obtain ⟨u,hu,u1,u2,u3⟩:=ih2 (acc+v) (by omega) (by omega)
     refine ⟨u,?_,by omega,by omega,by omega⟩
     rw [k7,hi,hw,if_pos (by simp [aj,hlt]),if_pos (by simpa using hc)]
     simp only [Option.bind_some,hv]
     rw [aW (by omega) (by omega)]
     exact hu
    ·refine ⟨acc,?_,Int.le_refl _,by omega,by omega⟩
     rw [k7,if_pos (by simp [aj,hlt]),if_neg (by simpa using hc)]
  obtain ⟨v,hv,v1,v2,v3⟩:=loop 1 (Int.le_refl _) (by omega)
  refine ⟨v,?_,v1,by omega,by omega⟩
  rw [BG]
  exact hv
theorem Aw : ∀ x:aa,x.m<=1048576->nb x.fKind x.fNum x.fText x.fKids=some x.good:=by
 intro x
 induction x using aa.ind with
 | h x ih=>
  intro hm
  have hmq:=x.m_eq
  rw [Ah,Av,x.good_eq]
  have:=wi (xs:=x.fKids) (by omega) (F:=fun y=>nb y.fKind y.fNum y.fText y.fKids) (p:=aa.good) (J:=kD x.fKind x.fNum x.fText x.fKids) (fun i=>by rw [vQ]) (fun y hy=>ih y hy (by have:=aa.m_kid hy;omega))
  rw [this]
  simp only [Option.bind_some]
  cases oo x<;>simp
theorem ET {x:aa} (hm:x.m<=1048576):CE x.fKind x.fNum x.fText x.fKids=some x.valid:=by
 rw [EO]
 obtain ⟨v,hv,v1,v2,v3⟩:=ve x hm
 rw [hv,Aw x hm]
 simp only [Option.bind_some,aa.valid]
 by_cases h:v<=60
 ·have:=v3 h
  rw [if_pos (by simpa using h)]
  have h2:x.n<=60:=by omega
  simp [h2]
 ·rw [if_neg (by simpa using h)]
  have h2:¬ x.n<=60:=by omega
  simp [h2]
def a8 (k:Int):Int:=if k=6 then 1 else if k=7 then 2 else if k=8\/k=9 then 3 else if k=10\/k=11 then 4 else if k=12\/k=13 then 5 else if 14<=k/\k<=18 then 6 else 7
def yF (k:Int):List UInt8:=if k=6 then [124] else if k=8 then [43] else if k=9 then [45] else if k=10 then [42] else if k=11 then [47] else if k=12 then [46] else if k=13 then [36] else if k=14 then [45] else if k=15 then [36] else if k=16 then [46] else if k=17 then [42] else if k=18 then [64] else []
theorem zm (k:Int):1<=a8 k/\a8 k<=7:=by unfold a8;grind (splits:=60)
theorem Ax (k:Int):(yF k).length<=1:=by unfold yF;grind (splits:=60)
theorem uF (k:Int):wY k=some (a8 k):=by
 rw [EN,yp,yq,yv,yw];unfold a8;grind (splits:=60)
theorem tF (k n:Int) (t:List UInt8) (ks:List aa):qh k n t ks=some (a8 k):=by
 rw [Aa,uk,ul,um,up];unfold a8;grind (splits:=60)
theorem eN {k:Int} (h0:0<=k) (h1:k<=18):nK k=some (yF k):=by
 rw [CH,K8 h0]
 have:k=0\/k=1\/k=2\/k=3\/k=4\/k=5\/k=6\/k=7\/k=8\/k=9\/k=10\/k=11\/k=12\/k=13\/k=14\/k=15\/k=16\/k=17\/k=18:=by omega
 rcases this with rfl | rfl | rfl | rfl | rfl | rfl | rfl | rfl | rfl | rfl | rfl | rfl | rfl | rfl | rfl | rfl | rfl | rfl | rfl<;>rfl
theorem BN {k:Int} (h0:6<=k) (h1:k<=13):w7 k=some (if k=7 then [32] else 32:: yF k++[32]):=by
 rw [BD]
 have:k=6\/k=7\/k=8\/k=9\/k=10\/k=11\/k=12\/k=13:=by omega
 rcases this with rfl | rfl | rfl | rfl | rfl | rfl | rfl | rfl<;>rfl
def BO (l:Int) (p:Int×List UInt8):List UInt8:=if p.1<l then 40:: (p.2++[41]) else p.2
theorem ji (l:Int) (p:Int×List UInt8):(BO l p).length<=p.2.length+2:=by
 unfold BO;split<;>simp
def lL (k n:Int) (t:List UInt8) (ps:List (Int×List UInt8)):List UInt8:=
 if k=1 then xD t else if k=2 then Lib.itoa n else if k=3 then t
 else if k=4 then t++[40]++Lib.join (ps.map (·.2)) [44]++[41]
 else if k=16\/k=17\/k=18 then yF k++t
 else match ps with
  | [a]=>yF k++BO 6 a
  | [a,b]=>if k=5 then BO 7 a++[60]++b.2++[62] else if k=7 then BO 2 a++[32]++BO 3 b else BO (a8 k) a++[32]++yF k++[32]++BO (a8 k+1) b
  | _=>[]
mutual
def aa.text : aa->List UInt8
 | ⟨k,n,t,ks⟩=>lL k n t (aa.ptexts ks)
def aa.ptexts : List aa->List (Int×List UInt8)
 | []=>[]
 | y:: r=>(a8 y.fKind,aa.text y):: aa.ptexts r
end
theorem aa.ptexts_eq : ∀ l,aa.ptexts l=l.map fun y=>(a8 y.fKind,aa.text y)
 | []=>rfl
 | y:: r=>by simp only [aa.ptexts,List.map_cons,aa.ptexts_eq r]
theorem aa.text_eq (x:aa):x.text=lL x.fKind x.fNum x.fText (x.fKids.map fun y=>(a8 y.fKind,aa.text y)):=by
 rw [<-aa.ptexts_eq];cases x;rfl
theorem jd {s:List UInt8} (h:b6 s=true):s.length<=12:=by
 cases s with
 | nil=>simp
 | cons b r=>
  simp only [b6,Bool.and_eq_true_iff,decide_eq_true_eq] at h
  exact h.1.1
theorem Ay (l:List aa) (C:Nat) (h:∀ y∈l,y.text.length<=C*y.n):Lib.lens (l.map aa.text)<=C*aS aa.n l:=by
 induction l with
 | nil=>simp [Lib.lens,aS]
 | cons y r ih=>
  have h1:=h y (by simp)
  have h2:=ih fun z hz=>h z (by simp [hz])
  have:Lib.lens ((y:: r).map aa.text)=y.text.length+Lib.lens (r.map aa.text):=by simp [Lib.lens]
  rw [this]
  simp only [aS,Nat.mul_add];omega
theorem xH (xs:List (List UInt8)):(Lib.join xs [44]).length<=xs.length+Lib.lens xs:=by
 cases xs with
 | nil=>simp [Lib.join_nil]
 | cons x r=>rw [Lib.join_length];simp
theorem sG {x:aa} (h:oo x=true):(x.fKind=1/\x.fKids=[]/\Ao x.fText=true)\/(x.fKind=2/\x.fKids=[]/\0<=x.fNum/\x.fNum<=1000000000000) \/
  ((x.fKind=3\/x.fKind=16\/x.fKind=17\/x.fKind=18)/\x.fKids=[]/\b6 x.fText=true)\/(x.fKind=4/\x.fKids.length<=6/\b6 x.fText=true) \/
  ((x.fKind=14\/x.fKind=15)/\∃ a,x.fKids=[a])\/((5<=x.fKind/\x.fKind<=13)/\∃ a b,x.fKids=[a,b]):=by
 obtain ⟨k,n,t,ks⟩:=x
 unfold oo at h
 rcases ks with _ | ⟨a,_ | ⟨b,_ | ⟨c,r⟩⟩⟩<;>grind (splits:=60)
theorem aa.text_len : ∀ x:aa,x.good=true->x.text.length<=250*x.n:=by
 intro x
 induction x using aa.ind with
 | h x ih=>
  intro hg
  have hn:=x.n_eq
  rw [x.good_eq,Bool.and_eq_true_iff] at hg
  obtain ⟨hnode,hk⟩:=hg
  rw [List.all_eq_true] at hk
  have ih:=fun y hy=>ih y hy (hk y hy)
  rw [x.text_eq,hn]
  have hs:=Ax x.fKind
  have l1:∀ l a,(BO l a).length<=a.2.length+2:=ji
  rcases sG hnode with ⟨h1,h2,h3⟩ | ⟨h1,h2,h3,h4⟩ | ⟨h1,h2,h3⟩ | ⟨h1,h2,h3⟩ | ⟨h1,a,h2⟩ | ⟨h1,a,b,h2⟩
  ·have:=GH x.fText
   simp only [lL,h1,if_true];omega
  ·have:=Ip h3 h4
   simp only [lL,h1,if_true];simp;omega
  ·have:=jd h3
   unfold lL
   rcases h1 with h1 | h1 | h1 | h1<;>rw [h1] at hs ⊢<;>simp<;>omega
  ·have:=jd h3
   have hj:=xH (x.fKids.map aa.text)
   have hl:=Ay x.fKids 250 ih
   rw [List.length_map] at hj
   have e:((x.fKids.map fun y=>(a8 y.fKind,aa.text y)).map (·.2))=x.fKids.map aa.text:=by rw [List.map_map];rfl
   simp only [lL,h1,e]
   simp only [List.length_append,List.length_cons,List.length_nil,show ¬ ((4:Int)=1) by decide,show ¬ ((4:Int)=2) by decide,show ¬ ((4:Int)=3) by decide,if_false,if_true]
   omega
  ·have ha:=ih a (by simp [h2])
   have hl:=l1 6 (a8 a.fKind,a.text)
   rw [h2]
   simp only [List.map_cons,List.map_nil,aS]
   unfold lL
   rcases h1 with h1 | h1<;>rw [h1] at hs ⊢<;>simp<;>simp at hl<;>omega
  ·have ha:=ih a (by simp [h2])
   have hb:=ih b (by simp [h2])
   have p1:=fun l=>l1 l (a8 a.fKind,a.text)
   have p2:=fun l=>l1 l (a8 b.fKind,b.text)
   have q1:=p1 7
   have q2:=p1 2
   have q3:=p2 3
   have q4:=p1 (a8 x.fKind)
   have q5:=p2 (a8 x.fKind+1)
   rw [h2]
   simp only [List.map_cons,List.map_nil,aS]
   unfold lL
   rw [if_neg (by omega),if_neg (by omega),if_neg (by omega),if_neg (by omega),if_neg (by omega)]
   simp only at q1 q2 q3 q4 q5 ⊢
   split
   ·simp only [List.length_append,List.length_cons,List.length_nil];omega
   ·split
    ·simp only [List.length_append,List.length_cons,List.length_nil];omega
    ·simp only [List.length_append,List.length_cons,List.length_nil];omega
theorem mf {y:aa} (l:Int) (h:cR y=some y.text) (hl:y.text.length<=1000000000):g7 y l=some (BO l (a8 y.fKind,y.text)):=by
 rw [Bv,uF,aa.re_eq,h]
 simp only [Option.bind_some,BO]
 rw [av (by simp;omega)]
 simp only [Option.bind_some]
 rw [av (by simp;omega)]
 by_cases hc:a8 y.fKind<l
 ·rw [if_pos (by simpa using hc),if_pos hc];simp
 ·rw [if_neg (by simpa using hc),if_neg hc]
theorem qm {y:aa} (l:Int) (h:dn y.fKind y.fNum y.fText y.fKids=some y.text) (hl:y.text.length<=1000000000):pf y.fKind y.fNum y.fText y.fKids l=some (BO l (a8 y.fKind,y.text)):=by
 rw [EM,tF,h]
 simp only [Option.bind_some,BO]
 rw [av (by simp;omega)]
 simp only [Option.bind_some]
 rw [av (by simp;omega)]
 by_cases hc:a8 y.fKind<l
 ·rw [if_pos (by simpa using hc),if_pos hc];simp
 ·rw [if_neg (by simpa using hc),if_neg hc]
theorem yG : ∀ x:aa,x.good=true->x.n<=1000000->cR x=some x.text:=by
 intro x
 induction x using aa.ind with
 | h x ih=>
  intro hg hn60
  have hlen:=x.text_len hg
  have hn:=x.n_eq
  have hg':=hg
  rw [x.good_eq,Bool.and_eq_true_iff] at hg
  obtain ⟨hnode,hk⟩:=hg
  rw [List.all_eq_true] at hk
  have kid:∀ y∈x.fKids,cR y=some y.text/\y.text.length<=250000000:=fun y hy=>by
   have h1:=pb (m:=aa.n) hy
   have h2:=y.text_len (hk y hy)
   exact ⟨ih y hy (hk y hy) (by omega),by omega⟩
  rw [yi,uF]
  simp only [Option.bind_some,fG]
  have hs:=Ax x.fKind
  rw [x.text_eq]
  rcases sG hnode with ⟨h1,h2,h3⟩ | ⟨h1,h2,h3,h4⟩ | ⟨h1,h2,h3⟩ | ⟨h1,h2,h3⟩ | ⟨h1,a,h2⟩ | ⟨h1,a,b,h2⟩
  ·simp [h1,lL,vU]
  ·simp [h1,lL,vd (show -9223372036854775808<=x.fNum by omega) (show x.fNum<=9223372036854775807 by omega)]
  ·have:=jd h3
   rcases h1 with h1 | h1 | h1 | h1
   ·simp [h1,lL]
   all_goals
    rw [h1] at hs ⊢
    simp [lL,eN]
    rw [av (by omega)]
  ·have hnl:=jd h3
   have fin:∀ acc:List (List UInt8),acc.length<=6->Lib.lens acc<=250000000->d7 x.fKids (len x.fKids) (len x.fKids) x.fKind x.fNum x.fText x.fKids acc=some (x.fText++[40]++Lib.join acc [44]++[41]):=by
    intro acc h1 h2
    have hj:=xH acc
    rw [l9,if_neg (by simp)]
    rw [av (by simp;omega)]
    unfold EF
    rw [if_pos (by unfold big;omega)]
    simp only [Option.bind_some]
    rw [av (by simp;omega)]
    simp only [Option.bind_some]
    rw [av (by simp;omega)]
    rfl
   have loop:∀ acc:List (List UInt8),acc.length+x.fKids.length<=6->Lib.lens acc+Lib.lens (x.fKids.map aa.text)<=250000000->d7 x.fKids (len x.fKids) ((0:Nat):Int) x.fKind x.fNum x.fText x.fKids acc=some (x.fText++[40]++Lib.join (acc++x.fKids.map aa.text) [44]++[41]):=by
    refine bz (xs:=x.fKids) (by omega) (P:=fun i l=>∀ acc:List (List UInt8),acc.length+l.length<=6->Lib.lens acc+Lib.lens (l.map aa.text)<=250000000->d7 x.fKids (len x.fKids) i x.fKind x.fNum x.fText x.fKids acc=some (x.fText++[40]++Lib.join (acc++l.map aa.text) [44]++[41])) ?_ ?_
    ·intro acc h1 h2
     have:=fin acc (by simpa using h1) (by omega)
     rw [aj] at this ⊢
     simpa using this
    ·intro i y l _ hlt hy hi hw ih2 acc h1 h2
     rw [l9,hi,hw,if_pos (by simp [aj,hlt])]
     simp only [Option.bind_some,aa.re_eq,(kid y hy).1]
     simp only [List.length_cons] at h1
     rw [av (by simp;omega)]
     simp only [Option.bind_some]
     have e1:Lib.lens (acc++[y.text])=Lib.lens acc+y.text.length:=by simp [Lib.lens]
     have e2:Lib.lens ((y:: l).map aa.text)=y.text.length+Lib.lens (l.map aa.text):=by simp [Lib.lens]
     rw [e2] at h2
     rw [ih2 (acc++[y.text]) (by simp;omega) (by rw [e1];omega)]
     simp
   have hl:=Ay x.fKids 250 (fun y hy=>y.text_len (hk y hy))
   have:=loop [] (by simpa using h2) (by simp [Lib.lens] at hl ⊢;omega)
   have e:((x.fKids.map fun y=>(a8 y.fKind,aa.text y)).map (·.2))=x.fKids.map aa.text:=by rw [List.map_map];rfl
   simp only [Int.natCast_zero,List.nil_append] at this
   rw [h1] at this ⊢
   simp only [lL,e]
   simpa using this
  ·obtain ⟨ka,la⟩:=kid a (by simp [h2])
   have hl:=ji 6 (a8 a.fKind,a.text)
   simp only at hl
   rw [h2]
   simp only [jf,List.getElem?_cons_zero,Option.bind_some,aa.re_eq]
   rw [mf 6 ka (by omega)]
   rcases h1 with h1 | h1
   all_goals
    rw [h1] at hs ⊢
    simp [lL,eN,show a8 14=6 by decide,show a8 15=6 by decide]
    rw [av (by omega)]
  ·obtain ⟨ka,la⟩:=kid a (by simp [h2])
   obtain ⟨kb,lb⟩:=kid b (by simp [h2])
   have p1:=fun l=>ji l (a8 a.fKind,a.text)
   have p2:=fun l=>ji l (a8 b.fKind,b.text)
   simp only at p1 p2
   have hr:=zm x.fKind
   rw [h2]
   simp only [jf,rG,List.getElem?_cons_zero,List.getElem?_cons_succ,Option.bind_some,aa.re_eq]
   rw [aW (by omega) (by omega)]
   simp only [fun l=>mf l ka (by omega),fun l=>mf l kb (by omega),kb,Option.bind_some]
   have q1:=p1 7
   have q2:=p1 2
   have q3:=p2 3
   have q4:=p1 (a8 x.fKind)
   have q5:=p2 (a8 x.fKind+1)
   have hsy:=eN (k:=x.fKind) (by omega) (by omega)
   have n1:¬ x.fKind=1:=by omega
   have n2:¬ x.fKind=2:=by omega
   have n3:¬ x.fKind=3:=by omega
   have n4:¬ x.fKind=4:=by omega
   have n5:¬ (x.fKind=16\/x.fKind=17\/x.fKind=18):=by omega
   have n6:(decide (16<=x.fKind)&&decide (x.fKind<=18))=false:=by simp;omega
   simp only [List.map_cons,List.map_nil,lL,n1,n2,n3,n4,n5,n6,if_false,beq_iff_eq,hsy,Option.bind_some,Bool.false_eq_true]
   by_cases c5:x.fKind=5
   ·rw [if_pos c5,if_pos c5]
    rw [av (by simp;omega)]
    simp only [Option.bind_some]
    rw [av (by simp;omega)]
    simp only [Option.bind_some]
    rw [av (by simp;omega)]
    rfl
   ·have l6:¬ a8 x.fKind=6:=by unfold a8;grind (splits:=60)
    rw [if_neg c5,if_neg c5,if_neg l6]
    by_cases c7:x.fKind=7
    ·have l7:a8 x.fKind=2:=by unfold a8;simp [c7]
     rw [if_pos c7,if_pos c7]
     rw [l7] at q4 q5 ⊢
     rw [av (by simp;omega)]
     simp only [Option.bind_some]
     rw [av (by simp;omega)]
     rfl
    ·rw [if_neg c7,if_neg c7]
     rw [av (by simp;omega)]
     simp only [Option.bind_some]
     rw [av (by simp;omega)]
     simp only [Option.bind_some]
     rw [av (by simp;omega)]
     simp only [Option.bind_some]
     rw [av (by simp;omega)]
     rfl
theorem Az : ∀ x:aa,x.good=true->x.n<=1000000->dn x.fKind x.fNum x.fText x.fKids=some x.text:=by
 intro x
 induction x using aa.ind with
 | h x ih=>
  intro hg hn60
  have hlen:=x.text_len hg
  have hn:=x.n_eq
  have hg':=hg
  rw [x.good_eq,Bool.and_eq_true_iff] at hg
  obtain ⟨hnode,hk⟩:=hg
  rw [List.all_eq_true] at hk
  have kid:∀ y∈x.fKids,dn y.fKind y.fNum y.fText y.fKids=some y.text/\y.text.length<=250000000:=fun y hy=>by
   have h1:=pb (m:=aa.n) hy
   have h2:=y.text_len (hk y hy)
   exact ⟨ih y hy (hk y hy) (by omega),by omega⟩
  rw [z7]
  have hs:=Ax x.fKind
  rw [x.text_eq]
  rcases sG hnode with ⟨h1,h2,h3⟩ | ⟨h1,h2,h3,h4⟩ | ⟨h1,h2,h3⟩ | ⟨h1,h2,h3⟩ | ⟨h1,a,h2⟩ | ⟨h1,a,b,h2⟩
  ·simp [h1,lL,vV]
  ·simp [h1,lL,CO (show 0<=x.fNum by omega) (show x.fNum<9223372036854775808 by omega)]
  ·have:=jd h3
   rcases h1 with h1 | h1 | h1 | h1
   ·simp [h1,lL]
   all_goals
    rw [h1] at hs ⊢
    simp [lL,yF]
    rw [av (by simp;omega)]
    simp
  ·have hnl:=jd h3
   have loop:∀ acc:List UInt8,acc.length<=1000->(((0:Nat):Int)=0->True)->dS x.fKind x.fNum x.fText x.fKids acc ((0:Nat):Int)=some (acc++Lib.join (x.fKids.map aa.text) [44]++[41]):=by
    have key:∀ acc:List UInt8,acc.length+Lib.lens (x.fKids.map aa.text)+x.fKids.length<=1000000000->dS x.fKind x.fNum x.fText x.fKids acc ((0:Nat):Int)=some (acc++(if (0:Nat)=0 then Lib.join (x.fKids.map aa.text) [44] else Lib.joinTail [44] (x.fKids.map aa.text))++[41]):=by
     refine bz (xs:=x.fKids) (by omega) (P:=fun i l=>∀ acc:List UInt8,acc.length+Lib.lens (l.map aa.text)+l.length<=1000000000->dS x.fKind x.fNum x.fText x.fKids acc i=some (acc++(if i=0 then Lib.join (l.map aa.text) [44] else Lib.joinTail [44] (l.map aa.text))++[41])) ?_ ?_
     ·intro acc h1
      rw [ni,if_neg (by simp [aj])]
      simp only [List.length_nil,Lib.lens,List.map_nil,List.sum_nil] at h1
      rw [av (by simp;omega)]
      have:Lib.joinTail [44] []=[]:=rfl
      simp [Lib.join_nil,this]
     ·intro i y l _ hlt hy hi hw ih2 acc h1
      have e2:Lib.lens ((y:: l).map aa.text)=y.text.length+Lib.lens (l.map aa.text):=by simp [Lib.lens]
      rw [e2,List.length_cons] at h1
      rw [ni,hi,hw,if_pos (by simp [aj,hlt])]
      simp only [Option.bind_some,(kid y hy).1]
      by_cases h0:i=0
      ·subst h0
       rw [if_neg (by simp),av (by omega)]
       simp only [Option.bind_some]
       rw [ih2 _ (by simp;omega)]
       simp only [Nat.zero_add,Nat.one_ne_zero,if_false,if_true,List.map_cons,Lib.join_cons,List.append_assoc]
      ·rw [if_pos (by simp;omega),av (by simp;omega)]
       simp only [Option.bind_some]
       rw [av (by simp;omega)]
       simp only [Option.bind_some]
       rw [ih2 _ (by simp;omega)]
       have:Lib.joinTail [44] (y.text:: l.map aa.text)=[44]++y.text++Lib.joinTail [44] (l.map aa.text):=rfl
       simp only [h0,Nat.add_eq_zero_iff,Nat.one_ne_zero,and_false,if_false,List.map_cons,this,List.append_assoc]
    intro acc h1 _
    have hl:=Ay x.fKids 250 (fun y hy=>y.text_len (hk y hy))
    have:=key acc (by omega)
    simpa using this
   have e:((x.fKids.map fun y=>(a8 y.fKind,aa.text y)).map (·.2))=x.fKids.map aa.text:=by rw [List.map_map];rfl
   have:=loop (x.fText++[40]) (by simp;omega) (fun _=>trivial)
   simp only [Int.natCast_zero] at this
   rw [h1] at this ⊢
   simp only [lL,e]
   simp
   rw [av (by simp;omega)]
   simpa using this
  ·obtain ⟨ka,la⟩:=kid a (by simp [h2])
   have hl:=ji 6 (a8 a.fKind,a.text)
   simp only at hl
   rw [h2]
   simp only [jf,List.getElem?_cons_zero,Option.bind_some]
   rw [qm 6 ka (by omega)]
   rcases h1 with h1 | h1
   all_goals
    rw [h1] at hs ⊢
    simp [lL,yF]
    rw [av (by simp;omega)]
    simp
  ·obtain ⟨ka,la⟩:=kid a (by simp [h2])
   obtain ⟨kb,lb⟩:=kid b (by simp [h2])
   have p1:=fun l=>ji l (a8 a.fKind,a.text)
   have p2:=fun l=>ji l (a8 b.fKind,b.text)
   simp only at p1 p2
   have hr:=zm x.fKind
   rw [h2]
   simp only [jf,rG,List.getElem?_cons_zero,List.getElem?_cons_succ,Option.bind_some,tF]
   rw [aW (by omega) (by omega)]
   simp only [fun l=>qm l ka (by omega),fun l=>qm l kb (by omega),kb,Option.bind_some]
   have q1:=p1 7
   have q2:=p1 2
   have q3:=p2 3
   have q4:=p1 (a8 x.fKind)
   have q5:=p2 (a8 x.fKind+1)
   have n1:¬ x.fKind=1:=by omega
   have n2:¬ x.fKind=2:=by omega
   have n3:¬ x.fKind=3:=by omega
   have n4:¬ x.fKind=4:=by omega
   have n5:¬ (x.fKind=16\/x.fKind=17\/x.fKind=18):=by omega
   have m1:¬ x.fKind=16:=by omega
   have m2:¬ x.fKind=17:=by omega
   have m3:¬ x.fKind=18:=by omega
   have m4:¬ x.fKind=14:=by omega
   have m5:¬ x.fKind=15:=by omega
   simp only [List.map_cons,List.map_nil,lL,n1,n2,n3,n4,n5,m1,m2,m3,m4,m5,if_false,beq_iff_eq]
   by_cases c5:x.fKind=5
   ·rw [if_pos c5,if_pos c5]
    rw [av (by simp;omega)]
    simp only [Option.bind_some]
    rw [av (by simp;omega)]
    simp only [Option.bind_some]
    rw [av (by simp;omega)]
    rfl
   ·rw [if_neg c5,if_neg c5,BN (by omega) (by omega)]
    by_cases c7:x.fKind=7
    ·have l7:a8 x.fKind=2:=by unfold a8;simp [c7]
     rw [if_pos c7,if_pos c7]
     rw [l7] at q4 q5 ⊢
     simp only [Option.bind_some]
     rw [av (by simp;omega)]
     simp only [Option.bind_some]
     rw [av (by simp;omega)]
     rfl
    ·rw [if_neg c7,if_neg c7]
     simp only [Option.bind_some]
     rw [av (by simp;omega)]
     simp only [Option.bind_some]
     rw [av (by simp;omega)]
     simp
end Go.Dv.U

namespace Go.Dv.U
open Go Go.Dv Go.Proofs
def nmB (s:List UInt8):Bool:=s==[]||b6 s
def gOk (g:aw):Bool:=(g.fAlways==[]||(g.fSuccess==[]&&g.fFailure==[]))&&(nmB g.fAlways&&nmB g.fSuccess&&nmB g.fFailure)
def jF (g:aw):Bool:=g.fAlways==[]&&g.fSuccess==[]&&g.fFailure==[]
def zE (e:aa):Bool:=e.fKind==0&&e.fNum==0&&e.fText==[]&&decide (e.fKids.length=0)
def gM (b:Bool) (e:aa):Bool:=if b=true then e.valid else zE e
def lM (s:ab):Bool:=nmB s.fLabel&&gOk s.fGoto&&(s.fHasSubject||(!s.fHasPattern&&!s.fHasReplace))&&(gM s.fHasSubject s.fSubject&&gM s.fHasPattern s.fPattern&&gM s.fHasReplace s.fReplace)&&!(s.fLabel==[]&&!s.fHasSubject&&jF s.fGoto)
def oq (c:UInt8) (s:List UInt8):List UInt8:=if s=[] then [] else [c,40]++s++[41]
def iw (g:aw):List UInt8:=if g.fAlways≠[] then [58,40]++g.fAlways++[41] else if oq 83 g.fSuccess++oq 70 g.fFailure=[] then [] else 58:: (oq 83 g.fSuccess++oq 70 g.fFailure)
def EU (s:ab):List UInt8:=(if s.fHasReplace=true then [32,61,32]++s.fReplace.text else [])++(if iw s.fGoto=[] then [] else [32]++iw s.fGoto)
def AA (s:ab):List UInt8:=(if s.fHasSubject=true then [32]++BO 6 (a8 s.fSubject.fKind,s.fSubject.text) else [])++(if s.fHasPattern=true then [32]++s.fPattern.text else [])++EU s
def iy (s:ab):List UInt8:=s.fLabel++AA s
def fm (s:ab):Bool:=lM s&&(decide ((iy s).length<=4000)&&(fp (AA s)).2.2==0)
theorem uG {s:List UInt8} (h:nmB s=true):s.length<=12:=by
 unfold nmB at h
 rw [Bool.or_eq_true_iff] at h
 rcases h with h | h
 ·have:s=[]:=by simpa using h
  rw [this];simp
 ·exact jd h
theorem Lg (s:List UInt8):nmB s=if s=[] then true else b6 s:=by
 unfold nmB
 by_cases h:s=[]
 ·simp [h]
 ·have:(s==[])=false:=by simpa using h
  simp [h]
theorem vf (s:List UInt8):mX s=some (nmB s):=by
 rw [Bw,li,Lg]
 simp only [Option.bind_some,beq_iff_eq]
 split<;>rfl
theorem qZ (g:aw):nF g=some (gOk g):=by
 rw [yj,ud,ue]
 simp only [vf,Option.bind_some,qf]
 congr 1
 unfold gOk
 cases g.fAlways==[]<;>cases g.fSuccess==[]<;>cases g.fFailure==[]<;>cases nmB g.fAlways<;>cases nmB g.fSuccess<;>cases nmB g.fFailure<;>rfl
theorem pT (s:List UInt8):mW s=some (b6 s):=by
 rw [Bt,sE];rfl
theorem yH (g:aw):nE g=some (gOk g):=by
 have hlab:nI g=some ([g.fAlways,g.fSuccess,g.fFailure].filter fun s=>!(s==[])):=by
  rw [vD]
  generalize g.fAlways=A
  generalize g.fSuccess=B
  generalize g.fFailure=D
  have t3:len [A,B,D]=3:=rfl
  have w1:w64 (0+1)=1:=by decide
  have w2:w64 (1+1)=2:=by decide
  have w3:w64 (2+1)=3:=by decide
  have step:∀ (i:Int) (acc:List (List UInt8)) (y:List UInt8),idx [A,B,D] i=some y->([A,B,D]:List (List UInt8))[i.toNat]?=some y->i<3->acc.length<=10->dG 3 i acc [A,B,D]=dG 3 (w64 (i+1)) (acc++[y].filter fun s=>!(s==[])) [A,B,D]:=by
   intro i acc y h1 h2 h3 h4
   rw [kZ,if_pos (by simpa using h3),h1,h2]
   simp only [Option.bind_some]
   by_cases hy:y=[]
   ·rw [if_neg (by simp [hy])];simp [hy]
   ·have:(y==[])=false:=by simpa using hy
    have hf:([y].filter fun s=>!(s==[]))=[y]:=by
     rw [List.filter_cons,if_pos (by rw [this];rfl)]
     rfl
    rw [if_pos (by simp [hy]),av (by simp;omega),hf]
    rfl
  have fl:∀ y:List UInt8,([y].filter fun s=>!(s==[])).length<=1:=fun y=>by
   have:=List.length_filter_le (fun s:List UInt8=>!(s==[])) [y]
   simpa using this
  have f1:=fl A
  have f2:=fl B
  rw [t3,step 0 [] A rfl rfl (by decide) (by simp),w1,step 1 _ B rfl rfl (by decide) (by simp at f1 ⊢;omega),w2,step 2 _ D rfl rfl (by decide) (by simp at f1 f2 ⊢;omega),w3,kZ,if_neg (by decide)]
  congr 1
  rw [show [A,B,D]=[A]++[B]++[D] from rfl,List.filter_append,List.filter_append]
  simp
 have hall:∀ l:List (List UInt8),l.length<=10->dF l=some (l.all b6):=by
  intro l hl
  rw [jQ]
  exact wi (xs:=l) (by omega) (F:=mW) (p:=b6) (J:=b7 l (len l)) (fun i=>by rw [iz]) (fun y _=>pT y)
 rw [yh]
 try simp only [aw.re_eq]
 rw [hlab]
 simp only [Option.bind_some]
 rw [hall _ (by
  have:=List.length_filter_le (fun s:List UInt8=>!(s==[])) [g.fAlways,g.fSuccess,g.fFailure]
  simp at this ⊢;omega)]
 simp only [Option.bind_some,qf]
 congr 1
 unfold gOk nmB
 have hf:∀ s:List UInt8,(s==[])=true\/(s==[])=false:=fun s=>by cases s==[]<;>simp
 rcases hf g.fAlways with h1 | h1<;>rcases hf g.fSuccess with h2 | h2<;>rcases hf g.fFailure with h3 | h3<;>simp only [List.filter_cons,List.filter_nil,h1,h2,h3,Bool.not_true,Bool.not_false,Bool.false_eq_true,if_false,if_true,List.all_nil,List.all_cons,Bool.and_true,Bool.true_or,Bool.false_or,Bool.true_and,Bool.and_self,Bool.and_false,Bool.false_and,ite_self]<;>(try split)<;>simp_all
theorem sH (b:Bool) {e:aa} (hm:e.m<=1048576):td b e=some (gM b e):=by
 rw [CG]
 unfold gM
 cases b
 ·simp only [Bool.false_eq_true,if_false]
  have z0:(Int.ofNat 0)=0:=rfl
  simp only [aa.re_eq,z0]
  rw [Ad]
  unfold zE
  have hk:aK e.fKids []=some (decide (e.fKids.length=0)):=by
   rw [cf]
   by_cases h:e.fKids.length=0
   ·rw [if_neg (by simp [aj,h]),ca,if_neg (by simp [aj,h])]
    simp [h]
   ·rw [if_pos (by simp [aj];intro e;exact h (by rw [e];rfl))]
    simp [h]
  rw [hk]
  simp only [Option.bind_some,qf]
  cases e.fKind==0<;>cases e.fNum==0<;>cases e.fText==[]<;>simp
 ·simp only [if_true,aa.re_eq,qY hm,Option.bind_some]
theorem pU (b:Bool) {e:aa} (hm:e.m<=1048576):pd b e=some (gM b e):=by
 rw [Bx]
 unfold gM
 cases b
 ·simp only [Bool.false_eq_true,if_false]
  have z0:(Int.ofNat 0)=0:=rfl
  simp only [aa.re_eq,z0]
  rw [z8,BE,xm]
  unfold zE
  by_cases h1:e.fKind=0
  ·rw [if_neg (by simp [h1])]
   by_cases h2:e.fNum=0
   ·rw [if_neg (by simp [h2])]
    by_cases h3:e.fText=[]
    ·rw [if_neg (by simp [h3])]
     by_cases h4:e.fKids.length=0
     ·rw [if_neg (by simp [aj,h4]),xn,xt,if_neg (by simp [aj,h4])]
      simp [h1,h2,h3,h4]
     ·rw [if_pos (by simp [aj];intro e;exact h4 (by rw [e];rfl))]
      simp [h4]
    ·rw [if_pos (by simp [h3])]
     simp [h3]
   ·rw [if_pos (by simp [h2])]
    simp [h2]
  ·rw [if_pos (by simp [h1])]
   simp [h1]
 ·simp only [if_true,aa.re_eq,ym,ET hm,Option.bind_some]
theorem vj {s:ab} (h1:s.fSubject.m<=1048576) (h2:s.fPattern.m<=1048576) (h3:s.fReplace.m<=1048576):cW s=some (lM s):=by
 rw [Bs,xd,xe,xi,xj]
 simp only [aa.re_eq,aw.re_eq,vf,qZ,pU _ h1,pU _ h2,pU _ h3,Option.bind_some,qf]
 congr 1
 unfold lM jF
 cases nmB s.fLabel<;>cases gOk s.fGoto<;>cases gM s.fHasSubject s.fSubject<;>cases gM s.fHasPattern s.fPattern<;>cases gM s.fHasReplace s.fReplace<;>cases s.fHasSubject<;>cases s.fHasPattern<;>cases s.fHasReplace<;>cases (s.fLabel==[])<;>cases s.fGoto.fAlways==[]<;>cases s.fGoto.fSuccess==[]<;>cases s.fGoto.fFailure==[]<;>rfl
theorem CS {g:aw} (h:gOk g=true):g.fAlways.length<=12/\g.fSuccess.length<=12/\g.fFailure.length<=12:=by
 unfold gOk at h
 simp only [Bool.and_eq_true_iff] at h
 exact ⟨uG h.2.1.1,uG h.2.1.2,uG h.2.2⟩
theorem ou {c:UInt8} {s:List UInt8} (h:s≠[]):oq c s=[c,40]++s++[41]:=by unfold oq;rw [if_neg h]
theorem pV (c:UInt8):oq c []=[]:=rfl
theorem tG (c:UInt8) (s:List UInt8):(oq c s).length<=s.length+3:=by unfold oq;split<;>simp
theorem yI {g:aw} (h:gOk g=true):kR g=some (iw g):=by
 obtain ⟨l1,l2,l3⟩:=CS h
 have L8:∀ o:List UInt8,o.length<=100->e8 o=some (if o=[] then [] else 58:: o):=by
  intro o ho
  rw [uj]
  by_cases h:o=[]
  ·rw [if_pos (by simp [h]),if_pos h]
  ·rw [if_neg (by simpa using h),if_neg h,av (by simp;omega)]
   rfl
 rw [yl]
 have w1:=tG 83 g.fSuccess
 have w2:=tG 70 g.fFailure
 by_cases hA:g.fAlways=[]
 ·have hG:iw g=if oq 83 g.fSuccess++oq 70 g.fFailure=[] then [] else 58:: (oq 83 g.fSuccess++oq 70 g.fFailure):=by unfold iw;rw [if_neg (fun h=>h hA)]
  rw [if_neg (by simp [hA]),hG]
  by_cases hS:g.fSuccess=[]
  ·rw [if_neg (by simp [hS]),hS,pV,List.nil_append]
   by_cases hF:g.fFailure=[]
   ·rw [if_neg (by simp [hF]),hF,pV,L8 [] (by simp)]
   ·rw [if_pos (by simp [hF]),av (by simp;omega)]
    simp only [Option.bind_some]
    rw [av (by simp;omega)]
    simp only [Option.bind_some]
    rw [av (by simp;omega)]
    simp only [Option.bind_some]
    rw [L8 _ (by simp;omega),ou hF]
    simp
  ·rw [if_pos (by simp [hS]),av (by simp;omega)]
   simp only [Option.bind_some]
   rw [av (by simp;omega)]
   simp only [Option.bind_some]
   rw [av (by simp;omega)]
   simp only [Option.bind_some]
   by_cases hF:g.fFailure=[]
   ·rw [if_neg (by simp [hF]),hF,pV,L8 _ (by simp;omega),ou hS]
    simp
   ·rw [if_pos (by simp [hF]),av (by simp;omega)]
    simp only [Option.bind_some]
    rw [av (by simp;omega)]
    simp only [Option.bind_some]
    rw [av (by simp;omega)]
    simp only [Option.bind_some]
    rw [L8 _ (by simp;omega),ou hF,ou hS]
    simp
 ·have hG:iw g=[58,40]++g.fAlways++[41]:=by unfold iw;rw [if_pos hA]
  rw [if_pos (by simp [hA]),hG,av (by simp;omega)]
  simp only [Option.bind_some]
  rw [av (by simp;omega)]
  rfl
theorem AB {g:aw} (h:gOk g=true):mZ g=some (iw g):=by
 obtain ⟨l1,l2,l3⟩:=CS h
 rw [Ab]
 try simp only [aw.re_eq]
 rw [qZ,h]
 simp only [Option.bind_some,Bool.not_true,Bool.false_eq_true,if_false]
 have L8:∀ (o A B D:List UInt8),o.length<=100->D.length<=12->kw o A B D=some (o++oq 70 D):=by
  intro o A B D ho hD
  rw [vH]
  by_cases h:D=[]
  ·rw [if_neg (by simp [h]),h,pV];simp
  ·rw [if_pos (by simp [h]),av (by simp;omega)]
   simp only [Option.bind_some]
   rw [av (by simp;omega)]
   simp only [Option.bind_some]
   rw [av (by simp;omega),ou h]
   simp
 by_cases hA:g.fAlways=[]
 ·have hG:iw g=if oq 83 g.fSuccess++oq 70 g.fFailure=[] then [] else 58:: (oq 83 g.fSuccess++oq 70 g.fFailure):=by unfold iw;rw [if_neg (fun h=>h hA)]
  rw [hG]
  by_cases hS:g.fSuccess=[]
  ·by_cases hF:g.fFailure=[]
   ·rw [if_pos (by simp [hA,hS,hF]),hS,hF]
    rfl
   ·rw [if_neg (by simp [hF]),if_neg (by simp [hA]),if_neg (by simp [hS]),L8 _ _ _ _ (by simp) l3,hS,pV,ou hF]
    simp
  ·rw [if_neg (by simp [hS]),if_neg (by simp [hA]),if_pos (by simp [hS]),av (by simp;omega)]
   simp only [Option.bind_some]
   rw [av (by simp;omega)]
   simp only [Option.bind_some]
   rw [av (by simp;omega)]
   simp only [Option.bind_some]
   rw [L8 _ _ _ _ (by simp;omega) l3,ou hS]
   simp
 ·have hG:iw g=[58,40]++g.fAlways++[41]:=by unfold iw;rw [if_pos hA]
  rw [if_neg (by simp [hA]),if_pos (by simp [hA]),hG,av (by simp;omega)]
  simp only [Option.bind_some]
  rw [av (by simp;omega)]
  rfl
theorem xI {g:aw} (h:gOk g=true):(iw g).length<=100:=by
 obtain ⟨l1,l2,l3⟩:=CS h
 have w1:=tG 83 g.fSuccess
 have w2:=tG 70 g.fFailure
 unfold iw
 repeat' split
 all_goals simp<;>omega
theorem BP (g:aw):iw g=[]↔jF g=true:=by
 unfold iw jF oq
 by_cases hA:g.fAlways=[]<;>by_cases hS:g.fSuccess=[]<;>by_cases hF:g.fFailure=[]<;>simp [hA,hS,hF]
theorem fH {b:Bool} {e:aa} (h:gM b e=true) (hb:b=true):cR e=some e.text/\dn e.fKind e.fNum e.fText e.fKids=some e.text/\e.text.length<=15000:=by
 unfold gM at h
 rw [if_pos hb] at h
 unfold aa.valid at h
 rw [Bool.and_eq_true_iff,decide_eq_true_eq] at h
 have:=e.text_len h.1
 exact ⟨yG e h.1 (by omega),Az e h.1 (by omega),by omega⟩
theorem sI {s:ab} (h:lM s=true):nmB s.fLabel=true/\gOk s.fGoto=true/\gM s.fHasSubject s.fSubject=true/\gM s.fHasPattern s.fPattern=true/\gM s.fHasReplace s.fReplace=true:=by
 unfold lM at h
 simp only [Bool.and_eq_true_iff] at h
 obtain ⟨⟨⟨⟨h1,h2⟩,h3⟩,⟨h4,h5⟩,h6⟩,h7⟩:=h
 exact ⟨h1,h2,h4,h5,h6⟩
theorem gN {s:ab} (h:lM s=true):eQ s=some (iy s):=by
 obtain ⟨hl,hg,hs,hp,hr⟩:=sI h
 have ll:=uG hl
 have lg:=xI hg
 have hgt:kR (aw.mk s.fGoto.fAlways s.fGoto.fSuccess s.fGoto.fFailure)=some (iw s.fGoto):=yI hg
 have L6:∀ acc:List UInt8,acc.length<=100000->cB acc s.fLabel s.fHasSubject s.fSubject.fKind s.fSubject.fNum s.fSubject.fText s.fSubject.fKids s.fHasPattern s.fPattern.fKind s.fPattern.fNum s.fPattern.fText s.fPattern.fKids s.fHasReplace s.fReplace.fKind s.fReplace.fNum s.fReplace.fText s.fReplace.fKids s.fGoto.fAlways s.fGoto.fSuccess s.fGoto.fFailure=some (acc++EU s):=by
  intro acc ha
  rw [oM]
  simp only [nU,hgt,Option.bind_some]
  unfold EU
  have er:aa.mk s.fReplace.fKind s.fReplace.fNum s.fReplace.fText s.fReplace.fKids=s.fReplace:=by cases s.fReplace;rfl
  rw [er]
  have fin:∀ o:List UInt8,o.length<=200000->(if (!iw s.fGoto==[])=true then (app [32] (iw s.fGoto)).bind fun y194=>(app o y194).bind fun y193=>some y193 else some o)=some (o++(if iw s.fGoto=[] then [] else [32]++iw s.fGoto)):=by
   intro o ho
   by_cases hz:iw s.fGoto=[]
   ·rw [if_neg (by simp [hz]),if_pos hz];simp
   ·rw [if_pos (by simp [hz]),if_neg hz,av (by simp;omega)]
    simp only [Option.bind_some]
    rw [av (by simp;omega)]
    rfl
  cases hR:s.fHasReplace
  ·simp only [Bool.false_eq_true,if_false,List.nil_append]
   exact fin acc (by omega)
  ·obtain ⟨t1,_,t3⟩:=fH hr hR
   simp only [if_true,t1,Option.bind_some]
   rw [av (by simp;omega)]
   simp only [Option.bind_some]
   rw [av (by simp;omega)]
   simp only [Option.bind_some]
   rw [fin _ (by simp;omega)]
   simp
 rw [rR]
 try simp only [aa.re_eq,aw.re_eq]
 unfold iy AA
 cases hS:s.fHasSubject
 ·cases hP:s.fHasPattern
  ·rw [hS,hP] at L6
   simp only [Bool.false_eq_true,if_false,List.nil_append]
   exact L6 s.fLabel (by omega)
  ·obtain ⟨t1,_,t3⟩:=fH hp hP
   rw [hS,hP] at L6
   simp only [Bool.false_eq_true,if_false,if_true,List.nil_append,t1,Option.bind_some]
   rw [av (by simp;omega)]
   simp only [Option.bind_some]
   rw [av (by simp;omega)]
   simp only [Option.bind_some]
   rw [L6 _ (by simp;omega)]
   simp
 ·obtain ⟨u1,_,u3⟩:=fH hs hS
  have lo:=ji 6 (a8 s.fSubject.fKind,s.fSubject.text)
  simp only at lo
  have uo:=mf 6 u1 (by omega)
  cases hP:s.fHasPattern
  ·rw [hS,hP] at L6
   simp only [Bool.false_eq_true,if_false,if_true,uo,Option.bind_some]
   rw [av (by simp;omega)]
   simp only [Option.bind_some]
   rw [av (by simp;omega)]
   simp only [Option.bind_some]
   rw [L6 _ (by simp;omega)]
   simp
  ·obtain ⟨t1,_,t3⟩:=fH hp hP
   rw [hS,hP] at L6
   simp only [if_true,uo,t1,Option.bind_some]
   rw [av (xs:=[32]) (ys:=BO 6 (a8 s.fSubject.fKind,s.fSubject.text)) (by simp;omega)]
   simp only [Option.bind_some]
   rw [av (xs:=s.fLabel) (by simp;omega)]
   simp only [Option.bind_some]
   rw [av (xs:=[32]) (by simp;omega)]
   simp only [Option.bind_some]
   rw [av (by simp;omega)]
   simp only [Option.bind_some]
   rw [L6 _ (by simp;omega)]
   simp
theorem tH {s:ab} (h:lM s=true):qg s=some (iy s):=by
  obtain ⟨hl,hg,hs,hp,hr⟩:=sI h
  have ll:=uG hl
  have lg:=xI hg
  have hgt:mZ (aw.mk s.fGoto.fAlways s.fGoto.fSuccess s.fGoto.fFailure)=some (iw s.fGoto):=AB hg
  have hz2:(s.fGoto.fAlways==[]&&(s.fGoto.fSuccess==[]&&(s.fGoto.fFailure==[]&&true)))=jF s.fGoto:=by
    unfold jF;simp only [Bool.and_true,Bool.and_assoc]
  have L6 : ∀ acc:List UInt8,acc.length<=100000->fL acc s.fLabel s.fHasSubject s.fSubject.fKind s.fSubject.fNum s.fSubject.fText s.fSubject.fKids s.fHasPattern s.fPattern.fKind s.fPattern.fNum s.fPattern.fText s.fPattern.fKids s.fHasReplace s.fReplace.fKind s.fReplace.fNum s.fReplace.fText s.fReplace.fKids s.fGoto.fAlways s.fGoto.fSuccess s.fGoto.fFailure=some (acc++EU s):=by
    intro acc ha
    rw [vz]
    simp only [uf,hgt,hz2,Option.bind_some]
    unfold EU
    have fin:∀ o:List UInt8,o.length<=200000->(if (!jF s.fGoto)=true then (app [32] (iw s.fGoto)).bind fun y194=>(app o y194).bind fun y193=>some y193 else some o)=some (o++(if iw s.fGoto=[] then [] else [32]++iw s.fGoto)):=by
      intro o ho
      by_cases hz:iw s.fGoto=[]
      · rw [if_neg (by rw [(BP _).1 hz];simp),if_pos hz];simp
      · have hzf:jF s.fGoto=false:=by
          cases hq:jF s.fGoto
          · rfl
          · exact absurd ((BP _).2 hq) hz
        rw [if_pos (by rw [hzf];rfl),if_neg hz,av (by simp;omega)]
        simp only [Option.bind_some]
        rw [av (by simp;omega)]
        rfl
    cases hR:s.fHasReplace
    · simp only [Bool.false_eq_true,if_false,List.nil_append]
      exact fin acc (by omega)
    · obtain ⟨_,t1,t3⟩:=fH hr hR
      simp only [if_true,t1,Option.bind_some]
      rw [av (by simp;omega)]
      simp only [Option.bind_some]
      rw [av (by simp;omega)]
      simp only [Option.bind_some]
      rw [fin _ (by simp;omega)]
      simp
  rw [z6]
  try simp only [aa.re_eq,aw.re_eq]
  unfold iy AA
  cases hS:s.fHasSubject
  · cases hP:s.fHasPattern
    · rw [hS,hP] at L6
      simp only [Bool.false_eq_true,if_false,List.nil_append]
      exact L6 s.fLabel (by omega)
    · obtain ⟨_,t1,t3⟩:=fH hp hP
      rw [hS,hP] at L6
      simp only [Bool.false_eq_true,if_false,if_true,List.nil_append,t1,Option.bind_some]
      rw [av (by simp;omega)]
      simp only [Option.bind_some]
      rw [av (by simp;omega)]
      simp only [Option.bind_some]
      rw [L6 _ (by simp;omega)]
      simp
  · obtain ⟨_,u1,u3⟩:=fH hs hS
    have lo:=ji 6 (a8 s.fSubject.fKind,s.fSubject.text)
    simp only at lo
    have uo:=qm 6 u1 (by omega)
    cases hP:s.fHasPattern
    · rw [hS,hP] at L6
      simp only [Bool.false_eq_true,if_false,if_true,uo,Option.bind_some]
      rw [av (by simp;omega)]
      simp only [Option.bind_some]
      rw [av (by simp;omega)]
      simp only [Option.bind_some]
      rw [L6 _ (by simp;omega)]
      simp
    · obtain ⟨_,t1,t3⟩:=fH hp hP
      rw [hS,hP] at L6
      simp only [if_true,uo,t1,Option.bind_some]
      rw [av (xs:=[32]) (ys:=BO 6 (a8 s.fSubject.fKind,s.fSubject.text)) (by simp;omega)]
      simp only [Option.bind_some]
      rw [av (xs:=s.fLabel) (by simp;omega)]
      simp only [Option.bind_some]
      rw [av (xs:=[32]) (by simp;omega)]
      simp only [Option.bind_some]
      rw [av (by simp;omega)]
      simp only [Option.bind_some]
      rw [L6 _ (by simp;omega)]
      simp
theorem xJ {s:ab} (h:lM s=true):(iy s).length<=100000:=by
 obtain ⟨hl,hg,hs,hp,hr⟩:=sI h
 have ll:=uG hl
 have lg:=xI hg
 have lo:=ji 6 (a8 s.fSubject.fKind,s.fSubject.text)
 simp only at lo
 unfold iy AA EU
 have a1:(if s.fHasSubject=true then [32]++BO 6 (a8 s.fSubject.fKind,s.fSubject.text) else []).length<=15003:=by
  split
  ·rename_i hS
   obtain ⟨_,_,u3⟩:=fH hs hS
   simp;omega
  ·simp
 have a2:(if s.fHasPattern=true then [32]++s.fPattern.text else []).length<=15003:=by
  split
  ·rename_i hS
   obtain ⟨_,_,u3⟩:=fH hp hS
   simp;omega
  ·simp
 have a3:(if s.fHasReplace=true then [32,61,32]++s.fReplace.text else []).length<=15003:=by
  split
  ·rename_i hS
   obtain ⟨_,_,u3⟩:=fH hr hS
   simp;omega
  ·simp
 have a4:(if iw s.fGoto=[] then [] else [32]++iw s.fGoto).length<=101:=by
  split
  ·simp
  ·simp;omega
 simp only [List.length_append]
 omega
theorem Kc {p r:List UInt8} (h:(p++r).length<=1000000):fh (p++r) p=some r:=by
 have hh:bW (p++r) p=some true:=by
  rw [dQ,if_pos (by simp [aj];omega)]
  have:=iB (xs:=p++r) (a:=0) (b:=p.length) (by omega) (by simp)
  rw [Option.getD_some,aj,show (0:Int)=((0:Nat):Int) from rfl,this]
  simp
 rw [pD,gU,hh]
 simp only [Option.bind_some,if_true]
 have:=iB (xs:=p++r) (a:=p.length) (b:=(p++r).length) (by simp) (Nat.le_refl _)
 rw [Option.getD_none,aj,aj,this,List.take_length,List.drop_left]
 rfl
theorem lj {s:ab} (h1:s.fSubject.m<=1048576) (h2:s.fPattern.m<=1048576) (h3:s.fReplace.m<=1048576):bB s=some (fm s):=by
 have es:ab.mk s.fLabel s.fHasSubject s.fSubject s.fHasPattern s.fPattern s.fHasReplace s.fReplace s.fGoto=s:=rfl
 rw [rO]
 try simp only [ab.re_eq,aa.re_eq,aw.re_eq]
 rw [es,vj h1 h2 h3]
 simp only [Option.bind_some]
 unfold fm
 cases hf:lM s
 ·simp
 ·have hl:=xJ hf
  rw [tH hf]
  simp only [Option.bind_some,Bool.not_true,Bool.false_eq_true,if_false,Bool.true_and]
  by_cases h4:(iy s).length<=4000
  ·rw [if_neg (by simp [aj];omega)]
   have hc:cut (iy s) (len s.fLabel) (Option.getD none (len (iy s)))=some (AA s):=by
    have:=iB (xs:=iy s) (a:=s.fLabel.length) (b:=(iy s).length) (by unfold iy;simp) (Nat.le_refl _)
    rw [Option.getD_none,aj,aj,this,List.take_length]
    unfold iy
    rw [List.drop_left]
   have hr:(AA s).length<=(iy s).length:=by unfold iy;simp
   rw [hc]
   simp only [Option.bind_some]
   rw [pS (by omega)]
   simp only [Option.bind_some,h4,decide_true,Bool.true_and]
  ·rw [if_pos (by simp [aj];omega)]
   simp [h4]
theorem sJ {s:ab} (h1:s.fSubject.m<=1048576) (h2:s.fPattern.m<=1048576) (h3:s.fReplace.m<=1048576):jJ s=some (fm s):=by
 have es:ab.mk s.fLabel s.fHasSubject s.fSubject s.fHasPattern s.fPattern s.fHasReplace s.fReplace s.fGoto=s:=rfl
 have ea:aa.mk s.fSubject.fKind s.fSubject.fNum s.fSubject.fText s.fSubject.fKids=s.fSubject:=by cases s.fSubject;rfl
 have eb:aa.mk s.fPattern.fKind s.fPattern.fNum s.fPattern.fText s.fPattern.fKids=s.fPattern:=by cases s.fPattern;rfl
 have ec:aa.mk s.fReplace.fKind s.fReplace.fNum s.fReplace.fText s.fReplace.fKids=s.fReplace:=by cases s.fReplace;rfl
 have eg:aw.mk s.fGoto.fAlways s.fGoto.fSuccess s.fGoto.fFailure=s.fGoto:=rfl
 have L7:lM s=true->cC s.fLabel s.fHasSubject s.fSubject.fKind s.fSubject.fNum s.fSubject.fText s.fSubject.fKids s.fHasPattern s.fPattern.fKind s.fPattern.fNum s.fPattern.fText s.fPattern.fKids s.fHasReplace s.fReplace.fKind s.fReplace.fNum s.fReplace.fText s.fReplace.fKids s.fGoto.fAlways s.fGoto.fSuccess s.fGoto.fFailure=some (fm s):=by
  intro hf
  have hl:=xJ hf
  have hr:(AA s).length<=(iy s).length:=by unfold iy;simp
  rw [oQ,ea,eb,ec,eg,es,gN hf]
  simp only [Option.bind_some]
  have ht:fh (iy s) s.fLabel=some (AA s):=Kc (by unfold iy at hl;omega)
  rw [ht]
  simp only [Option.bind_some]
  rw [pR (by omega)]
  simp only [Option.bind_some]
  unfold fm
  rw [hf]
  by_cases h4:(iy s).length<=4000
  ·rw [if_pos (by simp [aj];omega)]
   simp [h4]
  ·rw [if_neg (by simp [aj];omega)]
   simp [h4]
 have bad:lM s=false->fm s=false:=fun h=>by unfold fm;rw [h];rfl
 have hz2:(s.fGoto.fAlways==[]&&(s.fGoto.fSuccess==[]&&(s.fGoto.fFailure==[]&&true)))=jF s.fGoto:=by
  unfold jF;simp only [Bool.and_true,Bool.and_assoc]
 have hform:lM s=(nmB s.fLabel&&gOk s.fGoto&&(s.fHasSubject||(!s.fHasPattern&&!s.fHasReplace))&&(gM s.fHasSubject s.fSubject&&gM s.fHasPattern s.fPattern&&gM s.fHasReplace s.fReplace)&&!(s.fLabel==[]&&!s.fHasSubject&&jF s.fGoto)):=rfl
 have hnm:nmB s.fLabel=(s.fLabel==[]||b6 s.fLabel):=rfl
 rw [rQ]
 try simp only [ab.re_eq,aa.re_eq,aw.re_eq]
 rw [pT,yH]
 simp only [oK,oL,oN,oO,oP,ea,eb,ec,sH _ h1,sH _ h2,sH _ h3,Option.bind_some,hz2]
 generalize cC s.fLabel s.fHasSubject s.fSubject.fKind s.fSubject.fNum s.fSubject.fText s.fSubject.fKids s.fHasPattern s.fPattern.fKind s.fPattern.fNum s.fPattern.fText s.fPattern.fKids s.fHasReplace s.fReplace.fKind s.fReplace.fNum s.fReplace.fText s.fReplace.fKids s.fGoto.fAlways s.fGoto.fSuccess s.fGoto.fFailure=Z at L7
 cases hF:lM s
 ·rw [bad hF]
  rw [hform,hnm] at hF
  revert hF
  cases (s.fLabel==[])<;>cases b6 s.fLabel<;>cases gOk s.fGoto<;>cases gM s.fHasSubject s.fSubject<;>cases gM s.fHasPattern s.fPattern<;>cases gM s.fHasReplace s.fReplace<;>cases s.fHasSubject<;>cases s.fHasPattern<;>cases s.fHasReplace<;>cases jF s.fGoto<;>intro hF<;>first | rfl | (cases hF)
 ·have hZ:=L7 hF
  rw [<-hZ]
  rw [hform,hnm] at hF
  revert hF
  cases (s.fLabel==[])<;>cases b6 s.fLabel<;>cases gOk s.fGoto<;>cases gM s.fHasSubject s.fSubject<;>cases gM s.fHasPattern s.fPattern<;>cases gM s.fHasReplace s.fReplace<;>cases s.fHasSubject<;>cases s.fHasPattern<;>cases s.fHasReplace<;>cases jF s.fGoto<;>intro hF<;>first | rfl | (cases hF)
theorem xK {s:ab} (h:fm s=true):lM s=true:=by
 unfold fm at h
 exact (Bool.and_eq_true_iff.1 h).1
end Go.Dv.U

namespace Go.Dv.U
open Go Go.Dv Go.Proofs
def GN (l:List UInt8):Bool:=l==[82,69,84,85,82,78]||l==[70,82,69,84,85,82,78]
def ixP (xs:List ab) (l:List UInt8):Int:=ixF (fun s:ab=>s.fLabel==l) xs 0
def Iu (xs:List ab) (s:ab) (i:Nat):Bool:=s.fLabel==[]||(!(GN s.fLabel)&&ixP xs s.fLabel==(i:Int))
def vX (xs:List ab):List UInt8:=xs.flatMap fun s=>iy s++[10]
def Lh (xs:List ab):Bool:=xs.all fm&&B4 (Iu xs) xs 0
def DV (p:aq):Bool:=decide (p.fStatements.length<=80)&&Lh p.fStatements&&decide ((vX p.fStatements).length<=4000)
theorem sMk (s:ab):ab.mk s.fLabel s.fHasSubject s.fSubject s.fHasPattern s.fPattern s.fHasReplace s.fReplace s.fGoto=s:=rfl
theorem sM {y:ab} (hy:y.m<=1048576):y.fSubject.m<=1048576/\y.fPattern.m<=1048576/\y.fReplace.m<=1048576:=by
 have he:=y.m_eq
 omega
theorem oE (l:List UInt8):ku l=some (GN l):=by
 rw [vA];unfold GN
 cases l==[82,69,84,85,82,78]<;>simp
theorem xL (l:List UInt8):pg l=some (GN l):=by
 rw [xg];unfold GN
 cases l==[82,69,84,85,82,78]<;>simp
theorem tI {p:aq} (hp:p.fStatements.length<=80) {l:List UInt8} (hl:(l==[])=false):kJ p l=some (ixP p.fStatements l):=by
 rw [tn]
 refine CN (xs:=p.fStatements) (by omega) (J:=fun i=>cH l i p.fStatements) ?_ ?_
 ·intro i y hlt hy hi hw
  show cH l (i:Int) p.fStatements=_
  rw [gE,if_pos (by simpa [aj] using hlt),if_pos (by simp [hl]),hi]
  simp only [Option.bind_some,hw]
 ·show cH l _ p.fStatements=_
  rw [gE,if_neg (by simp [aj])]
theorem yJ {p:aq} (hp:p.fStatements.length<=80):kJ p []=some (-1):=by
 rw [tn]
 have:=CN (xs:=p.fStatements) (by omega) (p:=fun _=>false) (J:=fun i=>cH [] i p.fStatements) (by
  intro i y hlt hy hi hw
  show cH [] (i:Int) p.fStatements=_
  rw [gE,if_pos (by simpa [aj] using hlt),if_neg (by simp),hw]
  simp) (by
  show cH [] _ p.fStatements=_
  rw [gE,if_neg (by simp [aj])])
 refine Eq.trans this ?_
 have:∀ (l:List ab) (i:Nat),ixF (fun _=>false) l i = -1:=by
  intro l
  induction l with
  | nil=>intro i;rfl
  | cons a r ih=>intro i;simp [ixF,ih]
 rw [this]
theorem xM {p:aq} (hp:p.fStatements.length<=80) (l:List UInt8):f8 p l=some (ixP p.fStatements l):=by
 rw [nT,bV]
 have:=CN (xs:=p.fStatements) (by omega) (p:=fun s:ab=>s.fLabel==l) (J:=fun i=>ap p.fStatements l (len p.fStatements) i) (by
  intro i y hlt hy hi hw
  show ap p.fStatements l (len p.fStatements) (i:Int)=_
  rw [aR,if_pos (by simpa [aj] using hlt),hi]
  simp only [Option.bind_some,lw,hw]) (by
  show ap p.fStatements l (len p.fStatements) _=_
  rw [aR,if_neg (by simp [aj])])
 try simp only at this
 rw [this];rfl
theorem DW {α β:Type} {f:α->List β} {B:Nat}:∀ {l:List α},(∀ y∈l,(f y).length<=B)->(l.flatMap f).length<=l.length*B
 | [],_=>by simp
 | y:: r,h=>by
  have h1:=h y (by simp)
  have h2:=DW (l:=r) fun z hz=>h z (by simp [hz])
  simp only [List.flatMap_cons,List.length_append,List.length_cons,Nat.add_mul]
  omega
theorem BQ {xs:List ab} (hp:xs.length<=80) (hv:∀ y∈xs,lM y=true):(vX xs).length<=8000080:=by
 have:=DW (f:=fun s:ab=>iy s++[10]) (B:=100001) (l:=xs) fun y hy=>by
  have:=xJ (hv y hy)
  simp;omega
 have h2:xs.length*100001<=80*100001:=Nat.mul_le_mul_right _ hp
 unfold vX
 omega
theorem BR {p:aq} (hp:p.fStatements.length<=80) (hv:∀ y∈p.fStatements,lM y=true):wW p=some (vX p.fStatements):=by
 rw [Bz]
 have hl:=BQ hp hv
 have:=qj (xs:=p.fStatements) (by omega) (f:=fun s:ab=>iy s++[10]) (B:=8000080) (J:=fun i a=>jo a i p.fStatements) (by
  intro i y a hlt hy hi hw hb
  show jo a (i:Int) p.fStatements=_
  simp only [List.length_append,List.length_cons,List.length_nil] at hb
  rw [pA,if_pos (by simpa [aj] using hlt),hi]
  simp only [Option.bind_some]
  try simp only [ab.re_eq,aa.re_eq,aw.re_eq]
  rw [sMk,tH (hv y hy)]
  simp only [Option.bind_some]
  rw [av (by simp;omega)]
  simp only [Option.bind_some]
  rw [av (by simp;omega)]
  simp only [Option.bind_some,hw]) hl
 try simp only at this
 rw [this,pA,if_neg (by simp [aj])]
 rfl
theorem BS {p:aq} (hv:∀ y∈p.fStatements,lM y=true) (xs:List ab) (hxs:xs=p.fStatements):
  ∀ (i:Nat) (y:ab) (a:List UInt8),i<xs.length->y∈xs->idx xs (i:Int)=some y->w64 ((i:Int)+1)=((i+1:Nat):Int)->a.length+(iy y++[10]).length<=8000080 ->
   (bc xs (len xs) (i:Int) (a.map ib)=bc xs (len xs) ((i+1:Nat):Int) ((a++(iy y++[10])).map ib))/\(fM xs (len xs) (i:Int) (a.map ib)=bc xs (len xs) ((i+1:Nat):Int) ((a++(iy y++[10])).map ib)):=by
 intro i y a hlt hy hi hw hb
 subst hxs
 simp only [List.length_append,List.length_cons,List.length_nil] at hb
 have hc:decide ((i:Int)<len p.fStatements)=true:=by simpa [aj] using hlt
 constructor
 ·rw [eM,if_pos hc,hi]
  simp only [Option.bind_some]
  try simp only [ab.re_eq,aa.re_eq,aw.re_eq]
  rw [sMk,gN (hv y hy)]
  simp only [Option.bind_some]
  rw [av (by simp;omega)]
  simp only [Option.bind_some]
  rw [av (by simp;omega)]
  simp only [Option.bind_some,hw,List.map_append]
 ·rw [kc,if_pos hc,hi]
  simp only [Option.bind_some]
  try simp only [ab.re_eq,aa.re_eq,aw.re_eq]
  rw [sMk,gN (hv y hy)]
  simp only [Option.bind_some]
  rw [av (by simp;omega)]
  simp only [Option.bind_some]
  rw [av (by simp;omega)]
  simp only [Option.bind_some,hw,List.map_append]
theorem uH {p:aq} (hp:p.fStatements.length<=80) (hv:∀ y∈p.fStatements,lM y=true):mt p=some (vX p.fStatements):=by
 rw [t8]
 have hl:=BQ hp hv
 have st:=BS hv p.fStatements rfl
 have key:=qj (xs:=p.fStatements) (by omega) (f:=fun s:ab=>iy s++[10]) (B:=8000080) (J:=fun i a=>bc p.fStatements (len p.fStatements) i (a.map ib)) (fun i y a h1 h2 h3 h4 h5=>(st i y a h1 h2 h3 h4 h5).1) hl
 simp only [List.map_nil] at key
 have fin:bc p.fStatements (len p.fStatements) (p.fStatements.length:Int) ((p.fStatements.flatMap fun s=>iy s++[10]).map ib)=some (vX p.fStatements):=by
  rw [eM,if_neg (by simp [aj]),zk]
  rfl
 have same:fM p.fStatements (len p.fStatements) 0 []=bc p.fStatements (len p.fStatements) 0 []:=by
  rw [kc,eM]
 rw [same,key,fin]
def PB (p:aq):Prop:=p.fStatements.length<=1048576/\∀ y∈p.fStatements,y.fSubject.m<=1048576/\y.fPattern.m<=1048576/\y.fReplace.m<=1048576
theorem PB.of {p:aq} (hm:p.m<=1048576):PB p:=by
 have hq:=p.m_eq
 exact ⟨by omega,fun y hy=>sM (by have:=pb (m:=ab.m) hy;omega)⟩
theorem tJ {p:aq} (hb:PB p):mq p=some (DV p):=by
  have hq:=hb.1
  rw [tY]
  unfold DV
  by_cases hp:p.fStatements.length<=80
  · rw [if_neg (by simp [aj];omega)]
    have hkey:=GF (xs:=p.fStatements) (by omega) (c:=fun y i=>fm y&&Iu p.fStatements y i) (J:=fun i=>d5 i p.fStatements) (by
      intro i y hlt hy hi hw
      show d5 (i:Int) p.fStatements=_
      obtain ⟨h1,h2,h3⟩:=hb.2 y hy
      rw [jX,if_pos (by simpa [aj] using hlt),hi]
      simp only [Option.bind_some,qu,qv,hw]
      try simp only [ab.re_eq,aa.re_eq,aw.re_eq]
      rw [sMk,lj h1 h2 h3]
      simp only [Option.bind_some,oE]
      cases hsv:fm y
      · simp
      · unfold Iu
        cases hlab:(y.fLabel==[])
        · rw [tI (p:=aq.mk p.fStatements) hp hlab]
          cases GN y.fLabel<;>by_cases hix:ixP p.fStatements y.fLabel=(i:Int)<;>simp [hix]
        · have:y.fLabel=[]:=by simpa using hlab
          have hr:GN y.fLabel=false:=by rw [this];rfl
          simp [hr])
    try simp only at hkey
    rw [hkey,DR]
    show (if Lh p.fStatements=true then _ else _)=_
    cases hc:Lh p.fStatements
    · simp
    · have hv:∀ y∈p.fStatements,lM y=true:=fun y hy=>by
        unfold Lh at hc
        rw [Bool.and_eq_true] at hc
        exact xK (List.all_eq_true.mp hc.1 y hy)
      have ht:=BR (p:=aq.mk p.fStatements) hp hv
      simp only [if_true]
      rw [jX,if_neg (by simp [aj]),ht]
      simp [aj,hp]
      try omega
  · rw [if_pos (by simp [aj];omega)]
    simp [hp]
end Go.Dv.U

namespace Go.Dv
open Go
def spl (c:UInt8):List UInt8->List (List UInt8)
 | []=>[[]]
 | b:: l=>if b==c then []:: spl c l else match spl c l with
  | []=>[[b]]
  | x:: r=>(b:: x):: r
theorem zn (c:UInt8):∀ s,spl c s≠[]
 | []=>by simp [spl]
 | b:: l=>by
  simp only [spl]
  split
  ·simp
  ·split<;>simp
theorem BT (c:UInt8):∀ s:List UInt8,Lib.splitK [c] 0 (s.count c) s=spl c s
 | []=>by simp [Lib.splitK,spl]
 | b :: l=>by
  have ih:=BT c l
  by_cases h:b=c
  ·subst h
   have hix:Lib.index (b:: l) [b]=0:=by rw [Lib.index];simp [List.isPrefixOf]
   rw [List.count_cons_self,Lib.splitK,hix]
   simp [spl,ih]
  ·have hp:([c]:List UInt8).isPrefixOf (b:: l)=false:=by simp [List.isPrefixOf,Ne.symm h]
   have hix:Lib.index (b:: l) [c]=if Lib.index l [c] == -1 then -1 else Lib.index l [c]+1:=by rw [Lib.index,hp];simp
   rw [List.count_cons_of_ne (by simpa using h)]
   simp only [spl,beq_iff_eq,h,if_false]
   rw [<-ih]
   cases hk:l.count c with
   | zero=>simp [Lib.splitK]
   | succ k=>
    have hm:¬ Lib.index l [c] = -1:=by
     intro e
     have:=Lib.count_miss e
     rw [Lib.count_one,hk] at this
     omega
    have hge:=Lib.index_ge l [c]
    obtain ⟨j,hj⟩:∃ j:Nat,Lib.index l [c]=j:=⟨(Lib.index l [c]).toNat,by omega⟩
    have e1:(Lib.index l [c] == -1)=false:=by simpa using hm
    have e2:(Lib.index (b:: l) [c] == -1)=false:=by rw [hix,e1];simp;omega
    have e3:Lib.index (b:: l) [c]=((j+1:Nat):Int):=by rw [hix,e1,hj];simp
    have e4:((j:Int) == -1)=false:=by simp
    have e5:(((j+1:Nat):Int) == -1)=false:=by simp;omega
    simp only [Lib.splitK,e3,hj,e4,e5,Bool.false_eq_true,if_false,Int.toNat_natCast]
    simp
theorem GO {s:List UInt8} (h:s.length<4294967281) (c:UInt8):Bm s [c]=some (spl c s):=by
 unfold Bm
 rw [if_pos ⟨h,by simp⟩,Lib.split,Lib.count_one,BT]
end Go.Dv
namespace Go.Dv.U
open Go Go.Dv Go.Proofs
def lk (s:List UInt8):List UInt8:=if s.drop (s.length-1)=[10] then s.take (s.length-1) else s
theorem pW {s:List UInt8} (h:s.length<4294967281):fC s=some (if s==[] then [] else spl 10 (lk s)):=by
 rw [xh]
 by_cases hn:s=[]
 ·subst hn;rfl
 ·have hl:1<=s.length:=by cases s with | nil=>exact absurd rfl hn | cons _ _=>simp
  have e:w64 (len s-len ([10]:List UInt8))=((s.length-1:Nat):Int):=by
   rw [aW]<;>simp only [aj,List.length_singleton]<;>omega
  have et:hH s [10]=some (lk s):=by
   rw [pC,gT,ip]
   have g1:decide (len s>=len ([10]:List UInt8))=true:=by simp only [aj,List.length_singleton,decide_eq_true_eq];omega
   simp only [g1,if_true,e,Option.getD_none,Option.getD_some]
   rw [show len s=((s.length:Nat):Int) from aj s,iB (by omega) (by omega)]
   simp only [Option.bind_some,List.take_length]
   unfold lk
   by_cases c:s.drop (s.length-1)=[10]
   ·simp only [c,beq_self_eq_true,if_true]
    have:=iB (xs:=s) (a:=0) (b:=s.length-1) (by omega) (by omega)
    simp only [Int.natCast_zero] at this
    rw [this]
    simp
   ·have c':(s.drop (s.length-1)==[10])=false:=by simpa using c
    simp only [c',Bool.false_eq_true,if_false,c,Option.bind_some]
  have hs:(s==[])=false:=by simpa using hn
  simp only [hs,Bool.false_eq_true,if_false,et,Option.bind_some]
  rw [GO]
  ·rfl
  ·unfold lk;split
   ·simp only [List.length_take];omega
   ·exact h
end Go.Dv.U

namespace Go.Dv
open Go
def uI (cur:List UInt8):List (List UInt8)->List (List UInt8)
 | []=>[cur]
 | x:: r=>(cur++x):: r
theorem mg (c b:UInt8) (l:List UInt8):spl c (b:: l)=if b=c then []:: spl c l else uI [b] (spl c l):=by
 simp only [spl,beq_iff_eq]
 split
 ·rfl
 ·cases spl c l<;>rfl
theorem GP (a b:List UInt8) (L:List (List UInt8)):uI (a++b) L=uI a (uI b L):=by cases L<;>simp [uI]
theorem BU {L:List (List UInt8)} (h:L≠[]):uI [] L=L:=by cases L with | nil=>exact absurd rfl h | cons=>rfl
theorem DX (c:UInt8):∀ s:List UInt8,spl c (s++[c])=spl c s++[[]]
 | []=>by simp [spl]
 | b:: s=>by
  rw [List.cons_append,mg,mg,DX c s]
  split
  ·rfl
  ·have:=zn c s
   cases h:spl c s with
   | nil=>exact absurd h this
   | cons x r=>rfl
theorem DY (c:UInt8) {b:UInt8} (hb:b≠c):∀ s:List UInt8,∃ M x,spl c s=M++[x]/\spl c (s++[b])=M++[x++[b]]
 | []=>⟨[],[],rfl,by simp [spl,hb]⟩
 | a:: s=>by
  obtain ⟨M,x,h1,h2⟩:=DY c hb s
  rw [List.cons_append,mg,mg,h1,h2]
  split
  ·exact ⟨[]:: M,x,rfl,rfl⟩
  ·cases M with
   | nil=>exact ⟨[],a:: x,rfl,rfl⟩
   | cons m M=>exact ⟨(a:: m):: M,x,rfl,rfl⟩
theorem AC (c:UInt8):∀ (s:List UInt8),∀ p∈spl c s,∀ b∈p,b≠c/\b∈s
 | [],p,hp,b,hb=>by simp [spl] at hp;subst hp;cases hb
 | a :: s,p,hp,b,hb=>by
  rw [mg] at hp
  split at hp
  ·rcases List.mem_cons.1 hp with e | e
   ·subst e;cases hb
   ·have:=AC c s p e b hb;exact ⟨this.1,by simp [this.2]⟩
  ·rename_i hne
   cases hs:spl c s with
   | nil=>exact absurd hs (zn c s)
   | cons x r=>
    rw [hs] at hp
    simp only [uI,List.mem_cons] at hp
    rcases hp with e | e
    ·subst e
     rcases List.mem_append.1 hb with h | h
     ·have:b=a:=by simpa using h
      subst this;exact ⟨hne,by simp⟩
     ·have:=AC c s x (by rw [hs];simp) b h;exact ⟨this.1,by simp [this.2]⟩
    ·have:=AC c s p (by rw [hs];simp [e]) b hb;exact ⟨this.1,by simp [this.2]⟩
theorem GQ (c:UInt8):∀ s:List UInt8,(spl c s).length<=s.length+1
 | []=>by simp [spl]
 | b:: s=>by
  have:=GQ c s
  rw [mg]
  split
  ·simp;omega
  ·cases h:spl c s with
   | nil=>exact absurd h (zn c s)
   | cons x r=>rw [h] at this;simp [uI] at this ⊢;omega
theorem wm (c:UInt8):∀ s:List UInt8,∀ p∈spl c s,p.length<=s.length
 | [],p,hp=>by simp [spl] at hp;subst hp;simp
 | b:: s,p,hp=>by
  rw [mg] at hp
  split at hp
  ·rcases List.mem_cons.1 hp with e | e
   ·subst e;simp
   ·have:=wm c s p e;simp;omega
  ·cases hs:spl c s with
   | nil=>exact absurd hs (zn c s)
   | cons x r=>
    rw [hs] at hp
    simp only [uI,List.mem_cons] at hp
    rcases hp with e | e
    ·subst e;have:=wm c s x (by rw [hs];simp);simp;omega
    ·have:=wm c s p (by rw [hs];simp [e]);simp;omega
end Go.Dv
namespace Go.Dv.U
open Go Go.Dv Go.Proofs
def Iv (s:List UInt8):List UInt8:=s.filter fun b=>!(b==10)
theorem xN : ∀ s:List UInt8,hasB 10 s=false->Iv s=s:=by
 intro s h
 unfold Iv
 rw [List.filter_eq_self]
 intro b hb
 have:ib b≠10:=fun e=>by
  have:hasB 10 s=true:=List.any_eq_true.2 ⟨b,hb,by simpa using e⟩
  rw [h] at this;cases this
 simp only [Bool.not_eq_true',beq_eq_false_iff_ne,ne_eq]
 intro e;subst e;exact this (by decide)
theorem CT : ∀ (s:List UInt8),hasB 10 s=true->∃ a r,s=a++10:: r/\hasB 10 a=false
  | [],h=>by simp [hasB] at h
  | b :: s,h=>by
    by_cases hb:ib b=10
    · have:b=10:=qP.1 (hb.trans (by decide))
      subst this
      exact ⟨[],s,rfl,rfl⟩
    · have h2:hasB 10 s=true:=by
        simp only [hasB,List.any_cons,Bool.or_eq_true] at h
        rcases h with h | h
        · exact absurd (by simpa using h) hb
        · exact h
      obtain ⟨a,r,e,h3⟩:=CT s h2
      refine ⟨b:: a,r,by rw [e];rfl,?_⟩
      simp only [hasB,List.any_cons,Bool.or_eq_false_iff]
      exact ⟨by simpa using hb,h3⟩
theorem BV {s:List UInt8} (h:hasB 10 s=false):Lib.index s [10] = -1:=by
 have h1:=xC 10 s
 have e:ib 10=10:=by decide
 rw [e,h] at h1
 have:=Lib.index_ge s [10]
 simp only [decide_eq_false_iff_not] at h1
 omega
theorem vk {a r:List UInt8} (h:hasB 10 a=false):Lib.index (a++10:: r) [10]=(a.length:Int):=by
 refine Lib.index_first (by simp) ?_ ?_
 ·simp [Lib.occAt]
 ·intro j hj
  simp only [Lib.occAt]
  rw [List.drop_append_of_le_length (by omega),List.drop_eq_getElem_cons hj]
  simp only [List.cons_append,List.isPrefixOf,Bool.and_true]
  rw [beq_eq_false_iff_ne]
  intro e
  have:hasB 10 a=true:=by
   simp only [hasB,List.any_eq_true]
   exact ⟨a[j],List.getElem_mem hj,by rw [<-e];decide⟩
  rw [h] at this;cases this
theorem zo : ∀ (k:Nat) (s:List UInt8),Lib.count s [10]<=k->Lib.replaceK [10] [] k s=Iv s
 | 0,s,h=>by
  cases hb:hasB 10 s with
  | false=>rw [xN s hb];rfl
  | true=>
   obtain ⟨a,r,rfl,h3⟩:=CT s hb
   have:=Lib.count_hit (sub:=[10]) (by simp) (vk (r:=r) h3)
   omega
 | k+1,s,h=>by
  cases hb:hasB 10 s with
  | false=>rw [xN s hb,Lib.replaceK,BV hb];rfl
  | true=>
   obtain ⟨a,r,rfl,h3⟩:=CT s hb
   have hi:=vk (r:=r) h3
   have hc:=Lib.count_hit (sub:=[10]) (by simp) hi
   rw [Lib.replaceK_hit _ _ _ _ _ hi]
   have e1:(a++10:: r).take a.length=a:=by simp
   have e2:(a++10:: r).drop (a.length+([10]:List UInt8).length)=r:=by simp [List.drop_append]
   rw [e2] at hc
   rw [e1,e2,zo k r (by omega)]
   have e3:Iv a=a:=xN a h3
   unfold Iv at e3 ⊢
   rw [List.filter_append,e3]
   simp
theorem BW (s:List UInt8):Lib.replaceAll s [10] []=Iv s:=by
 unfold Lib.replaceAll Lib.replace
 rw [if_neg (by decide)]
 exact zo _ s (by unfold Lib.replaceNum;rw [if_pos (by left;decide)];exact Nat.le_refl _)
def cv (s:List UInt8):List (List UInt8):=if s=[] then [] else spl 10 (lk s)
theorem zp {s:List UInt8} (h:s.length<4294967281):fC s=some (cv s):=by
 rw [pW h]
 congr 1
 unfold cv
 by_cases e:s=[]<;>simp [e]
theorem CU {s:List UInt8} (h:s.length<=1000000):zZ s 10=some (spl 10 s):=by
  rw [CM]
  have key:=bz (xs:=s) (by omega) (P:=fun i l=>∀ (f:Nat) (o:List (List UInt8)),f<=i->i<=s.length->o.length<=i->s.drop i=l->kV s 10 (f:Int) (i:Int) o=some (o++uI ((s.take i).drop f) (spl 10 l))) (by
    intro f o hf _ ho _
    rw [qX]
    have hc:decide ((s.length:Int)<len s)=false:=by simp [aj]
    simp only [hc,Bool.false_eq_true,if_false,Option.getD_none]
    rw [show len s=((s.length:Nat):Int) from aj s,iB (by omega) (by omega)]
    simp only [Option.bind_some]
    rw [av (by simp;omega)]
    simp [spl,uI]) (by
    intro i y l hd hlt hy hi hw ih f o hf hle ho _
    have hd2:s.drop (i+1)=l:=by
      have:=List.drop_eq_getElem_cons hlt
      rw [hd] at this
      exact (List.cons.inj this).2.symm
    have hy2:s[i]=y:=by
      have:=List.drop_eq_getElem_cons hlt
      rw [hd] at this
      exact (List.cons.inj this).1.symm
    rw [qX]
    have hc:decide ((i:Int)<len s)=true:=by simp [aj,hlt]
    simp only [hc,if_true,hi,Option.bind_some,Option.getD_some,hw]
    rw [mg]
    by_cases h10:y=10
    · subst h10
      have e:(ib 10==(10:Int))=true:=by decide
      simp only [e,if_true]
      rw [iB (by omega) (by omega)]
      simp only [Option.bind_some]
      rw [av (by simp;omega)]
      simp only [Option.bind_some]
      rw [ih (i+1) _ (Nat.le_refl _) (by omega) (by simp;omega) hd2]
      have e2:(s.take (i+1)).drop (i+1)=[]:=by simp
      rw [e2,BU (zn 10 l)]
      simp [uI]
    · have e:(ib y==(10:Int))=false:=by
        rw [beq_eq_false_iff_ne];intro e;exact h10 (qP.1 (e.trans (by decide)))
      simp only [e,Bool.false_eq_true,if_false,h10]
      rw [ih f o (by omega) (by omega) (by omega) hd2]
      have e2:(s.take (i+1)).drop f=(s.take i).drop f++[y]:=by
        rw [List.take_succ_eq_append_getElem hlt,hy2,List.drop_append_of_le_length (by simp;omega)]
      rw [e2,GP]) 0 [] (by omega) (by omega) (by simp) (by simp)
  have e0:uI [] (spl 10 s)=spl 10 s:=BU (zn 10 s)
  simpa [e0] using key
theorem CV (s:List UInt8):lk (s++[10])=s:=by
 unfold lk
 have e:(s++[10]).length-1=s.length:=by simp
 rw [e]
 simp
theorem BX (s:List UInt8):cv (s++[10])=spl 10 s:=by
 unfold cv
 rw [if_neg (by simp),CV]
theorem AD {s:List UInt8} {b:UInt8} (hb:b≠10):cv (s++[b])=spl 10 (s++[b]):=by
 unfold cv lk
 rw [if_neg (by simp)]
 have e:(s++[b]).length-1=s.length:=by simp
 rw [e,if_neg]
 simp only [List.drop_left,List.cons.injEq,and_true]
 exact hb
theorem EV (s:List UInt8):s=[]\/∃ t b,s=t++[b]:=by
 cases h:s.reverse with
 | nil=>left;simpa using h
 | cons b t=>right;exact ⟨t.reverse,b,by rw [<-List.reverse_reverse s,h];simp⟩
theorem pX {s:List UInt8} (h:s.length<=1000000):lV s=some (cv s):=by
 rw [xp,CU h]
 simp only [Option.bind_some]
 have hl:=GQ 10 s
 have main:∀ (M:List (List UInt8)) (x:List UInt8),spl 10 s=M++[x]->((idx (spl 10 s) (w64 (len (spl 10 s)-1))).bind fun y199=>if (y199==[])=true then (cut (spl 10 s) 0 (Option.getD (some (w64 (len (spl 10 s)-1))) (len (spl 10 s)))).bind fun y197=>some y197 else some (spl 10 s))=some (if x=[] then M else M++[x]):=by
  intro M x e
  rw [e] at hl ⊢
  simp only [List.length_append,List.length_singleton] at hl
  have e1:w64 (len (M++[x])-1)=((M.length:Nat):Int):=by rw [aj,aW (by first | (simp;done) | (simp;omega)) (by first | (simp;done) | (simp;omega))];simp
  rw [e1,ce]
  simp only [List.getElem?_append_right (Nat.le_refl _),Nat.sub_self,List.getElem?_cons_zero,Option.bind_some,Option.getD_some]
  by_cases hx:x=[]
  ·subst hx
   have:=iB (xs:=M++[[]]) (a:=0) (b:=M.length) (by omega) (by simp)
   simp only [Int.natCast_zero] at this
   simp [this]
  ·have:(x==[])=false:=by simpa using hx
   simp [this,hx]
 rcases EV s with rfl | ⟨t,b,rfl⟩
 ·have:=main [] [] rfl
  rw [this];rfl
 ·by_cases hb:b=10
  ·subst hb
   rw [main (spl 10 t) [] (DX 10 t),BX]
   simp
  ·obtain ⟨M,x,h1,h2⟩:=DY 10 hb t
   rw [main M (x++[b]) h2,AD hb,h2]
   simp
def Hv (s:List UInt8):Bool:=decide (s.length<=4000)&&s.all (Hu true)&&decide ((cv s).length<=120)
theorem vY {s:List UInt8} (h:s.length<=1000000):nP s=some (Hv s):=by
 rw [vL,s_l01Printable_ok' (by omega),pX h]
 simp only [Option.bind_some,Hv,aj]
 by_cases c1:s.length<=4000
 ·have:decide ((s.length:Int)<=4000)=true:=by simp;omega
  cases h2:s.all (Hu true)<;>simp [this,c1,h2]
  constructor<;>(intro;omega)
 ·have:decide ((s.length:Int)<=4000)=false:=by simp;omega
  simp [this,c1]
theorem vZ {s:List UInt8} (h:s.length<=1000000):nH s=some (Hv s):=by
  rw [vB]
  unfold Hv
  by_cases c1:s.length<=4000
  · have e1:decide (len s<=4000)=true:=by simp [aj];omega
    have e2:eV (Iv s)=s.all (Hu true):=by
      unfold eV Iv
      rw [List.all_filter]
      congr 1
      funext b
      simp only [Hu,Bool.true_and,Bool.not_not]
      by_cases hb:b=10
      · subst hb;decide
      · have q:(ib b==(10:Int))=false:=by
          rw [beq_eq_false_iff_ne];intro e;exact hb (qP.1 (e.trans (by decide)))
        have q2:(b==10)=false:=by simpa using hb
        simp [q,q2]
    have hn:(Iv s).length<=s.length:=List.length_filter_le _ _
    simp only [e1,if_true]
    unfold wh
    rw [if_pos ⟨by omega,by decide,by decide⟩,BW]
    simp only [Option.bind_some]
    rw [gF (by omega),e2]
    simp only [Option.bind_some]
    rw [zp (by omega)]
    simp only [Option.bind_some,aj,c1,decide_true,Bool.true_and]
    cases s.all (Hu true)<;>simp
    constructor<;>(intro;omega)
  · have e1:decide (len s<=4000)=false:=by simp [aj];omega
    simp [e1,c1]
def gy (s:List UInt8):Bool:=s.all fun b=>b==32
def KG (s:List UInt8):Bool:=match s with | []=>false | b:: _=>b==42
def Kd (s:List UInt8):Bool:=match s with | []=>false | b:: _=>b==43
theorem kI {α:Type} (p:α->Bool):∀ l:List α,l.dropWhile p=[]↔l.all p=true
 | []=>by simp
 | x:: l=>by
  rw [List.dropWhile_cons]
  cases h:p x<;>simp [h,kI p l]
theorem q7 {α:Type} (p:α->Bool):∀ (l:List α) {x:α} {r:List α},l.dropWhile p=x:: r->p x=false
 | [],x,r,h=>by simp at h
 | y:: l,x,r,h=>by
  rw [List.dropWhile_cons] at h
  cases hy:p y with
  | true=>rw [hy] at h;exact q7 p l (by simpa using h)
  | false=>rw [hy] at h;simp at h;rw [<-h.1];exact hy
theorem EW (s:List UInt8):(Lib.trimB s 32==[])=gy s:=by
 unfold Lib.trimB Lib.trimLeftB Lib.trimRightB gy
 rw [Bool.eq_iff_iff,beq_iff_eq,kI]
 constructor
 ·intro h
  cases hd:s.reverse.dropWhile (·==(32:UInt8)) with
  | nil=>
   have:=(kI _ _).1 hd
   rwa [List.all_reverse] at this
  | cons x r=>
   have h1:=q7 _ _ hd
   rw [hd] at h
   have:=List.all_eq_true.1 h x (by simp)
   rw [h1] at this;cases this
 ·intro h
  have:s.reverse.dropWhile (·==(32:UInt8))=[]:=(kI _ _).2 (by rw [List.all_reverse];exact h)
  rw [this];rfl
theorem oF {s:List UInt8} (h:s.length<=1000000):kz s=some (gy s):=by
 rw [vJ]
 unfold Ig
 simp only
 rw [if_pos ⟨by decide,by omega⟩]
 simp only [Option.bind_some,EW]
theorem oG {s:List UInt8} (h:s.length<=1000000):kC s=some (gy s):=by
  rw [vP]
  refine bz (xs:=s) (by omega) (P:=fun i l=>gA s i=some (gy l)) ?_ ?_
  · rw [k8];simp [aj,gy]
  · intro i y l _ hlt hy hi hw ih
    rw [k8,hi,if_pos (by simp [aj,hlt])]
    simp only [Option.bind_some,hw,ih]
    by_cases hb:y=32
    · subst hb
      have:(ib 32 !=(32:Int))=false:=by decide
      simp [this,gy]
    · have:(ib y !=(32:Int))=true:=by
        rw [bne_iff_ne];intro e;exact hb (qP.1 (e.trans (by decide)))
      simp [this,gy,hb]
theorem yK (s:List UInt8):rM s=some (KG s):=by
 rw [yy]
 cases s with
 | nil=>rfl
 | cons b r=>
  have e:((b:: r)==([]:List UInt8))=false:=rfl
  simp only [e,Bool.not_false,if_true,jf,List.getElem?_cons_zero,Option.bind_some,KG]
  congr 1
  rw [Bool.eq_iff_iff,beq_iff_eq,beq_iff_eq]
  exact ⟨fun h=>qP.1 (h.trans (by decide)),fun h=>by subst h;decide⟩
theorem sK (s:List UInt8):jN s=some (Kd s):=by
 rw [rZ]
 cases s with
 | nil=>rfl
 | cons b r=>
  have e:((b:: r)==([]:List UInt8))=false:=rfl
  simp only [e,Bool.not_false,if_true,jf,List.getElem?_cons_zero,Option.bind_some,Kd]
  congr 1
  rw [Bool.eq_iff_iff,beq_iff_eq,beq_iff_eq]
  exact ⟨fun h=>qP.1 (h.trans (by decide)),fun h=>by subst h;decide⟩
theorem ov (s:List UInt8) (c:UInt8):dl s [c]=some (match s with | []=>false | b:: _=>b==c):=by
 rw [qt,dQ]
 cases s with
 | nil=>rfl
 | cons b r=>
  have e:decide (len (b:: r)>=len [c])=true:=by simp [aj];omega
  have:=iB (xs:=b:: r) (a:=0) (b:=1) (by omega) (by simp)
  simp only [Int.natCast_zero,Int.natCast_one] at this
  rw [if_pos e]
  simp only [Option.getD_some,show len [c]=(1:Int) from rfl,this,Option.bind_some]
  congr 1
  simp
theorem yL (s:List UInt8):rL s=some (KG s):=by
 rw [yu,ov];rfl
theorem sL (s:List UInt8):jL s=some (Kd s):=by
 rw [rX,ov];rfl
end Go.Dv.U

namespace Go.Dv.U
open Go Go.Dv Go.Proofs
def KH (a:List aO) (t:List UInt8):List aO:=match a[a.length-1]? with
 | some y=>a.set (a.length-1) ⟨y.fNumber,y.fText++([32]++t.drop 1)⟩
 | none=>a
def cmb : List (List UInt8)->Nat->List aO->List aO×Int
 | [],_,a=>(a,0)
 | t:: r,i,a=>if (gy t||KG t)=true then cmb r (i+1) a
  else if Kd t=true then (if a=[] then ([],((i+1:Nat):Int)) else cmb r (i+1) (KH a t))
  else cmb r (i+1) (a++[⟨((i+1:Nat):Int),t⟩])
def BdL (i:Nat) (a:List aO):Prop:=a.length<=i/\∀ y∈a,y.fText.length<=5000*(i+1)
theorem BdL.mono {i:Nat} {a:List aO} (h:BdL i a):BdL (i+1) a:=⟨by have:=h.1;omega,fun y hy=>by have:=h.2 y hy;omega⟩
theorem BdL.app {i:Nat} {a:List aO} (h:BdL i a) {n:Int} {t:List UInt8} (ht:t.length<=4000):BdL (i+1) (a++[⟨n,t⟩]):=by
 refine ⟨by have:=h.1;simp;omega,fun y hy=>?_⟩
 rcases List.mem_append.1 hy with e | e
 ·have:=h.2 y e;omega
 ·have:y=⟨n,t⟩:=by simpa using e
  subst this;simp;omega
theorem BdL.ext {i:Nat} {a:List aO} (h:BdL i a) {t:List UInt8} (ht:t.length<=4000):BdL (i+1) (KH a t):=by
 unfold KH
 cases hq:a[a.length-1]? with
 | none=>exact h.mono
 | some y=>
  have hy:=h.2 y (List.mem_of_getElem? hq)
  refine ⟨by have:=h.1;simp;omega,fun z hz=>?_⟩
  rcases List.mem_or_eq_of_mem_set hz with e | e
  ·have:=h.2 z e;omega
  ·subst e;simp;omega
theorem I9 : ∀ (l:List (List UInt8)) (i:Nat) (a:List aO),(∀ t∈l,t.length<=4000)->BdL i a->BdL (i+l.length) (cmb l i a).1
 | [],i,a,_,h=>h
 | t:: r,i,a,ht,h=>by
  have hr:=I9 r (i+1)
  have e:i+(t:: r).length=i+1+r.length:=by simp;omega
  rw [e]
  have ht0:=ht t (by simp)
  have htr:∀ t∈r,t.length<=4000:=fun x hx=>ht x (by simp [hx])
  simp only [cmb]
  split
  ·exact hr a htr h.mono
  ·split
   ·split
    ·exact ⟨by simp,fun y hy=>by cases hy⟩
    ·exact hr _ htr (h.ext ht0)
   ·exact hr _ htr (h.app ht0)
theorem DZ {a:List aO} {t:List UInt8} {i:Nat} (hi:i<=1000) (h:BdL i a) (ha:a≠[]) (ht:t.length<=4000) (h1:1<=t.length) {β:Type} (k:List aO->Option β):
  ((idx a (w64 (len a-1))).bind fun _=>(a[Int.toNat (w64 (len a-1))]?).bind fun y190=>(cut t 1 (len t)).bind fun y189=>(app [32] y189).bind fun y188=>(app y190.fText y188).bind fun y187=>(idx a (w64 (len a-1))).bind fun _=>(a[Int.toNat (w64 (len a-1))]?).bind fun y185=>k (upd a (Int.toNat (w64 (len a-1))) (aO.mk y185.fNumber y187)))=k (KH a t):=by
 have hl:1<=a.length:=by cases a with | nil=>exact absurd rfl ha | cons=>simp
 have hla:=h.1
 have e1:w64 (len a-1)=((a.length-1:Nat):Int):=by rw [aj,aW (by omega) (by omega)];omega
 have hlt:a.length-1<a.length:=by omega
 have e2:=iB (xs:=t) (a:=1) (b:=t.length) h1 (Nat.le_refl _)
 rw [List.take_length] at e2
 simp only [Int.natCast_one] at e2
 have hy:=h.2 _ (List.getElem_mem hlt)
 rw [e1]
 simp only [ce,Int.toNat_natCast,List.getElem?_eq_getElem hlt,Option.bind_some,show len t=((t.length:Nat):Int) from aj t,e2]
 rw [av (by simp;omega)]
 simp only [Option.bind_some]
 rw [av (by simp;omega)]
 simp only [Option.bind_some,zh,KH,List.getElem?_eq_getElem hlt]
theorem GR {t:List UInt8} (h:Kd t=true):1<=t.length:=by cases t with | nil=>cases h | cons=>simp
theorem BY {s:List UInt8} (hs:s.length<=4000) (hc:(cv s).length<=200) (ht:∀ t∈cv s,t.length<=4000):wX s=some (cmb (cv s) 0 []):=by
  rw [BA,zp (by omega)]
  simp only [Option.bind_some]
  generalize cv s=ls at hc ht
  refine bz (xs:=ls) (by omega) (P:=fun i l=>(∀ t∈l,t.length<=4000)->i<=ls.length->∀ a,BdL i a->jp ls (len ls) (i:Int) a=some (cmb l i a)) ?_ ?_ ht (by omega) [] ⟨by simp,fun y hy=>by cases hy⟩
  · intro _ _ a _
    rw [pB]
    simp [aj,cmb]
  · intro i t l _ hlt hy hi hw ih htl hle a hb
    have ht0:=htl t (by simp)
    have ih:=ih (fun x hx=>htl x (by simp [hx])) (by omega)
    rw [pB]
    have hc:decide ((i:Int)<len ls)=true:=by simp [aj,hlt]
    rw [if_pos hc,hi]
    simp only [Option.bind_some,oF (s:=t) (by omega),yL,sL,vK,hw,Option.getD_none,cmb]
    cases h1:gy t with
    | true=>simp only [if_true,Bool.true_or];exact ih a hb.mono
    | false =>
      simp only [Bool.false_eq_true,if_false,Bool.false_or]
      cases h2:KG t with
      | true=>simp only [if_true];exact ih a hb.mono
      | false =>
        simp only [Bool.false_eq_true,if_false]
        cases h3:Kd t with
        | false=>
          simp only [Bool.not_false,if_true,Bool.false_eq_true,if_false]
          rw [av (by have:=hb.1;simp;omega)]
          simp only [Option.bind_some]
          exact ih _ (hb.app ht0)
        | true=>
          simp only [Bool.not_true,Bool.false_eq_true,if_false,if_true]
          by_cases ha:a=[]
          · subst ha
            simp [aj]
          · have e:(len a==0)=false:=by
              rw [beq_eq_false_iff_ne,aj];intro e
              exact ha (List.eq_nil_of_length_eq_zero (by omega))
            simp only [e,Bool.false_eq_true,if_false,ha]
            rw [DZ (i:=i) (by omega) hb ha ht0 (GR h3) (fun u=>jp ls (len ls) ((i+1:Nat):Int) u)]
            exact ih _ (hb.ext ht0)
theorem Ke {ls:List (List UInt8)} (hc:ls.length<=200) (ht:∀ t∈ls,t.length<=4000):dp ls 0 []=if 0<(cmb ls 0 []).2 then some ([],(cmb ls 0 []).2,2) else a6 0 (cmb ls 0 []).1 []:=by
  refine bz (xs:=ls) (by omega) (P:=fun i l=>(∀ t∈l,t.length<=4000)->i<=ls.length->∀ a,BdL i a->dp ls (i:Int) a=if 0<(cmb l i a).2 then some ([],(cmb l i a).2,2) else a6 0 (cmb l i a).1 []) ?_ ?_ ht (by omega) [] ⟨by simp,fun y hy=>by cases hy⟩
  · intro _ _ a _
    rw [kh]
    simp [aj,cmb]
  · intro i t l _ hlt hy hi hw ih htl hle a hb
    have ht0:=htl t (by simp)
    have ih:=ih (fun x hx=>htl x (by simp [hx])) (by omega)
    rw [kh]
    have hc:decide ((i:Int)<len ls)=true:=by simp [aj,hlt]
    rw [if_pos hc,hi]
    simp only [Option.bind_some,oG (s:=t) (by omega),yK,sK,qC,hw,Option.getD_none]
    by_cases h1:gy t=true
    · rw [if_pos h1,show cmb (t:: l) i a=cmb l (i+1) a by simp [cmb,h1]];exact ih a hb.mono
    · rw [if_neg h1]
      by_cases h2:KG t=true
      · rw [if_pos h2,show cmb (t:: l) i a=cmb l (i+1) a by simp [cmb,h2]];exact ih a hb.mono
      · rw [if_neg h2]
        by_cases h3:Kd t=true
        · rw [if_pos h3]
          by_cases ha:a=[]
          · subst ha
            have e:(len ([]:List aO)==0)=true:=rfl
            have p:(0:Int)<((i+1:Nat):Int):=by omega
            rw [show cmb (t:: l) i []=([],((i+1:Nat):Int)) by simp [cmb,h1,h2,h3]]
            rw [if_pos e,if_pos p]
          · have e:(len a==0)=false:=by
              rw [beq_eq_false_iff_ne,aj];intro e
              exact ha (List.eq_nil_of_length_eq_zero (by omega))
            rw [if_neg (by rw [e];simp),show cmb (t:: l) i a=cmb l (i+1) (KH a t) by simp [cmb,h1,h2,h3,ha]]
            rw [DZ (i:=i) (by omega) hb ha ht0 (GR h3) (fun u=>dp ls ((i+1:Nat):Int) u)]
            exact ih _ (hb.ext ht0)
        · rw [if_neg h3,show cmb (t:: l) i a=cmb l (i+1) (a++[⟨((i+1:Nat):Int),t⟩]) by simp [cmb,h1,h2,h3]]
          rw [av (by have:=hb.1;simp;omega)]
          simp only [Option.bind_some]
          exact ih _ (hb.app ht0)
def sst : Int->List UInt8->List UInt8->List (List UInt8)
 | _,cur,[]=>[cur]
 | q,cur,b:: r=>if q≠0 then sst (if ib b=q then 0 else q) (cur++[b]) r
  else if ib b=39 then sst 39 (cur++[b]) r else if ib b=34 then sst 34 (cur++[b]) r
  else if ib b=59 then cur:: sst 0 [] r else sst 0 (cur++[b]) r
theorem AE : ∀ (l:List UInt8) (q:Int) (cur:List UInt8),(sst q cur l).length<=l.length+1
 | [],q,cur=>by simp [sst]
 | b :: r,q,cur=>by
  have h:=AE r
  simp only [sst,List.length_cons]
  split
  ·have:=h (if ib b=q then 0 else q) (cur++[b]);omega
  ·split
   ·have:=h 39 (cur++[b]);omega
   ·split
    ·have:=h 34 (cur++[b]);omega
    ·split
     ·have:=h 0 [];simp;omega
     ·have:=h 0 (cur++[b]);omega
theorem zq {s:List UInt8} (hs:s.length<=1000000):iY s=some (sst 0 [] s)/\i8 s=some (sst 0 [] s):=by
  rw [qw,qF]
  have key:=bz (xs:=s) (by omega) (P:=fun i l=>s.drop i=l->i<=s.length->∀ (q:Int) (f:Nat) (o:List (List UInt8)),f<=i->o.length<=i ->
      cZ s (f:Int) q (len s) (i:Int) o=some (o++sst q ((s.take i).drop f) l)/\da s (f:Int) q (i:Int) o=some (o++sst q ((s.take i).drop f) l)) (by
    intro _ _ q f o hf ho
    rw [io,iq]
    have hc:decide ((s.length:Int)<len s)=false:=by simp [aj]
    simp only [hc,Bool.false_eq_true,if_false,Option.getD_none]
    rw [show len s=((s.length:Nat):Int) from aj s,iB (by omega) (by omega)]
    simp only [Option.bind_some]
    rw [av (by simp;omega)]
    exact ⟨rfl,rfl⟩) (by
    intro i y l hd hlt hy hi hw ih _ hle q f o hf ho
    have hd2:s.drop (i+1)=l:=by
      have:=List.drop_eq_getElem_cons hlt
      rw [hd] at this
      exact (List.cons.inj this).2.symm
    have hy2:s[i]=y:=by
      have:=List.drop_eq_getElem_cons hlt
      rw [hd] at this
      exact (List.cons.inj this).1.symm
    have ih:=ih hd2 (by omega)
    have e2:(s.take (i+1)).drop f=(s.take i).drop f++[y]:=by
      rw [List.take_succ_eq_append_getElem hlt,hy2,List.drop_append_of_le_length (by simp;omega)]
    have go:∀ q',cZ s (f:Int) q' (len s) ((i+1:Nat):Int) o=some (o++sst q' ((s.take i).drop f++[y]) l)/\da s (f:Int) q' ((i+1:Nat):Int) o=some (o++sst q' ((s.take i).drop f++[y]) l):=fun q'=>by
      rw [<-e2];exact ih q' f o (by omega) (by omega)
    rw [io,iq]
    have hc:decide ((i:Int)<len s)=true:=by simp [aj,hlt]
    simp only [hc,if_true,hi,Option.bind_some,nk,oa,hw,Option.getD_some,sst]
    by_cases hq:q=0
    · subst hq
      simp only [bne_self_eq_false,Bool.false_eq_true,if_false,ne_eq,not_true_eq_false]
      by_cases h1:ib y=39
      · simp only [h1,beq_self_eq_true,if_true];exact go 39
      · have h1':(ib y==(39:Int))=false:=by simpa using h1
        simp only [h1',h1,Bool.false_eq_true,if_false]
        by_cases h2:ib y=34
        · simp only [h2,beq_self_eq_true,if_true];exact go 34
        · have h2':(ib y==(34:Int))=false:=by simpa using h2
          simp only [h2',h2,Bool.false_eq_true,if_false]
          by_cases h3:ib y=59
          · simp only [h3,beq_self_eq_true,if_true]
            rw [iB (by omega) (by omega)]
            simp only [Option.bind_some]
            rw [av (by simp;omega)]
            simp only [Option.bind_some]
            have:=ih 0 (i+1) (o++[(s.take i).drop f]) (Nat.le_refl _) (by simp;omega)
            have e3:(s.take (i+1)).drop (i+1)=[]:=by simp
            rw [e3] at this
            rw [this.1,this.2]
            simp
          · have h3':(ib y==(59:Int))=false:=by simpa using h3
            simp only [h3',h3,Bool.false_eq_true,if_false]
            exact go 0
    · have hq':(q !=0)=true:=by simpa using hq
      simp only [hq',if_true,ne_eq,hq,not_false_eq_true]
      by_cases h1:ib y=q
      · simp only [h1,beq_self_eq_true,if_true];exact go 0
      · have:(ib y==q)=false:=by simpa using h1
        simp only [this,h1,Bool.false_eq_true,if_false];exact go q) (by simp) (by omega) 0 0 [] (by omega) (by simp)
  simpa using key
def lgF (y:aO):List aO:=(sst 0 [] y.fText).flatMap fun p=>if gy p=true then [] else [⟨y.fNumber,p⟩]
theorem AF {α β:Type} {f:α->List β} {B:Nat}:∀ {l:List α},(∀ y∈l,(f y).length<=B)->(l.flatMap f).length<=l.length*B
 | [],_=>by simp
 | y:: l,h=>by
  have h1:=h y (by simp)
  have h2:=AF (l:=l) fun z hz=>h z (by simp [hz])
  rw [List.flatMap_cons,List.length_append,List.length_cons,Nat.succ_mul];omega
theorem GS (y:aO):(lgF y).length<=y.fText.length+1:=by
 have h1:=AF (f:=fun p=>if gy p=true then ([]:List aO) else [⟨y.fNumber,p⟩]) (B:=1) (l:=sst 0 [] y.fText) (fun p _=>by split<;>simp)
 have h2:=AE y.fText 0 []
 unfold lgF;omega
theorem GU {c:List aO} (hb:BdL 150 c) (hp:∀ y∈c,∀ p∈sst 0 [] y.fText,p.length<=1000000):bQ c (len c) 0 []=some (c.flatMap lgF,0,0)/\a6 0 c []=some (c.flatMap lgF,0,0):=by
  have hlen:=AF (f:=lgF) (B:=755001) (l:=c) (fun y hy=>by have:=GS y;have:=hb.2 y hy;omega)
  have hcl:=hb.1
  have hB:(c.flatMap lgF).length<=68719476736:=by
    refine Nat.le_trans hlen ?_
    have:c.length*755001<=150*755001:=Nat.mul_le_mul_right _ hcl
    omega
  constructor
  · have:=qj (xs:=c) (by omega) (f:=lgF) (J:=fun i a=>bQ c (len c) i a) (B:=68719476736) (by
      intro i y a hlt hy hi hw hbd
      show bQ _ _ _ _=bQ _ _ _ _
      rw [ke]
      have hc:decide ((i:Int)<len c)=true:=by simp [aj,hlt]
      have hty:=hb.2 y hy
      rw [if_pos hc,hi]
      simp only [Option.bind_some,(zq (s:=y.fText) (by omega)).1]
      have hpp:=hp y hy
      have hsl:=AE y.fText 0 []
      have e:lgF y=(sst 0 [] y.fText).flatMap fun p=>if gy p=true then [] else [⟨y.fNumber,p⟩]:=rfl
      rw [e] at hbd ⊢
      generalize sst 0 [] y.fText=ps at hpp hsl hbd
      refine bz (xs:=ps) (by omega) (P:=fun j l=>(∀ p∈l,p.length<=1000000)->∀ a:List aO,a.length+(l.flatMap fun p=>if gy p=true then ([]:List aO) else [⟨y.fNumber,p⟩]).length<=68719476736->dM c (len c) (i:Int) ps (len ps) (j:Int) a y.fNumber y.fText=bQ c (len c) ((i+1:Nat):Int) (a++l.flatMap fun p=>if gy p=true then [] else [⟨y.fNumber,p⟩])) ?_ ?_ hpp a hbd
      · intro _ a _
        rw [jy]
        simp [aj,hw]
      · intro j p l _ hlt2 hy2 hi2 hw2 ih hl a ha
        rw [jy]
        have hc2:decide ((j:Int)<len ps)=true:=by simp [aj,hlt2]
        rw [if_pos hc2,hi2]
        have hp0:=hl p (by simp)
        rw [List.flatMap_cons] at ha ⊢
        simp only [Option.bind_some,oF hp0,hw2]
        cases hbp:gy p with
        | true=>
          simp only [hbp,if_true,List.nil_append] at ha
          simp only [Bool.not_true,Bool.false_eq_true,if_false,if_true,List.nil_append]
          exact ih (fun x hx=>hl x (by simp [hx])) a ha
        | false=>
          simp only [hbp,Bool.false_eq_true,if_false,List.length_append,List.length_singleton] at ha
          simp only [Bool.not_false,if_true,Bool.false_eq_true,if_false]
          rw [av (by simp;omega)]
          simp only [Option.bind_some]
          rw [ih (fun x hx=>hl x (by simp [hx])) _ (by simp only [List.length_append,List.length_singleton];omega)]
          simp) hB
    rw [show bQ c (len c) 0 []=_ from this,ke]
    simp [aj]
  · have:=qj (xs:=c) (by omega) (f:=lgF) (J:=fun i a=>a6 i c a) (B:=68719476736) (by
      intro i y a hlt hy hi hw hbd
      show a6 _ _ _=a6 _ _ _
      rw [jz]
      have hc:decide ((i:Int)<len c)=true:=by simp [aj,hlt]
      have hty:=hb.2 y hy
      have hg:c[i]?=some y:=by rw [<-ce];exact hi
      rw [if_pos hc,hi]
      simp only [Option.bind_some,Int.toNat_natCast,hg,(zq (s:=y.fText) (by omega)).2]
      have hpp:=hp y hy
      have hsl:=AE y.fText 0 []
      have e:lgF y=(sst 0 [] y.fText).flatMap fun p=>if gy p=true then [] else [⟨y.fNumber,p⟩]:=rfl
      rw [e] at hbd ⊢
      generalize sst 0 [] y.fText=ps at hpp hsl hbd
      refine bz (xs:=ps) (by omega) (P:=fun j l=>(∀ p∈l,p.length<=1000000)->∀ a:List aO,a.length+(l.flatMap fun p=>if gy p=true then ([]:List aO) else [⟨y.fNumber,p⟩]).length<=68719476736->dO (i:Int) ps (j:Int) c a=a6 ((i+1:Nat):Int) c (a++l.flatMap fun p=>if gy p=true then [] else [⟨y.fNumber,p⟩])) ?_ ?_ hpp a hbd
      · intro _ a _
        rw [jA]
        simp [aj,hw]
      · intro j p l _ hlt2 hy2 hi2 hw2 ih hl a ha
        rw [jA]
        have hc2:decide ((j:Int)<len ps)=true:=by simp [aj,hlt2]
        rw [if_pos hc2,hi2]
        have hp0:=hl p (by simp)
        rw [List.flatMap_cons] at ha ⊢
        simp only [Option.bind_some,oG hp0,hw2,hi,Int.toNat_natCast,hg]
        cases hbp:gy p with
        | true=>
          simp only [hbp,if_true,List.nil_append] at ha
          simp only [Bool.not_true,Bool.false_eq_true,if_false,if_true,List.nil_append]
          exact ih (fun x hx=>hl x (by simp [hx])) a ha
        | false=>
          simp only [hbp,Bool.false_eq_true,if_false,List.length_append,List.length_singleton] at ha
          simp only [Bool.not_false,if_true,Bool.false_eq_true,if_false]
          rw [av (by simp;omega)]
          simp only [Option.bind_some]
          rw [ih (fun x hx=>hl x (by simp [hx])) _ (by simp only [List.length_append,List.length_singleton];omega)]
          simp) hB
    rw [show a6 0 c []=_ from this,jz]
    simp [aj]
end Go.Dv.U

namespace Go.Dv.U
open Go Go.Dv Go.Proofs
theorem D0 : ∀ (l:List UInt8) (q:Int) (cur:List UInt8),∀ p∈sst q cur l,p.length<=cur.length+l.length
 | [],q,cur,p,hp=>by simp [sst] at hp;subst hp;simp
 | b :: r,q,cur,p,hp=>by
  have h:=D0 r
  have e:(cur++[b]).length=cur.length+1:=by simp
  simp only [sst] at hp
  simp only [List.length_cons]
  split at hp
  ·have:=h _ _ p hp;omega
  ·split at hp
   ·have:=h _ _ p hp;omega
   ·split at hp
    ·have:=h _ _ p hp;omega
    ·split at hp
     ·rcases List.mem_cons.1 hp with e | e
      ·subst e;omega
      ·have:=h _ _ p e;simp at this;omega
     ·have:=h _ _ p hp;omega
theorem EX (s:List UInt8):(∀ b∈lk s,b∈s)/\(lk s).length<=s.length:=by
 unfold lk
 split
 ·exact ⟨fun b hb=>List.mem_of_mem_take hb,by first | (simp;done) | (simp;omega)⟩
 ·exact ⟨fun b hb=>hb,Nat.le_refl _⟩
theorem uJ {s:List UInt8} (h:Hv s=true):s.length<=4000/\(cv s).length<=120/\(∀ t∈cv s,t.length<=4000)/\∀ t∈cv s,eV t=true:=by
 unfold Hv at h
 simp only [Bool.and_eq_true,decide_eq_true_eq] at h
 obtain ⟨⟨h1,h2⟩,h3⟩:=h
 have ht:=EX s
 refine ⟨h1,h3,fun t htm=>?_,fun t htm=>?_⟩
 ·unfold cv at htm
  split at htm
  ·cases htm
  ·have:=wm 10 (lk s) t htm;omega
 ·unfold cv at htm
  split at htm
  ·cases htm
  ·refine List.all_eq_true.2 fun b hb=>?_
   obtain ⟨g1,g2⟩:=AC 10 (lk s) t htm b hb
   have:=List.all_eq_true.1 h2 b (ht.1 b g2)
   simp only [Hu,Bool.true_and,Bool.or_eq_true] at this
   rcases this with g | g
   ·exact g
   ·exact absurd (qP.1 ((by simpa using g:ib b=10).trans (by decide))) g1
def LL (s:List UInt8):List aO×Int×Int:=if Hv s=true then (if 0<(cmb (cv s) 0 []).2 then ([],(cmb (cv s) 0 []).2,2) else ((cmb (cv s) 0 []).1.flatMap lgF,0,0)) else ([],0,1)
theorem Kf {s:List UInt8} (h:Hv s=true):BdL 150 (cmb (cv s) 0 []).1/\∀ y∈(cmb (cv s) 0 []).1,∀ p∈sst 0 [] y.fText,p.length<=1000000:=by
 obtain ⟨_,h2,h3,_⟩:=uJ h
 have hb:=I9 (cv s) 0 [] h3 ⟨by simp,fun y hy=>by cases hy⟩
 have hb2:BdL 150 (cmb (cv s) 0 []).1:=⟨by have:=hb.1;omega,fun y hy=>by have:=hb.2 y hy;omega⟩
 exact ⟨hb2,fun y hy p hp=>by have:=D0 _ _ _ p hp;have:=hb2.2 y hy;simp at *;omega⟩
theorem uK {s:List UInt8} (h:s.length<=1000000):mu s=some (LL s):=by
 rw [ua,vZ h]
 simp only [Option.bind_some]
 unfold LL
 by_cases hv:Hv s=true
 ·obtain ⟨h1,h2,h3,_⟩:=uJ hv
  obtain ⟨b1,b2⟩:=Kf hv
  simp only [hv,Bool.not_true,Bool.false_eq_true,if_false,if_true]
  rw [BY h1 (by omega) h3]
  simp only [Option.bind_some]
  by_cases c:0<(cmb (cv s) 0 []).2
  ·rw [if_pos (by simpa using c),if_pos c]
  ·rw [if_neg (by simpa using c),if_neg c]
   exact (GU b1 b2).1
 ·simp [hv]
theorem uL {s:List UInt8} (h:s.length<=1000000):mz s=some (LL s):=by
 rw [ui,vY h]
 simp only [Option.bind_some]
 unfold LL
 by_cases hv:Hv s=true
 ·obtain ⟨h1,h2,h3,_⟩:=uJ hv
  obtain ⟨b1,b2⟩:=Kf hv
  simp only [hv,Bool.not_true,Bool.false_eq_true,if_false,if_true]
  rw [pX h]
  simp only [Option.bind_some]
  rw [Ke (by omega) h3]
  by_cases c:0<(cmb (cv s) 0 []).2
  ·rw [if_pos c,if_pos c]
  ·rw [if_neg c,if_neg c]
   exact (GU b1 b2).2
 ·simp [hv]
end Go.Dv.U

namespace Go.Dv.U
open Go Go.Dv Go.Proofs
def ox (t:ac):Bool:=t.fKind==4&&t.fBefore&&t.fAfter
def nv (s:List UInt8):Bool:=s==[45]||s==[42]||s==[36]||s==[46]||s==[64]
def Kg (t:ac):Bool:=t.fBefore&&(t.fKind==1||t.fKind==2||t.fKind==3||t.fKind==5||(t.fKind==4&&!t.fAfter&&nv t.fText))
def opK (n:Nat) (s:List UInt8):Int:=if n=1/\s=[124] then 6 else if n=3/\s=[43] then 8 else if n=3/\s=[45] then 9 else if n=4/\s=[42] then 10 else if n=4/\s=[47] then 11 else if n=5/\s=[46] then 12 else if n=5/\s=[36] then 13 else 0
def inf (n:Nat):List ac->Option (Int×List ac)
 | []=>none
 | t:: r=>if n=2 then (if Kg t=true then some (7,t:: r) else none) else if ox t=true/\opK n t.fText≠0 then some (opK n t.fText,r) else none
inductive Md | ex (n:Nat) | lp (n:Nat) (l:aa) | el | pr | ix (e:aa) | ar (acc:List aa)
def aX (k:Int):List ac->Option (List ac)
 | []=>none
 | t:: r=>if t.fKind=k then some r else none
def dR : List ac->Option (List UInt8×List ac)
 | []=>none
 | t:: r=>if t.fKind=1 then some (t.fText,r) else none
def Iw (s:List UInt8):Int:=if s=[46] then 16 else if s=[42] then 17 else 18
def pP : Nat->Md->List ac->Option (aa×List ac)
  | 0,_,_=>none
  | f+1,.ex n,ts=>if 6<=n then pP f .el ts else (pP f (.ex (n+1)) ts).bind fun p=>pP f (.lp n p.1) p.2
  | f + 1,.lp n l,ts=>match inf n ts with
    | none=>some (l,ts)
    | some (k,r)=>if n=5 then (dR r).bind fun p=>pP f (.lp n ⟨k,0,[],[l,⟨3,0,p.1,[]⟩]⟩) p.2
      else (pP f (.ex (n+1)) r).bind fun p=>pP f (.lp n ⟨k,0,[],[l,p.1]⟩) p.2
  | _+1,.el,[]=>none
  | f + 1,.el,t:: r=>if t.fKind=4 then (if t.fAfter=true then none else if t.fText=[45] then (pP f .el r).map fun p=>(⟨14,0,[],[p.1]⟩,p.2) else if t.fText=[36] then (pP f .el r).map fun p=>(⟨15,0,[],[p.1]⟩,p.2)
      else if nv t.fText=true then (dR r).map fun p=>(⟨Iw t.fText,0,p.1,[]⟩,p.2) else none)
    else (pP f .pr (t:: r)).bind fun p=>pP f (.ix p.1) p.2
  | _+1,.ix e,[]=>some (e,[])
  | f+1,.ix e,t:: r=>if t.fKind=7/\t.fBefore=false then (pP f (.ex 1) r).bind fun p=>(aX 8 p.2).bind fun r2=>pP f (.ix ⟨5,0,[],[e,p.1]⟩) r2 else some (e,t:: r)
  | _+1,.pr,[]=>none
  | f + 1,.pr,t:: r=>if t.fKind=3 then some (⟨1,0,t.fText,[]⟩,r) else if t.fKind=2 then some (⟨2,t.fNum,[],[]⟩,r)
    else if t.fKind=1 then (match t.fAfter,aX 5 r with
      | false,some r2=>match aX 6 r2 with
        | some r3=>some (⟨4,0,t.fText,[]⟩,r3)
        | none=>(pP f (.ar []) r2).map fun p=>(⟨4,0,t.fText,p.1.fKids⟩,p.2)
      | _,_=>some (⟨3,0,t.fText,[]⟩,r))
    else if t.fKind=5 then (pP f (.ex 1) r).bind fun p=>(aX 6 p.2).map fun r2=>(p.1,r2)
    else none
  | f+1,.ar acc,ts=>(pP f (.ex 1) ts).bind fun p=>match aX 9 p.2 with
    | some r=>pP f (.ar (acc++[p.1])) r
    | none=>(aX 6 p.2).map fun r=>(⟨0,0,[],acc++[p.1]⟩,r)
def PR (md:Md) (ts:List ac) (res:aa×List ac):Prop:=∃ f,∀ g,f<=g->pP g md ts=some res
theorem PR.mk3 {md m1 m2:Md} {ts t1 t2:List ac} {res p q:aa×List ac} (h1:PR m1 t1 p) (h2:PR m2 t2 q) (h:∀ f,pP f m1 t1=some p->pP f m2 t2=some q->pP (f+1) md ts=some res):PR md ts res:=by
 obtain ⟨f1,h1⟩:=h1
 obtain ⟨f2,h2⟩:=h2
 exact ⟨f1+f2+1,fun g hg=>by obtain ⟨f,rfl⟩:∃ f,g=f+1:=⟨g-1,by omega⟩;exact h f (h1 f (by omega)) (h2 f (by omega))⟩
theorem PR.go {n:Nat} (hn:n≠5) {k:Int} {ts r r2:List ac} {l y:aa} {res:aa×List ac} (h:inf n ts=some (k,r)) (h1:PR (.ex (n+1)) r (y,r2)) (h2:PR (.lp n ⟨k,0,[],[l,y]⟩) r2 res):PR (.lp n l) ts res:=
 PR.mk3 h1 h2 fun f e1 e2=>by rw [pP,h];simp only;rw [if_neg hn,e1];exact e2
theorem PR.el {t:ac} {r r2:List ac} {y:aa} {res:aa×List ac} (hk:t.fKind≠4) (h1:PR .pr (t:: r) (y,r2)) (h2:PR (.ix y) r2 res):PR .el (t:: r) res:=
 PR.mk3 h1 h2 fun f e1 e2=>by rw [pP,if_neg hk,e1];exact e2
end Go.Dv.U

namespace Go.Dv.U
open Go Go.Dv Go.Proofs
def Md.w : Md->Nat
 | .lp _ _=>0
 | .ix _=>0
 | _=>1
theorem AG {n:Nat} {ts r:List ac} {k:Int} (h:inf n ts=some (k,r)):r.length<=ts.length:=by
 cases ts with
 | nil=>cases h
 | cons t q=>
  simp only [inf] at h
  split at h
  ·split at h
   ·cases h;exact Nat.le_refl _
   ·cases h
  ·split at h
   ·cases h;simp
   ·cases h
theorem dI {k:Int} {ts r:List ac} (h:aX k ts=some r):ts.length=r.length+1:=by
 cases ts with
 | nil=>cases h
 | cons t q=>
  simp only [aX] at h
  split at h
  ·cases h;rfl
  ·cases h
theorem qn {ts r:List ac} {s:List UInt8} (h:dR ts=some (s,r)):ts.length=r.length+1:=by
 cases ts with
 | nil=>cases h
 | cons t q=>
  simp only [dR] at h
  split at h
  ·cases h;rfl
  ·cases h
theorem GV : ∀ (f:Nat) (md:Md) (ts:List ac) (e:aa) (r:List ac),pP f md ts=some (e,r)->r.length+md.w<=ts.length:=by
 intro f
 induction f with
 | zero=>intro md ts e r h;cases h
 | succ f ih=>
  intro md ts e r h
  have bnd:∀ {α:Type} {o:Option α} {g:α->Option (aa×List ac)},o.bind g=some (e,r)->∃ a,o=some a/\g a=some (e,r):=fun h=>Option.bind_eq_some_iff.1 h
  cases md with
  | ex n=>
   rw [pP] at h
   split at h
   ·exact ih .el ts e r h
   ·obtain ⟨⟨l,q⟩,h1,h2⟩:=bnd h
    have:=ih _ _ _ _ h1
    have:=ih _ _ _ _ h2
    simp only [Md.w] at *;omega
  | lp n l=>
   rw [pP] at h
   split at h
   ·cases h;exact Nat.le_refl _
   ·rename_i k q hi
    have hl:=AG hi
    split at h
    ·obtain ⟨⟨s,q2⟩,h1,h2⟩:=bnd h
     have:=qn h1
     have:=ih _ _ _ _ h2
     simp only [Md.w] at *;omega
    ·obtain ⟨⟨y,q2⟩,h1,h2⟩:=bnd h
     have:=ih _ _ _ _ h1
     have:=ih _ _ _ _ h2
     simp only [Md.w] at *;omega
  | el=>
   cases ts with
   | nil=>cases h
   | cons t q=>
    rw [pP] at h
    split at h
    ·split at h
     ·cases h
     split at h
     ·obtain ⟨⟨y,q2⟩,h1,h2⟩:=Option.map_eq_some_iff.1 h
      have:=ih _ _ _ _ h1
      cases h2
      simp only [Md.w,List.length_cons] at *;omega
     split at h
     ·obtain ⟨⟨y,q2⟩,h1,h2⟩:=Option.map_eq_some_iff.1 h
      have:=ih _ _ _ _ h1
      cases h2
      simp only [Md.w,List.length_cons] at *;omega
     split at h
     ·obtain ⟨⟨y,q2⟩,h1,h2⟩:=Option.map_eq_some_iff.1 h
      have:=qn h1
      cases h2
      simp only [Md.w,List.length_cons] at *;omega
     ·cases h
    ·obtain ⟨⟨y,q2⟩,h1,h2⟩:=bnd h
     have:=ih _ _ _ _ h1
     have:=ih _ _ _ _ h2
     simp only [Md.w,List.length_cons] at *;omega
  | pr =>
   cases ts with
   | nil=>cases h
   | cons t q=>
    rw [pP] at h
    split at h
    ·cases h;simp [Md.w]
    split at h
    ·cases h;simp [Md.w]
    split at h
    ·split at h
     ·rename_i r2 _ h5
      have l5:=dI h5
      split at h
      ·rename_i r3 h6
       have l6:=dI h6
       cases h
       simp only [Md.w,List.length_cons] at *;omega
      ·obtain ⟨⟨y,q2⟩,h1,h2⟩:=Option.map_eq_some_iff.1 h
       have:=ih _ _ _ _ h1
       cases h2
       simp only [Md.w,List.length_cons] at *;omega
     ·cases h;simp [Md.w]
    split at h
    ·obtain ⟨⟨y,q2⟩,h1,h2⟩:=bnd h
     obtain ⟨q3,h3,h4⟩:=Option.map_eq_some_iff.1 h2
     have:=ih _ _ _ _ h1
     have:=dI h3
     cases h4
     simp only [Md.w,List.length_cons] at *;omega
    ·cases h
  | ix x=>
   cases ts with
   | nil=>cases h;exact Nat.le_refl _
   | cons t q=>
    rw [pP] at h
    split at h
    ·obtain ⟨⟨y,q2⟩,h1,h2⟩:=bnd h
     obtain ⟨q3,h3,h4⟩:=bnd h2
     have:=ih _ _ _ _ h1
     have:=dI h3
     have:=ih _ _ _ _ h4
     simp only [Md.w,List.length_cons] at *;omega
    ·cases h;exact Nat.le_refl _
  | ar acc=>
   rw [pP] at h
   obtain ⟨⟨y,q2⟩,h1,h2⟩:=bnd h
   have:=ih _ _ _ _ h1
   split at h2
   ·rename_i q3 h3
    have:=dI h3
    have:=ih _ _ _ _ h2
    simp only [Md.w] at *;omega
   ·obtain ⟨q3,h3,h4⟩:=Option.map_eq_some_iff.1 h2
    have:=dI h3
    cases h4
    simp only [Md.w] at *;omega
def Md.rk : Md->Nat
 | .ex n=>10-min n 6
 | .lp _ _=>12
 | .el=>3
 | .pr=>2
 | .ix _=>1
 | .ar _=>12
def Md.need (md:Md) (ts:List ac):Nat:=16*ts.length+md.rk
end Go.Dv.U

namespace Go.Dv.U
open Go Go.Dv Go.Proofs
def jS (ts:List ac):Option (List UInt8×List ac):=(aX 5 ts).bind fun r=>(dR r).bind fun p=>(aX 6 p.2).map fun r2=>(p.1,r2)
def pTg : Nat->List UInt8->List UInt8->Bool->List ac->Option (aw×List ac)
 | 0,_,_,_,_=>none
 | f+1,s,x,ok,ts=>match dR ts with
  | none=>if ok=true then some (⟨[],s,x⟩,ts) else none
  | some (w,r)=>if w=[83]/\s=[] then (jS r).bind fun p=>pTg f p.1 x true p.2 else if w=[70]/\x=[] then (jS r).bind fun p=>pTg f s p.1 true p.2 else none
def pGo (f:Nat) (ts:List ac):Option (aw×List ac):=match aX 5 ts with
 | some _=>(jS ts).map fun p=>(⟨p.1,[],[]⟩,p.2)
 | none=>pTg f [] [] false ts
def pY : List ac->Option (List ac)
 | []=>none
 | t:: r=>if ox t=true/\t.fText=[61] then some r else none
def mh : List ac->Bool
 | []=>true
 | t:: _=>t.fKind==10
theorem GW {s:List UInt8} (h:b6 s=true):s≠[]:=by rintro rfl;simp [b6] at h
end Go.Dv.U

namespace Go.Dv.U
open Go Go.Dv Go.Proofs
theorem Ix {x:List UInt8} (h:(fp x).2.2=0):eV x=true/\x.length<=4000/\Sc true x (fp x).1:=by
 unfold fp at h ⊢
 by_cases hc:x.length<=4000/\eV x=true
 ·rw [if_pos hc] at h ⊢
  obtain ⟨L,h1,h2⟩:=wl x.length x true [] 0 (jb x.length x true [] 0).1 (jb x.length x true [] 0).2.1 (Nat.le_refl _) (by rw [<-h])
  rw [h2]
  exact ⟨hc.2,hc.1,h1⟩
 ·rw [if_neg hc] at h;cases h
end Go.Dv.U

namespace Go.Dv.U
open Go Go.Dv Go.Proofs
def bx (T:List ac) (a:Nat):(List ac×Int×Unit)×Unit:=((T,(a:Int),()),())
def jH : aa:=⟨0,0,[],[]⟩
theorem fT {T:List ac} {a:Nat} (h:a<=T.length):(a=T.length/\T.drop a=[])\/∃ t,a<T.length/\idx T (a:Int)=some t/\T.drop a=t:: T.drop (a+1)/\t∈T:=by
 by_cases e:a=T.length
 ·exact .inl ⟨e,by rw [e,List.drop_length]⟩
 ·have hlt:a<T.length:=by omega
  exact .inr ⟨T[a],hlt,by rw [ce,List.getElem?_eq_getElem hlt],List.drop_eq_getElem_cons hlt,List.getElem_mem hlt⟩
theorem yM {T:List ac} {a:Nat} (hT:T.length<=1000) (h:a<T.length):w64 ((a:Int)+1)=((a+1:Nat):Int):=by rw [aW (by omega) (by omega)];omega
theorem xO {T:List ac} {a:Nat} (h:a<=T.length) (k:Int):dj T a k=some (aX k (T.drop a)).isSome:=by
 rw [xl]
 rcases fT h with ⟨rfl,e⟩ | ⟨t,hlt,hi,e,_⟩
 ·rw [if_neg (by simp [aj]),e];rfl
 ·rw [if_pos (by simp [aj];omega),hi,e]
  simp only [Option.bind_some,aX]
  by_cases hk:t.fKind=k<;>simp [hk]
theorem mM {T:List ac} {a:Nat} (hT:T.length<=1000) (h:a<=T.length) (k:Int):
  (aX k (T.drop a)=some (T.drop (a+1))/\a<T.length/\ba k T a=some (true,bx T (a+1)))\/(aX k (T.drop a)=none/\ba k T a=some (false,bx T a)):=by
 rw [vG,xO h]
 rcases fT h with ⟨rfl,e⟩ | ⟨t,hlt,hi,e,_⟩
 ·rw [e];exact .inr ⟨rfl,rfl⟩
 ·rw [e]
  by_cases hk:t.fKind=k
  ·refine .inl ⟨by simp [aX,hk],hlt,?_⟩
   simp [aX,hk,yM hT hlt,bx]
  ·exact .inr ⟨by simp [aX,hk],by simp [aX,hk,bx]⟩
theorem AH {T:List ac} {a:Nat} (hT:T.length<=1000) (h:a<=T.length):
    (∃ s,dR (T.drop a)=some (s,T.drop (a+1))/\a<T.length/\dc T a=some ((s,true),bx T (a+1)))\/(dR (T.drop a)=none/\dc T a=some (([],false),bx T a)):=by
  rw [vO]
  rcases mM hT h 1 with ⟨e1,hlt,e3⟩ | ⟨e1,e3⟩
  · rcases fT h with ⟨e,_⟩ | ⟨t,_,hi,e,_⟩
    · omega
    rw [e] at e1
    have hk:t.fKind=1:=by
      simp only [aX] at e1
      split at e1
      · assumption
      · cases e1
    refine .inl ⟨t.fText,by rw [e];simp [dR,hk],hlt,?_⟩
    rw [e3]
    have w:w64 (((a+1:Nat):Int)-1)=(a:Int):=by rw [aW (by omega) (by omega)];omega
    simp only [Option.bind_some,bx,Bool.not_true,Bool.false_eq_true,if_false,w,hi]
  · have hn:dR (T.drop a)=none:=by
      rcases fT h with ⟨_,e⟩ | ⟨t,_,_,e,_⟩
      · rw [e];rfl
      · rw [e] at e1 ⊢
        simp only [aX] at e1
        split at e1
        · cases e1
        · rename_i hk;simp [dR,hk]
    exact .inr ⟨hn,by rw [e3];simp [bx]⟩
theorem Li {t:ac} (ht:tOk t) (h:t.fKind=4):∃ b,t.fText=[b]:=by
 rcases ht.2 with h1 | h1 | h1 | h1 | h1
 ·omega
 ·omega
 ·omega
 ·exact ⟨_,h1.2.2.choose_spec.1⟩
 ·omega
theorem GX {T:List ac} {a:Nat} {t:ac} (hi:idx T (a:Int)=some t) (ht:tOk t):fe T a=some (Kg t):=by
 rw [mH,hi]
 simp only [Option.bind_some,kF,kG]
 unfold Kg
 by_cases k1:t.fKind=1
 ·simp [k1]
 by_cases k2:t.fKind=2
 ·simp [k2]
 by_cases k3:t.fKind=3
 ·simp [k3]
 by_cases k5:t.fKind=5
 ·simp [k5]
 by_cases k4:t.fKind=4
 ·obtain ⟨b,hb⟩:=Li ht k4
  have f:∀ b:UInt8,hasB (ib b) [45,42,36,46,64]=nv [b]:=jE (by decide +kernel)
  rw [hb,kH (by decide),f]
  cases hB:t.fBefore<;>cases hA:t.fAfter<;>simp [k4]
 ·simp [k1,k2,k3,k4,k5]
theorem zr {t:ac} (ht:tOk t):th t=some (ox t):=by
 rw [BJ,DT ht]
 simp only [Option.bind_some,if_true,ox]
 cases t.fBefore<;>by_cases h:t.fKind=4<;>simp [h]
theorem Kh {T:List ac} {a:Nat} (hT:T.length<=1000) (hlt:a<T.length) {t:ac} (ht:tOk t) {n:Nat} (h5:n<=5) (hn:n≠2):
  ∀ (m j:Nat),j+m=14->6<=j->dq n j T a t.fKind t.fNum t.fText t.fBefore t.fAfter =
   if ox t=true then (match ((List.range 14).drop j).find? fun (k:Nat)=>k !=7&&a8 k==(n:Int)&&(t.fText==yF k) with | some k=>some (((k:Int),true),bx T (a+1)) | none=>some ((0,false),bx T a)) else some ((0,false),bx T a):=by
 intro m
 induction m with
 | zero=>
  intro j hj h6
  have:j=14:=by omega
  subst this
  rw [km,if_neg (by simp)]
  have:((List.range 14).drop 14)=[]:=rfl
  rw [this]
  split<;>rfl
 | succ m ih=>
  intro j hj h6
  have hj13:j<=13:=by omega
  have w:w64 ((j:Int)+1)=((j+1:Nat):Int):=by rw [aW (by omega) (by omega)];omega
  have hd:(List.range 14).drop j=j:: (List.range 14).drop (j+1):=by
   rw [List.drop_eq_getElem_cons (by simp;omega)];simp
  have ih':=ih (j+1) (by omega) (by omega)
  rw [km,if_pos (by simp;omega)]
  have hl8:dt n j T a t.fKind t.fNum t.fText t.fBefore t.fAfter=dq n ((j+1:Nat):Int) T a t.fKind t.fNum t.fText t.fBefore t.fAfter:=by
   rw [qH,w]
  rw [hl8,ih',hd,List.find?_cons,uF]
  have he:ac.mk t.fKind t.fNum t.fText t.fBefore t.fAfter=t:=by cases t;rfl
  rw [he,zr ht,eN (by omega) (by omega)]
  simp only [Option.bind_some,pJ,yM hT hlt]
  have hz:(((j:Int) !=7)=(j !=7)):=by
   rw [Bool.eq_iff_iff];simp;omega
  rw [hz]
  cases ox t with
  | false=>
   simp only [Bool.false_eq_true,if_false]
   split<;>(try split)<;>rfl
  | true=>
   simp only [if_true]
   cases (j !=7) with
   | false=>simp
   | true=>
    simp only [if_true,Bool.true_and]
    cases he2:(a8 (j:Int)==(n:Int)) with
    | false=>simp
    | true=>
     simp only [if_true,Bool.true_and]
     cases (t.fText==yF (j:Int)) with
     | false=>simp
     | true=>simp [bx]
theorem Iy {n:Nat} (h1:1<=n) (h5:n<=5) (hn:n≠2) (s:List UInt8):(((List.range 14).drop 6).find? fun (k:Nat)=>k !=7&&a8 k==(n:Int)&&(s==yF k)).map (fun k:Nat=>(k:Int))=if opK n s=0 then none else some (opK n s):=by
 have e:(List.range 14).drop 6=[6,7,8,9,10,11,12,13]:=rfl
 rw [e]
 have:n=1\/n=3\/n=4\/n=5:=by omega
 rcases this with rfl | rfl | rfl | rfl
 ·cases h:(s==[124])<;>simp [a8,yF,opK,List.find?,h]<;>simp_all
 ·cases h:(s==[43])<;>cases h2:(s==[45])<;>simp [a8,yF,opK,List.find?,h,h2]<;>simp_all
 ·cases h:(s==[42])<;>cases h2:(s==[47])<;>simp [a8,yF,opK,List.find?,h,h2]<;>simp_all
 ·cases h:(s==[46])<;>cases h2:(s==[36])<;>simp [a8,yF,opK,List.find?,h,h2]<;>simp_all
theorem Iz {T:List ac} {a:Nat} (hT:T.length<=1000) (hok:∀ t∈T,tOk t) (h:a<=T.length) {n:Nat} (h1:1<=n) (h5:n<=5):
  (∃ k a',inf n (T.drop a)=some (k,T.drop a')/\a'<=T.length/\gk n T a=some ((k,true),bx T a'))\/(inf n (T.drop a)=none/\∃ k,gk n T a=some ((k,false),bx T a)):=by
 rw [uA]
 rcases fT h with ⟨e0,e⟩ | ⟨t,hlt,hi,e,hm⟩
 ·rw [e,if_pos (by simp [aj,e0])]
  exact .inr ⟨rfl,0,rfl⟩
 ·have ht:=hok t hm
  rw [if_neg (by simp [aj];omega),hi]
  simp only [Option.bind_some]
  by_cases h2:n=2
  ·subst h2
   rw [if_pos (by decide),GX hi ht]
   cases hb:Kg t with
   | true=>exact .inl ⟨7,a,by rw [e];simp [inf,hb],h,rfl⟩
   | false=>exact .inr ⟨by rw [e];simp [inf,hb],7,rfl⟩
  ·rw [if_neg (by simp;omega)]
   have hL:=Kh hT hlt ht h5 h2 8 6 rfl (by omega)
   have hL:dq n 6 T a t.fKind t.fNum t.fText t.fBefore t.fAfter=_:=hL
   rw [hL]
   have hf:=Iy h1 h5 h2 t.fText
   cases hI:ox t with
   | false=>exact .inr ⟨by rw [e];simp [inf,h2,hI],0,by simp⟩
   | true=>
    rw [if_pos rfl]
    by_cases hz:opK n t.fText=0
    ·rw [if_pos hz,Option.map_eq_none_iff] at hf
     rw [hf]
     exact .inr ⟨by rw [e];simp [inf,h2,hI,hz],0,rfl⟩
    ·rw [if_neg hz,Option.map_eq_some_iff] at hf
     obtain ⟨k,hk,hk2⟩:=hf
     rw [hk]
     exact .inl ⟨opK n t.fText,a+1,by rw [e];simp [inf,h2,hI,hz],by omega,by rw [<-hk2]⟩
end Go.Dv.U

namespace Go.Dv.U
open Go Go.Dv Go.Proofs
theorem qJ (k n:Int) (t:List UInt8) (ks:List aa):(aa.mk k n t ks).m=t.length+(ks.length+aS aa.m ks):=aa.m_eq _
theorem GY (l:List aa) (e:aa):aS aa.m (l++[e])=aS aa.m l+e.m:=by
 induction l with
 | nil=>simp [aS]
 | cons y r ih=>simp only [List.cons_append,aS,ih];omega
def Md.m0 : Md->Nat
 | .lp _ l=>l.m+10
 | .ix e=>e.m+10
 | .ar acc=>acc.length+aS aa.m acc
 | _=>0
def Md.mR : Md->aa->Nat
 | .ar _,x=>x.m
 | _,x=>x.m+10
theorem GZ {n:Nat} {ts r:List ac} {k:Int} (h:inf n ts=some (k,r)):∀ t∈r,t∈ts:=by
 cases ts with
 | nil=>cases h
 | cons t q=>
  simp only [inf] at h
  split at h
  ·split at h
   ·cases h;exact fun t h=>h
   ·cases h
  ·split at h
   ·cases h;exact fun t h=>List.mem_cons_of_mem _ h
   ·cases h
theorem cQ {k:Int} {ts r:List ac} (h:aX k ts=some r):∀ t∈r,t∈ts:=by
 cases ts with
 | nil=>cases h
 | cons t q=>
  simp only [aX] at h
  split at h
  ·cases h;exact fun t h=>List.mem_cons_of_mem _ h
  ·cases h
theorem kL {ts r:List ac} {s:List UInt8} (h:dR ts=some (s,r)):(∀ t∈r,t∈ts)/\∃ t∈ts,s=t.fText:=by
 cases ts with
 | nil=>cases h
 | cons t q=>
  simp only [dR] at h
  split at h
  ·cases h;exact ⟨fun t h=>List.mem_cons_of_mem _ h,t,by simp,rfl⟩
  ·cases h
theorem Ki : ∀ (f:Nat) (md:Md) (ts:List ac) (x:aa) (r:List ac),pP f md ts=some (x,r)->(∀ t∈ts,t.fText.length<=200)->(∀ t∈r,t∈ts)/\md.mR x+600*r.length<=md.m0+600*ts.length:=by
 intro f
 induction f with
 | zero=>intro md ts x r h;cases h
 | succ f ih=>
  intro md ts x r h ht
  have bnd:∀ {α:Type} {o:Option α} {g:α->Option (aa×List ac)},o.bind g=some (x,r)->∃ a,o=some a/\g a=some (x,r):=fun h=>Option.bind_eq_some_iff.1 h
  cases md with
  | ex n=>
   rw [pP] at h
   split at h
   ·exact ih .el ts x r h ht
   ·obtain ⟨⟨l,q⟩,h1,h2⟩:=bnd h
    obtain ⟨a1,a2⟩:=ih _ _ _ _ h1 ht
    obtain ⟨b1,b2⟩:=ih _ _ _ _ h2 fun t hq=>ht t (a1 t hq)
    simp only [Md.mR,Md.m0] at *
    exact ⟨fun t hq=>a1 t (b1 t hq),by omega⟩
  | lp n l=>
   rw [pP] at h
   split at h
   ·cases h;simp only [Md.mR,Md.m0];exact ⟨fun t h=>h,Nat.le_refl _⟩
   ·rename_i k q hi
    have hl:=AG hi
    have hm:=GZ hi
    split at h
    ·obtain ⟨⟨s,q2⟩,h1,h2⟩:=bnd h
     have hl2:=qn h1
     obtain ⟨hm2,t0,ht0,rfl⟩:=kL h1
     have:=ht t0 (hm t0 ht0)
     obtain ⟨b1,b2⟩:=ih _ _ _ _ h2 fun t hq=>ht t (hm t (hm2 t hq))
     simp only [Md.mR,Md.m0,qJ,aS,List.length_cons,List.length_nil] at *
     exact ⟨fun t hq=>hm t (hm2 t (b1 t hq)),by omega⟩
    ·obtain ⟨⟨y,q2⟩,h1,h2⟩:=bnd h
     obtain ⟨a1,a2⟩:=ih _ _ _ _ h1 fun t hq=>ht t (hm t hq)
     obtain ⟨b1,b2⟩:=ih _ _ _ _ h2 fun t hq=>ht t (hm t (a1 t hq))
     simp only [Md.mR,Md.m0,qJ,aS,List.length_cons,List.length_nil] at *
     exact ⟨fun t hq=>hm t (a1 t (b1 t hq)),by omega⟩
  | el=>
   cases ts with
   | nil=>cases h
   | cons t q=>
    have htq:∀ t∈q,t.fText.length<=200:=fun u hu=>ht u (by simp [hu])
    rw [pP] at h
    split at h
    ·split at h
     ·cases h
     split at h
     ·obtain ⟨⟨y,q2⟩,h1,h2⟩:=Option.map_eq_some_iff.1 h
      obtain ⟨a1,a2⟩:=ih _ _ _ _ h1 htq
      cases h2
      simp only [Md.mR,Md.m0,qJ,aS,List.length_cons,List.length_nil] at *
      exact ⟨fun t hq=>by simp [a1 t hq],by omega⟩
     split at h
     ·obtain ⟨⟨y,q2⟩,h1,h2⟩:=Option.map_eq_some_iff.1 h
      obtain ⟨a1,a2⟩:=ih _ _ _ _ h1 htq
      cases h2
      simp only [Md.mR,Md.m0,qJ,aS,List.length_cons,List.length_nil] at *
      exact ⟨fun t hq=>by simp [a1 t hq],by omega⟩
     split at h
     ·obtain ⟨⟨y,q2⟩,h1,h2⟩:=Option.map_eq_some_iff.1 h
      have hl2:=qn h1
      obtain ⟨hm2,t0,ht0,rfl⟩:=kL h1
      have:=htq t0 ht0
      cases h2
      simp only [Md.mR,Md.m0,qJ,aS,List.length_cons,List.length_nil] at *
      exact ⟨fun t hq=>by simp [hm2 t hq],by omega⟩
     ·cases h
    ·obtain ⟨⟨y,q2⟩,h1,h2⟩:=bnd h
     obtain ⟨a1,a2⟩:=ih _ _ _ _ h1 ht
     obtain ⟨b1,b2⟩:=ih _ _ _ _ h2 fun t hq=>ht t (a1 t hq)
     simp only [Md.mR,Md.m0] at *
     exact ⟨fun t hq=>a1 t (b1 t hq),by omega⟩
  | pr =>
   cases ts with
   | nil=>cases h
   | cons t q=>
    have htq:∀ t∈q,t.fText.length<=200:=fun u hu=>ht u (by simp [hu])
    have ht0:=ht t (by simp)
    have tl:∀ u∈q,u∈t:: q:=fun u hu=>List.mem_cons_of_mem _ hu
    rw [pP] at h
    split at h
    ·cases h
     simp only [Md.mR,Md.m0,qJ,aS,List.length_cons,List.length_nil] at *
     exact ⟨tl,by omega⟩
    split at h
    ·cases h
     simp only [Md.mR,Md.m0,qJ,aS,List.length_cons,List.length_nil] at *
     exact ⟨tl,by omega⟩
    split at h
    ·split at h
     ·rename_i r2 _ h5
      have l5:=dI h5
      have m5:=cQ h5
      split at h
      ·rename_i r3 h6
       have l6:=dI h6
       have m6:=cQ h6
       cases h
       simp only [Md.mR,Md.m0,qJ,aS,List.length_cons,List.length_nil] at *
       exact ⟨fun u hu=>tl u (m5 u (m6 u hu)),by omega⟩
      ·obtain ⟨⟨y,q2⟩,h1,h2⟩:=Option.map_eq_some_iff.1 h
       obtain ⟨a1,a2⟩:=ih _ _ _ _ h1 fun u hu=>htq u (m5 u hu)
       cases h2
       have e:=qJ y.fKind y.fNum y.fText y.fKids
       rw [aa.eta] at e
       simp only [Md.mR,Md.m0,qJ,aS,List.length_cons,List.length_nil] at *
       exact ⟨fun u hu=>tl u (m5 u (a1 u hu)),by omega⟩
     ·cases h
      simp only [Md.mR,Md.m0,qJ,aS,List.length_cons,List.length_nil] at *
      exact ⟨tl,by omega⟩
    split at h
    ·obtain ⟨⟨y,q2⟩,h1,h2⟩:=bnd h
     obtain ⟨q3,h3,h4⟩:=Option.map_eq_some_iff.1 h2
     obtain ⟨a1,a2⟩:=ih _ _ _ _ h1 htq
     have l3:=dI h3
     have m3:=cQ h3
     cases h4
     simp only [Md.mR,Md.m0,List.length_cons] at *
     exact ⟨fun u hu=>tl u (a1 u (m3 u hu)),by omega⟩
    ·cases h
  | ix e=>
   cases ts with
   | nil=>cases h;simp only [Md.mR,Md.m0];exact ⟨fun t h=>h,Nat.le_refl _⟩
   | cons t q=>
    have htq:∀ t∈q,t.fText.length<=200:=fun u hu=>ht u (by simp [hu])
    have tl:∀ u∈q,u∈t:: q:=fun u hu=>List.mem_cons_of_mem _ hu
    rw [pP] at h
    split at h
    ·obtain ⟨⟨y,q2⟩,h1,h2⟩:=bnd h
     obtain ⟨q3,h3,h4⟩:=bnd h2
     obtain ⟨a1,a2⟩:=ih _ _ _ _ h1 htq
     have l3:=dI h3
     have m3:=cQ h3
     obtain ⟨b1,b2⟩:=ih _ _ _ _ h4 fun u hu=>htq u (a1 u (m3 u hu))
     simp only [Md.mR,Md.m0,qJ,aS,List.length_cons,List.length_nil] at *
     exact ⟨fun u hu=>tl u (a1 u (m3 u (b1 u hu))),by omega⟩
    ·cases h;simp only [Md.mR,Md.m0];exact ⟨fun t h=>h,Nat.le_refl _⟩
  | ar acc=>
   rw [pP] at h
   obtain ⟨⟨y,q2⟩,h1,h2⟩:=bnd h
   obtain ⟨a1,a2⟩:=ih _ _ _ _ h1 ht
   split at h2
   ·rename_i q3 h3
    have l3:=dI h3
    have m3:=cQ h3
    obtain ⟨b1,b2⟩:=ih _ _ _ _ h2 fun u hu=>ht u (a1 u (m3 u hu))
    simp only [Md.mR,Md.m0,GY,List.length_append,List.length_singleton] at *
    exact ⟨fun u hu=>a1 u (m3 u (b1 u hu)),by omega⟩
   ·obtain ⟨q3,h3,h4⟩:=Option.map_eq_some_iff.1 h2
    have l3:=dI h3
    have m3:=cQ h3
    cases h4
    simp only [Md.mR,Md.m0,qJ,GY,List.length_append,List.length_singleton,List.length_nil] at *
    exact ⟨fun u hu=>a1 u (m3 u hu),by omega⟩
theorem xP {t:ac} (h:tOk t):t.fText.length<=200:=by
 rcases h.2 with h1 | h1 | h1 | h1 | h1
 ·have:=h1.2.2
  cases ht:t.fText with
  | nil=>simp
  | cons b q=>
   rw [ht] at this
   simp only [b6,Bool.and_eq_true,decide_eq_true_eq] at this
   omega
 ·rw [h1.2.1];simp
 ·have:=h1.2.2
  simp only [Ao,Bool.and_eq_true,decide_eq_true_eq] at this
  exact this.1.1
 ·obtain ⟨b,hb,_⟩:=h1.2.2
  rw [hb];simp
 ·rw [h1.2.2];simp
end Go.Dv.U

namespace Go.Dv.U
open Go Go.Dv Go.Proofs
def Ans {α:Type} (o:Option ((α×Bool)×((List ac×Int×Unit)×Unit))) (T:List ac) (g:aa->α) (res:Option (aa×List ac)):Prop:=
 (∃ x a',res=some (x,T.drop a')/\a'<=T.length/\o=some ((g x,true),bx T a'))\/(res=none/\∃ (e:α) (b:Int),o=some ((e,false),((T,b,()),())))
def idE (x:aa):aa:=x
theorem Kj (x0:Int) (x1:List ac) (x2 x3 x4:Int) (x5:List UInt8) (x6:List aa) (x7 x8:Int) (x9:List UInt8) (x10:List aa):jP x0 x1 x2 x3 x4 x5 x6 x7 x8 x9 x10=b9 x0 x1 x2 x3 x4 x5 x6 x7 x8 x9 x10:=by
 rw [r6,iJ]
theorem IA (x0:Bool) (x1:List ac) (x2 x3 x4:Int) (x5:List UInt8) (x6:List aa) (x7 x8:Int) (x9:List UInt8) (x10:List aa):ey x0 x1 x2 x3 x4 x5 x6 x7 x8 x9 x10=cz x0 x1 x2 x3 x4 x5 x6 x7 x8 x9 x10:=by
 rw [iI,gp]
 simp only [oT,gq,iu,fZ]
theorem IB (s:List UInt8) (T:List ac) (a:Nat) (hT:T.length<=1000) (hlt:a<T.length):mC s T a =
  if s=[45]\/s=[36] then (cS T ((a+1:Nat):Int)).bind fun r=>some ((⟨if s=[45] then 14 else 15,0,[],[r.1.1]⟩,r.1.2),r.2)
  else if nv s=true then (dc T ((a+1:Nat):Int)).bind fun r=>some ((⟨Iw s,0,r.1.1,[]⟩,r.1.2),r.2) else some ((jH,false),bx T a):=by
 have s14:yF 14=[45]:=rfl
 have s15:yF 15=[36]:=rfl
 have s16:yF 16=[46]:=rfl
 have s17:yF 17=[42]:=rfl
 have s18:yF 18=[64]:=rfl
 have w14:w64 (14+1)=15:=aW (by omega) (by omega)
 have w15:w64 (15+1)=16:=aW (by omega) (by omega)
 have w16:w64 (16+1)=17:=aW (by omega) (by omega)
 have w17:w64 (17+1)=18:=aW (by omega) (by omega)
 have w18:w64 (18+1)=19:=aW (by omega) (by omega)
 have hp:∀ (r:(aa×Bool)×((List ac×Int×Unit)×Unit)),(((Prod.fst (Prod.fst (Prod.snd r))),(Prod.fst (Prod.snd (Prod.fst (Prod.snd r)))),()),())=r.2:=fun r=>rfl
 rw [uz,cr,if_pos (by decide),eN (by decide) (by decide),fG]
 simp only [Option.bind_some,s14,w14]
 by_cases h1:s=[45]
 ·subst h1
  simp [yM hT hlt,aa.eta]
 rw [if_pos (by simpa using fun e=>h1 e.symm),cr,if_pos (by decide),eN (by decide) (by decide),fG]
 simp only [Option.bind_some,s15,w15]
 by_cases h2:s=[36]
 ·subst h2
  simp [yM hT hlt,aa.eta]
 rw [if_pos (by simpa using fun e=>h2 e.symm),cr,if_pos (by decide),eN (by decide) (by decide),fG]
 simp only [Option.bind_some,s16,w16]
 by_cases h3:s=[46]
 ·subst h3
  simp [yM hT hlt,nv,Iw]
 rw [if_pos (by simpa using fun e=>h3 e.symm),cr,if_pos (by decide),eN (by decide) (by decide),fG]
 simp only [Option.bind_some,s17,w17]
 by_cases h4:s=[42]
 ·subst h4
  simp [yM hT hlt,nv,Iw]
 rw [if_pos (by simpa using fun e=>h4 e.symm),cr,if_pos (by decide),eN (by decide) (by decide),fG]
 simp only [Option.bind_some,s18,w18]
 by_cases h5:s=[64]
 ·subst h5
  simp [yM hT hlt,nv,Iw]
 rw [if_pos (by simpa using fun e=>h5 e.symm),cr,if_neg (by decide)]
 simp [h1,h2,h3,h4,h5,nv,jH,bx]
def Stp (T:List ac) (f:Nat):Md->Nat->Prop
 | .ex n,a=>1<=n->n<=6->Ans (bg n T a) T idE (pP f (.ex n) (T.drop a))
 | .lp n l,a=>1<=n->n<=5->∀ x3 x4 x5 x6,Ans (b9 n T a x3 x4 x5 x6 l.fKind l.fNum l.fText l.fKids) T idE (pP f (.lp n l) (T.drop a))
 | .el,a=>Ans (cS T a) T idE (pP f .el (T.drop a))
 | .pr,a=>Ans (eT T a) T idE (pP f .pr (T.drop a))
 | .ix e,a=>∀ x3 x4 x5 x6,Ans (cz true T a x3 x4 x5 x6 e.fKind e.fNum e.fText e.fKids) T idE (pP f (.ix e) (T.drop a))
 | .ar acc,a=>acc.length<=a->Ans (gB T a acc) T aa.fKids (pP f (.ar acc) (T.drop a))
theorem bm (T:List ac) {a:Nat} (h:a<=T.length):(T.drop a).length+a=T.length:=by rw [List.length_drop];omega
theorem Og {T:List ac} (hT:T.length<=1000) (hok:∀ t∈T,tOk t):∀ (f:Nat) (md:Md) (a:Nat),a<=T.length->md.need (T.drop a)<=f->Stp T f md a:=by
 intro f
 induction f with
 | zero=>
  intro md a _ h
  exfalso
  have:0<md.rk:=by cases md<;>simp only [Md.rk]<;>omega
  unfold Md.need at h;omega
 | succ f ih=>
  intro md a ha hf
  have hda:=bm T ha
  have hlen:∀ (md:Md) (b:Nat) (x:aa) (a':Nat),b<=T.length->a'<=T.length->pP f md (T.drop b)=some (x,T.drop a')->b+md.w<=a':=fun md b x a' hb ha' h=>by
   have h1:=GV f md _ _ _ h
   have h2:=bm T hb
   have h3:=bm T ha'
   omega
  simp only [Md.need] at hf
  cases md with
  | ex n=>
   intro h1 h6
   rw [vR,pP]
   by_cases e6:n=6
   ·subst e6
    rw [if_pos (by decide),if_pos (by omega)]
    rcases ih .el a ha (by simp only [Md.need,Md.rk] at hf ⊢;omega) with ⟨x,a',e1,h2,e2⟩ | ⟨e1,e,b,e2⟩
    ·rw [e1,e2]
     exact .inl ⟨x,a',rfl,h2,by simp only [Option.bind_some,idE,aa.eta,bx]⟩
    ·rw [e1,e2]
     exact .inr ⟨rfl,e,b,by simp only [Option.bind_some,aa.eta]⟩
   ·have w:w64 ((n:Int)+1)=((n+1:Nat):Int):=by rw [aW (by omega) (by omega)];omega
    rw [if_neg (by simp;omega),if_neg (by omega),w]
    rcases ih (.ex (n+1)) a ha (by simp only [Md.need,Md.rk] at hf ⊢;omega) (by omega) (by omega) with ⟨x,a',e1,h2,e2⟩ | ⟨e1,e,b,e2⟩
    ·have hl:=hlen _ _ _ _ ha h2 e1
     have hda':=bm T h2
     rw [e1,e2]
     simp only [Option.bind_some,idE,bx,Bool.not_true,Bool.false_eq_true,if_false,Kj]
     exact ih (.lp n x) a' h2 (by simp only [Md.need,Md.rk,Md.w] at hf hl ⊢;omega) h1 (by omega) _ _ _ _
    ·rw [e1,e2]
     exact .inr ⟨rfl,jH,b,by simp [jH]⟩
  | lp n l=>
   intro h1 h5 x3 x4 x5 x6
   rw [iJ,pP]
   rcases Iz hT hok ha h1 h5 with ⟨k,a',e1,h2,e2⟩ | ⟨e1,k,e2⟩
   ·rw [e1,e2]
    have hil:=AG e1
    have hda':=bm T h2
    simp only [Option.bind_some,bx,Bool.not_true,Bool.false_eq_true,if_false]
    by_cases e5:n=5
    ·subst e5
     rw [if_pos (by decide),if_pos rfl]
     rcases AH hT h2 with ⟨s,e3,hlt,e4⟩ | ⟨e3,e4⟩
     ·rw [e3,e4]
      simp only [Option.bind_some,bx,Bool.not_true,Bool.false_eq_true,if_false,aa.eta]
      have hda2:=bm T (a:=a'+1) (by omega)
      exact ih (.lp 5 ⟨k,0,[],[l,⟨3,0,s,[]⟩]⟩) (a'+1) (by omega) (by simp only [Md.need,Md.rk] at hf ⊢;omega) h1 h5 _ _ _ _
     ·rw [e3,e4]
      exact .inr ⟨rfl,jH,a',by simp [bx,jH]⟩
    ·have w:w64 ((n:Int)+1)=((n+1:Nat):Int):=by rw [aW (by omega) (by omega)];omega
     rw [if_neg (by simp;omega),if_neg e5,w]
     rcases ih (.ex (n+1)) a' h2 (by simp only [Md.need,Md.rk] at hf ⊢;omega) (by omega) (by omega) with ⟨x,a2,e3,h3,e4⟩ | ⟨e3,e,b,e4⟩
     ·have hl:=hlen _ _ _ _ h2 h3 e3
      have hda2:=bm T h3
      rw [e3,e4]
      simp only [Option.bind_some,idE,bx,Bool.not_true,Bool.false_eq_true,if_false,aa.eta]
      exact ih (.lp n ⟨k,0,[],[l,x]⟩) a2 h3 (by simp only [Md.need,Md.rk,Md.w] at hf hl ⊢;omega) h1 h5 _ _ _ _
     ·rw [e3,e4]
      exact .inr ⟨rfl,jH,b,by simp [jH]⟩
   ·rw [e1,e2]
    exact .inl ⟨l,a,rfl,ha,by simp [bx,idE,aa.eta]⟩
  | el =>
   show Ans (cS T a) T idE (pP (f+1) .el (T.drop a))
   rw [r5,xO ha]
   have rest:Ans ((eT T a).bind fun r198=>ey (Prod.snd (Prod.fst r198)) (Prod.fst (Prod.fst (Prod.snd r198))) (Prod.fst (Prod.snd (Prod.fst (Prod.snd r198)))) 0 0 [] ([]) (aa.fKind (Prod.fst (Prod.fst r198))) (aa.fNum (Prod.fst (Prod.fst r198))) (aa.fText (Prod.fst (Prod.fst r198))) (aa.fKids (Prod.fst (Prod.fst r198)))) T idE ((pP f .pr (T.drop a)).bind fun p=>pP f (.ix p.1) p.2):=by
    rcases ih .pr a ha (by simp only [Md.need,Md.rk] at hf ⊢;omega) with ⟨x,a',e1,h2,e2⟩ | ⟨e1,e,b,e2⟩
    ·have hl:=hlen _ _ _ _ ha h2 e1
     have hda':=bm T h2
     rw [e1,e2]
     simp only [Option.bind_some,idE,bx,IA]
     exact ih (.ix x) a' h2 (by simp only [Md.need,Md.rk,Md.w] at hf hl ⊢;omega) _ _ _ _
    ·rw [e1,e2]
     refine .inr ⟨rfl,e,b,?_⟩
     simp only [Option.bind_some]
     rw [iI,if_neg (by decide),iu,aa.eta]
   rcases fT ha with ⟨e0,e⟩ | ⟨t,hlt,hi,e,hm⟩
   ·rw [e] at rest ⊢
    simp only [aX,Option.isSome_none,Option.bind_some,Bool.false_eq_true,if_false]
    have:pP f .pr []=none:=by cases f<;>rfl
    rw [this] at rest
    exact rest
   ·rw [e] at rest ⊢
    rw [pP]
    by_cases h4:t.fKind=4
    ·rw [if_pos h4]
     simp only [aX,h4,if_true,Option.isSome_some,Option.bind_some,hi]
     cases hA:t.fAfter with
     | true=>exact .inr ⟨by simp,jH,a,by simp [jH]⟩
     | false=>
      simp only [Bool.false_eq_true,if_false]
      rw [IB _ _ _ hT hlt]
      have hda1:=bm T (a:=a+1) (by omega)
      have hel:=ih .el (a+1) (by omega) (by simp only [Md.need,Md.rk] at hf ⊢;omega)
      have elc:∀ (k:Int),Ans ((cS T ((a+1:Nat):Int)).bind fun r=>some (((⟨k,0,[],[r.1.1]⟩:aa),r.1.2),r.2)) T idE ((pP f .el (T.drop (a+1))).map fun p=>(⟨k,0,[],[p.1]⟩,p.2)):=by
       intro k
       rcases hel with ⟨x,a',e1,h2,e2⟩ | ⟨e1,e,b,e2⟩
       ·rw [e1,e2];exact .inl ⟨_,a',rfl,h2,rfl⟩
       ·rw [e1,e2];exact .inr ⟨rfl,_,b,rfl⟩
      have fin:∀ {o:Option ((aa×Bool)×((List ac×Int×Unit)×Unit))} {res:Option (aa×List ac)},Ans o T idE res->Ans (o.bind fun r196=>some (((aa.mk (aa.fKind (Prod.fst (Prod.fst r196))) (aa.fNum (Prod.fst (Prod.fst r196))) (aa.fText (Prod.fst (Prod.fst r196))) (aa.fKids (Prod.fst (Prod.fst r196)))),(Prod.snd (Prod.fst r196))),(((Prod.fst (Prod.fst (Prod.snd r196))),(Prod.fst (Prod.snd (Prod.fst (Prod.snd r196)))),()),()))) T idE res:=by
       intro o res h
       rcases h with ⟨x,a',e1,h2,e2⟩ | ⟨e1,e,b,e2⟩
       ·rw [e2];exact .inl ⟨x,a',e1,h2,by simp only [Option.bind_some,aa.eta,bx,idE]⟩
       ·rw [e2];exact .inr ⟨e1,e,b,by simp only [Option.bind_some,aa.eta]⟩
      by_cases q1:t.fText=[45]
      ·simp only [q1,true_or,if_true]
       exact fin (elc 14)
      ·by_cases q2:t.fText=[36]
       ·have q3:¬ ([36]:List UInt8)=[45]:=by decide
        simp only [q2,q3,or_true,if_true,if_false]
        exact fin (elc 15)
       ·rw [if_neg (by simp [q1,q2]),if_neg q1,if_neg q2]
        cases hp:nv t.fText with
        | false=>exact .inr ⟨by simp,jH,a,by simp [jH,bx]⟩
        | true=>
         simp only [if_true]
         refine fin ?_
         rcases AH hT (a:=a+1) (by omega) with ⟨s,e3,hlt2,e4⟩ | ⟨e3,e4⟩
         ·rw [e3,e4];exact .inl ⟨_,a+1+1,rfl,by omega,rfl⟩
         ·rw [e3,e4];exact .inr ⟨rfl,_,_,rfl⟩
    ·rw [if_neg h4]
     simp only [aX,h4,if_false,Option.isSome_none,Option.bind_some,Bool.false_eq_true]
     exact rest
  | pr =>
   show Ans (eT T a) T idE (pP (f+1) .pr (T.drop a))
   rw [r8]
   rcases fT ha with ⟨e0,e⟩ | ⟨t,hlt,hi,e,hm⟩
   ·rw [e,if_pos (by simp [aj,e0])]
    exact .inr ⟨rfl,jH,a,by simp [jH]⟩
   ·rw [e,if_neg (by simp [aj];omega),hi,pP]
    have hda1:=bm T (a:=a+1) (by omega)
    simp only [Option.bind_some,yM hT hlt]
    by_cases k3:t.fKind=3
    ·rw [if_pos (by simp [k3]),if_pos k3]
     exact .inl ⟨_,a+1,rfl,by omega,rfl⟩
    rw [if_neg (by simpa using k3),if_neg k3]
    by_cases k2:t.fKind=2
    ·rw [if_pos (by simp [k2]),if_pos k2]
     exact .inl ⟨_,a+1,rfl,by omega,rfl⟩
    rw [if_neg (by simpa using k2),if_neg k2]
    by_cases k1:t.fKind=1
    ·rw [if_pos (by simp [k1]),if_pos k1]
     cases hA:t.fAfter with
     | true=>
      simp only [Bool.not_true,Bool.false_eq_true,if_false]
      exact .inl ⟨_,a+1,rfl,by omega,rfl⟩
     | false=>
      simp only [Bool.not_false,if_true]
      rcases mM hT (a:=a+1) (by omega) 5 with ⟨e1,hlt2,e2⟩ | ⟨e1,e2⟩
      ·rw [e1,e2]
       simp only [Option.bind_some,if_true,bx]
       rw [vS]
       have hda2:=bm T (a:=a+1+1) (by omega)
       rcases mM hT (a:=a+1+1) (by omega) 6 with ⟨e3,hlt3,e4⟩ | ⟨e3,e4⟩
       ·rw [e3,e4]
        exact .inl ⟨_,a+1+1+1,rfl,by omega,rfl⟩
       ·rw [e3,e4]
        simp only [Option.bind_some,Bool.false_eq_true,if_false,bx]
        rcases ih (.ar []) (a+1+1) (by omega) (by simp only [Md.need,Md.rk] at hf ⊢;omega) (by simp) with ⟨x,a',e5,h5,e6⟩ | ⟨e5,ks,b,e6⟩
        ·rw [e5,e6]
         exact .inl ⟨_,a',rfl,h5,rfl⟩
        ·rw [e5,e6]
         exact .inr ⟨rfl,_,b,rfl⟩
      ·rw [e1,e2]
       simp only [Option.bind_some,Bool.false_eq_true,if_false]
       exact .inl ⟨_,a+1,rfl,by omega,rfl⟩
    rw [if_neg (by simpa using k1),if_neg k1]
    by_cases k5:t.fKind=5
    ·rw [if_pos (by simp [k5]),if_pos k5]
     rcases ih (.ex 1) (a+1) (by omega) (by simp only [Md.need,Md.rk] at hf ⊢;omega) (by omega) (by omega) with ⟨x,a',e1,h2,e2⟩ | ⟨e1,e,b,e2⟩
     ·have e2:bg 1 T ((a+1:Nat):Int)=_:=e2
      rw [e1,e2]
      simp only [Option.bind_some,if_true,bx,idE,aa.eta]
      rcases mM hT (a:=a') h2 6 with ⟨e3,hlt3,e4⟩ | ⟨e3,e4⟩
      ·rw [e3,e4]
       exact .inl ⟨_,a'+1,rfl,by omega,rfl⟩
      ·rw [e3,e4]
       exact .inr ⟨rfl,_,_,rfl⟩
     ·have e2:bg 1 T ((a+1:Nat):Int)=_:=e2
      rw [e1,e2]
      exact .inr ⟨rfl,e,b,by simp [aa.eta]⟩
    ·rw [if_neg (by simpa using k5),if_neg k5]
     exact .inr ⟨rfl,jH,a,by simp [jH]⟩
  | ix x0=>
   intro x3 x4 x5 x6
   rw [gp,if_pos rfl,xO ha]
   simp only [Option.bind_some,fZ,aa.eta]
   rcases fT ha with ⟨e0,e⟩ | ⟨t,hlt,hi,e,hm⟩
   ·rw [e]
    exact .inl ⟨x0,a,by rw [e];rfl,ha,by simp [aX,idE,bx]⟩
   ·rw [e,pP]
    have hstop:Ans (some ((x0,true),((T,(a:Int),()),()))) T idE (some (x0,t:: T.drop (a+1))):=.inl ⟨x0,a,by rw [e],ha,rfl⟩
    by_cases h7:t.fKind=7
    ·have hE:aX 7 (t:: T.drop (a+1))=some (T.drop (a+1)):=by simp [aX,h7]
     rw [hE]
     simp only [h7,Option.isSome_some,if_true,hi,Option.bind_some]
     cases hB:t.fBefore with
     | true=>
      simp only [Bool.not_true,Bool.false_eq_true,if_false,and_false]
      exact hstop
     | false=>
      simp only [Bool.not_false,if_true,and_self]
      have hda1:=bm T (a:=a+1) (by omega)
      rw [gq,yM hT hlt]
      rcases ih (.ex 1) (a+1) (by omega) (by simp only [Md.need,Md.rk] at hf ⊢;omega) (by omega) (by omega) with ⟨x,a',e1,h2,e2⟩ | ⟨e1,e,b,e2⟩
      ·have e2:bg 1 T ((a+1:Nat):Int)=_:=e2
       have hl:=hlen _ _ _ _ (by omega) h2 e1
       rw [e1,e2]
       simp only [Option.bind_some,bx,idE,aa.eta,Bool.not_true,Bool.false_eq_true,if_false]
       rcases mM hT (a:=a') h2 8 with ⟨e3,hlt3,e4⟩ | ⟨e3,e4⟩
       ·rw [e3,e4]
        simp only [Option.bind_some,bx,Bool.not_true,Bool.false_eq_true,if_false]
        have hda2:=bm T (a:=a'+1) (by omega)
        exact ih (.ix ⟨5,0,[],[x0,x]⟩) (a'+1) (by omega) (by simp only [Md.need,Md.rk,Md.w] at hf hl ⊢;omega) _ _ _ _
       ·rw [e3,e4]
        exact .inr ⟨rfl,jH,a',by simp [bx,jH]⟩
      ·have e2:bg 1 T ((a+1:Nat):Int)=_:=e2
       rw [e1,e2]
       exact .inr ⟨rfl,jH,b,by simp [jH]⟩
    ·have hE:aX 7 (t:: T.drop (a+1))=none:=by simp [aX,h7]
     rw [hE]
     simp only [h7,if_false,false_and,Option.isSome_none,Bool.false_eq_true]
     exact hstop
  | ar acc=>
   intro hacc
   rw [r9,pP]
   rcases ih (.ex 1) a ha (by simp only [Md.need,Md.rk] at hf ⊢;omega) (by omega) (by omega) with ⟨x,a',e1,h2,e2⟩ | ⟨e1,e,b,e2⟩
   ·have e2:bg 1 T (a:Int)=_:=e2
    have hl:=hlen _ _ _ _ ha h2 e1
    have hda':=bm T h2
    rw [e1,e2]
    simp only [Option.bind_some,bx,idE,aa.eta,Bool.not_true,Bool.false_eq_true,if_false]
    rw [av (by simp;omega)]
    simp only [Option.bind_some]
    rcases mM hT (a:=a') h2 9 with ⟨e3,hlt3,e4⟩ | ⟨e3,e4⟩
    ·rw [e3,e4]
     simp only [Option.bind_some,bx,Bool.not_true,Bool.false_eq_true,if_false]
     have hda2:=bm T (a:=a'+1) (by omega)
     exact ih (.ar (acc++[x])) (a'+1) (by omega) (by simp only [Md.need,Md.rk,Md.w] at hf hl ⊢;omega) (by simp only [Md.w,List.length_append,List.length_singleton] at hl ⊢;omega)
    ·rw [e3,e4]
     simp only [Option.bind_some,bx,Bool.not_false,if_true]
     rcases mM hT (a:=a') h2 6 with ⟨e5,hlt5,e6⟩ | ⟨e5,e6⟩
     ·rw [e5,e6]
      exact .inl ⟨_,a'+1,rfl,by omega,rfl⟩
     ·rw [e5,e6]
      exact .inr ⟨rfl,_,_,rfl⟩
   ·have e2:bg 1 T (a:Int)=_:=e2
    rw [e1,e2]
    exact .inr ⟨rfl,[],b,by simp⟩
end Go.Dv.U

namespace Go.Dv.U
open Go Go.Dv Go.Proofs
def IC (n:Nat) (ts:List ac):Nat:=(Md.ex n).need ts
def eO (n:Nat) (ts:List ac):Int×aa×List ac:=match pP (IC n ts) (.ex n) ts with
 | none=>(2,jH,ts)
 | some (x,r)=>if x.valid=true then (0,x,r) else (6,jH,ts)
theorem EY {T:List ac} (hT:T.length<=1000) (hok:∀ t∈T,tOk t):cj T=some true:=by
 rw [gn]
 refine bz (xs:=T) (by omega) (P:=fun i _=>bn T (len T) (i:Int)=some true) ?_ ?_
 ·rw [cN,if_neg (by simp [aj])]
 ·intro i y l _ hlt hy hi hw ih
  rw [cN,if_pos (by simp [aj];omega),hi]
  simp only [Option.bind_some]
  have e:ac.mk y.fKind y.fNum y.fText y.fBefore y.fAfter=y:=by cases y;rfl
  simp only [e,DT (hok y hy),Option.bind_some,Bool.not_true,Bool.false_eq_true,if_false,hw]
  exact ih
theorem EZ {T:List ac} (hT:T.length<=120) (hok:∀ t∈T,tOk t) {a:Nat} (ha:a<=T.length) {n:Nat} (h1:1<=n) (h6:n<=6):
  (∃ x a',eO n (T.drop a)=(0,x,T.drop a')/\a'<=T.length/\x.valid=true/\tg T a n=some (x,((a':Nat):Int),0))\/(∃ c b,c≠0/\eO n (T.drop a)=(c,jH,T.drop a)/\tg T a n=some (jH,b,c)):=by
 rw [BI,if_neg (by simp [aj];omega),EY (by omega) hok]
 simp only [Option.bind_some,Bool.not_true,Bool.false_eq_true,if_false]
 rw [lh]
 have hw:(decide (0<=(a:Int))&&decide ((a:Int)<=len T))=true:=by simp [aj];omega
 rw [hw]
 simp only [Option.bind_some,Bool.not_true,Bool.false_eq_true,if_false]
 rw [xx]
 unfold eO
 rcases Og (by omega) hok (IC n (T.drop a)) (.ex n) a ha (Nat.le_refl _) h1 h6 with ⟨x,a',e1,h2,e2⟩ | ⟨e1,e,b,e2⟩
 ·rw [e1,e2]
  simp only [Option.bind_some,bx,idE,aa.eta,Bool.not_true,Bool.false_eq_true,if_false]
  have hsz:=(Ki _ _ _ _ _ e1 fun t ht=>xP (hok t (List.mem_of_mem_drop ht))).2
  have hdl:=bm T ha
  simp only [Md.mR,Md.m0] at hsz
  rw [qY (by omega)]
  simp only [Option.bind_some]
  cases hv:x.valid with
  | true=>exact .inl ⟨x,a',by simp,h2,hv,by simp⟩
  | false=>exact .inr ⟨6,a,by decide,by simp,by simp [jH]⟩
 ·rw [e1,e2]
  exact .inr ⟨2,b,by decide,rfl,by simp [jH]⟩
end Go.Dv.U

namespace Go.Dv.U
open Go Go.Dv Go.Proofs
def M7 {α:Type} (o:Option ((α×Bool)×((List ac×Int×Unit)×Unit))) (T:List ac) (res:Option (α×List ac)):Prop:=
 (∃ x a',res=some (x,T.drop a')/\a'<=T.length/\o=some ((x,true),bx T a'))\/(res=none/\∃ (e:α) (b:Int),o=some ((e,false),((T,b,()),())))
theorem xQ {T:List ac} {a:Nat} (hT:T.length<=1000) (ha:a<=T.length):
  (∃ s a',jS (T.drop a)=some (s,T.drop a')/\a<a'/\a'<=T.length/\ee T a=some ((s,true),bx T a'))\/(jS (T.drop a)=none/\∃ (e:List UInt8) (b:Int),ee T a=some ((e,false),((T,b,()),()))):=by
 rw [tp]
 unfold jS
 rcases mM hT ha 5 with ⟨e1,hlt,e2⟩ | ⟨e1,e2⟩
 ·rw [e1,e2]
  simp only [Option.bind_some,bx,Bool.not_true,Bool.false_eq_true,if_false]
  rcases AH hT (a:=a+1) (by omega) with ⟨s,e3,hlt2,e4⟩ | ⟨e3,e4⟩
  ·rw [e3,e4]
   simp only [Option.bind_some,bx,if_true]
   rcases mM hT (a:=a+1+1) (by omega) 6 with ⟨e5,hlt3,e6⟩ | ⟨e5,e6⟩
   ·rw [e5,e6]
    exact .inl ⟨s,a+1+1+1,rfl,by omega,by omega,rfl⟩
   ·rw [e5,e6]
    exact .inr ⟨rfl,s,_,rfl⟩
  ·rw [e3,e4]
   exact .inr ⟨rfl,[],_,by simp only [Option.bind_some,bx,Bool.false_eq_true,if_false];rfl⟩
 ·rw [e1,e2]
  exact .inr ⟨rfl,[],a,by simp [bx]⟩
theorem M8 {T:List ac} (hT:T.length<=1000):∀ (f a:Nat) (s x:List UInt8) (ok:Bool) (x3 x4 x5:List UInt8),a<=T.length->(T.drop a).length<f ->
    M7 (eu ok T a x3 x4 x5 [] s x) T (pTg f s x ok (T.drop a)):=by
  intro f
  induction f with
  | zero=>intro a s x ok x3 x4 x5 _ h;omega
  | succ f ih =>
    intro a s x ok x3 x4 x5 ha hf
    have hda:=bm T ha
    rw [oR,xO ha]
    rcases AH hT ha with ⟨w,e1,hlt,e2⟩ | ⟨e1,e2⟩
    · have hx : (aX 1 (T.drop a)).isSome=true:=by
        rcases fT ha with ⟨e0,_⟩ | ⟨t,_,_,e,_⟩
        · omega
        · rw [e] at e1 ⊢
          simp only [dR,aX] at e1 ⊢
          split at e1
          · rename_i hk;simp [hk]
          · cases e1
      rw [hx]
      simp only [Option.bind_some,if_true,e2,pTg,e1,bx]
      have bad:M7 (cD T ((a+1:Nat):Int) x3 x4 x5) T (none:Option (aw×List ac)):=by
        rw [oS];exact .inr ⟨rfl,_,_,rfl⟩
      by_cases h1:w=[83]
      · subst h1
        rw [if_pos (by simp)]
        by_cases h2:s=[]
        · subst h2
          rw [if_pos (by simp),if_pos ⟨rfl,rfl⟩]
          rcases xQ hT (a:=a+1) (by omega) with ⟨l,a',e3,h3,h4,e4⟩ | ⟨e3,e,b,e4⟩
          · rw [e3,e4]
            simp only [Option.bind_some,bx,dg,Bool.not_true,Bool.false_eq_true,if_false]
            have hda':=bm T h4
            exact ih a' l x true _ _ _ h4 (by omega)
          · rw [e3,e4]
            simp only [Option.bind_some,dg,Bool.not_false,if_true]
            exact .inr ⟨rfl,_,_,rfl⟩
        · have b2:(s==[])=false:=by simpa using h2
          have b3:(([83]:List UInt8)==[70])=false:=by decide
          have n3:¬ ([83]:List UInt8)=[70]:=by decide
          simp only [b2,b3,n3,h2,Bool.false_eq_true,if_false,and_false,false_and]
          exact bad
      · have b1:(w==[83])=false:=by simpa using h1
        simp only [b1,h1,Bool.false_eq_true,if_false,false_and]
        by_cases h3:w=[70]
        · subst h3
          rw [if_pos (by simp)]
          by_cases h2:x=[]
          · subst h2
            rw [if_pos (by simp),if_pos ⟨rfl,rfl⟩,nW]
            rcases xQ hT (a:=a+1) (by omega) with ⟨l,a',e3,h3,h4,e4⟩ | ⟨e3,e,b,e4⟩
            · rw [e3,e4]
              simp only [Option.bind_some,bx,dg,Bool.not_true,Bool.false_eq_true,if_false]
              have hda':=bm T h4
              exact ih a' s l true _ _ _ h4 (by omega)
            · rw [e3,e4]
              simp only [Option.bind_some,dg,Bool.not_false,if_true]
              exact .inr ⟨rfl,_,_,rfl⟩
          · have b2:(x==[])=false:=by simpa using h2
            simp only [b2,h2,Bool.false_eq_true,if_false,and_false]
            exact bad
        · have b3:(w==[70])=false:=by simpa using h3
          simp only [b3,h3,Bool.false_eq_true,if_false,false_and]
          exact bad
    · have hx:(aX 1 (T.drop a)).isSome=false:=by
        rcases fT ha with ⟨e0,e⟩ | ⟨t,_,_,e,_⟩
        · rw [e];rfl
        · rw [e] at e1 ⊢
          simp only [dR,aX] at e1 ⊢
          split at e1
          · cases e1
          · rename_i hk;simp [hk]
      rw [hx]
      simp only [Option.bind_some,Bool.false_eq_true,if_false,pTg,e1]
      cases ok with
      | true=>exact .inl ⟨_,a,by simp,ha,rfl⟩
      | false=>exact .inr ⟨by simp,_,_,rfl⟩
theorem M9 {T:List ac} (hT:T.length<=1000) {a f:Nat} (ha:a<=T.length) (hf:(T.drop a).length<f):M7 (eR T a) T (pGo f (T.drop a)):=by
 rw [rT,xO ha]
 unfold pGo
 cases he:aX 5 (T.drop a) with
 | some r=>
  simp only [Option.isSome_some,Option.bind_some,if_true]
  rcases xQ hT ha with ⟨l,a',e3,h3,h4,e4⟩ | ⟨e3,e,b,e4⟩
  ·rw [e3,e4];exact .inl ⟨_,a',rfl,h4,rfl⟩
  ·rw [e3,e4];exact .inr ⟨rfl,_,_,rfl⟩
 | none=>
  simp only [Option.isSome_none,Option.bind_some,Bool.false_eq_true,if_false]
  exact M8 hT _ a [] [] false _ _ _ ha hf
end Go.Dv.U

namespace Go.Dv.U
open Go Go.Dv Go.Proofs
theorem ID {c:UInt8} {s t:List UInt8} (h:hasB (ib c) s=false) (j:Nat):Lib.occAt s (c:: t) j=false:=by
 cases ho:Lib.occAt s (c:: t) j with
 | false=>rfl
 | true=>
  have h1:=Lib.occAt_head (c:=c) (t:=t) rfl ho
  have:hasB (ib c) s=true:=by
   simp only [hasB,List.any_eq_true,beq_iff_eq]
   exact ⟨c,List.mem_of_getElem? h1,rfl⟩
  rw [h] at this;cases this
theorem CW {c:UInt8} {s t:List UInt8} (h:hasB (ib c) s=false):Lib.index s (c:: t) = -1:=Lib.index_none fun j _=>ID h j
theorem CX {c:UInt8} {a r t:List UInt8} (h:hasB (ib c) a=false) (ht:(c:: t).isPrefixOf r=true):Lib.index (a++r) (c:: t)=(a.length:Int):=by
 refine Lib.index_first (by simp) ?_ ?_
 ·unfold Lib.occAt
  rw [List.drop_left];exact ht
 ·intro j hj
  unfold Lib.occAt
  rw [List.drop_append_of_le_length (by omega),List.drop_eq_getElem_cons hj]
  simp only [List.cons_append,List.isPrefixOf,Bool.and_eq_false_iff]
  left
  rw [beq_eq_false_iff_ne]
  intro e
  have:hasB (ib c) a=true:=by
   simp only [hasB,List.any_eq_true,beq_iff_eq]
   exact ⟨a[j],List.getElem_mem hj,by rw [<-e]⟩
  rw [h] at this;cases this
theorem Kk {c:UInt8} {a r:List UInt8} (h:hasB (ib c) a=false):Lib.cut (a++c:: r) [c]=(a,r,true):=by
 have hi:Lib.index (a++c:: r) [c]=(a.length:Int):=CX h (by simp [List.isPrefixOf])
 unfold Lib.cut
 rw [hi,if_pos (by omega)]
 simp [List.drop_append]
theorem IE {c:UInt8} {s:List UInt8} (h:hasB (ib c) s=false):Lib.cut s [c]=(s,[],false):=by
 unfold Lib.cut
 rw [CW h,if_neg (by decide)]
end Go.Dv.U

namespace Go.Dv.U
open Go Go.Dv Go.Proofs
def fu (lab:List UInt8):ab:=⟨lab,false,jH,false,jH,false,jH,⟨[],[],[]⟩⟩
def G0 (s:ab) (r:List ac):Int×ab×List ac:=match pY r with
 | none=>(0,s,r)
 | some r2=>if mh r2=true then (0,{s with fHasReplace:=true,fReplace:=⟨1,0,[],[]⟩},r2) else ((eO 1 r2).1,{s with fHasReplace:=true,fReplace:=(eO 1 r2).2.1},(eO 1 r2).2.2)
def bfr : List ac->Bool
 | []=>false
 | t:: _=>t.fBefore
def Mx (s:ab) (r:List ac):Int×ab×List ac:=
 if (eO 1 r).1≠0 then ((eO 1 r).1,{s with fHasPattern:=true,fPattern:=(eO 1 r).2.1},(eO 1 r).2.2) else G0 {s with fHasPattern:=true,fPattern:=(eO 1 r).2.1} (eO 1 r).2.2
def My (s:ab) (r:List ac):Int×ab×List ac:=
 if mh r=true\/(pY r).isSome=true then G0 s r else if bfr r=false then (2,s,r) else Mx s r
def lm (s:ab) (ts:List ac):Int×ab×List ac:=
 if (eO 6 ts).1≠0 then ((eO 6 ts).1,{s with fHasSubject:=true,fSubject:=(eO 6 ts).2.1},(eO 6 ts).2.2) else My {s with fHasSubject:=true,fSubject:=(eO 6 ts).2.1} (eO 6 ts).2.2
def D2 (s:ab) (ts:List ac):Int×ab:=match aX 10 ts with
 | some r=>match pGo (r.length+4) r with
  | some (g,r2)=>(if r2=[] then 0 else 2,{s with fGoto:=g})
  | none=>(2,s)
 | none=>(if ts=[] then 0 else 2,s)
def pSt (s:ab) (ts:List ac):Int×ab:=
 if mh ts=true then D2 s ts else if (lm s ts).1≠0 then ((lm s ts).1,(lm s ts).2.1) else D2 (lm s ts).2.1 (lm s ts).2.2
def mN : List UInt8->Bool
 | []=>false
 | b:: _=>b==32
def gV (s:List UInt8):ab×Int:=
 if 4000<s.length\/eV s=false then (fu [],1)
 else
  let lab:=if mN s=true then [] else (Lib.cut s [32]).1
  if mN s=false/\b6 lab=false then (fu [],2)
  else
   let k:=fp (s.drop lab.length)
   if k.2.2≠0 then (fu [],k.2.2)
   else
    let p:=pSt (fu lab) k.1
    if p.1≠0 then (fu [],p.1) else if p.2.fLabel=[]/\p.2.fHasSubject=false/\jF p.2.fGoto=true then (fu [],2)
    else if fm p.2=true then (p.2,0) else (fu [],6)
end Go.Dv.U

namespace Go.Dv.U
open Go Go.Dv Go.Proofs
theorem CY {x:List UInt8} (h:(fp x).2.2=0):Sc true x (fp x).1/\(∀ t∈(fp x).1,tOk t)/\(fp x).1.length<=120:=by
 obtain ⟨_,_,h1⟩:=Ix h
 obtain ⟨_,h2,h3,_⟩:=ES (x:=x) (L:=(fp x).1) (e:=(fp x).2.1) (by rw [<-h])
 exact ⟨h1,h2,h3⟩
theorem zt {t:List UInt8} (h:(gV t).2=0):fm (gV t).1=true:=by
 revert h
 unfold gV
 split
 ·intro h;simp at h
 generalize (if mN t=true then [] else (Lib.cut t [32]).1)=lab
 simp only
 split
 ·intro h;simp at h
 split
 ·intro h;rename_i h2;exact absurd h h2
 split
 ·intro h;rename_i h2;exact absurd h h2
 split
 ·intro h;simp at h
 split
 ·intro _;assumption
 ·intro h;simp at h
end Go.Dv.U

namespace Go.Dv.U
open Go Go.Dv Go.Proofs
def vm (s:ab):List UInt8×Bool×Int×Int×List UInt8×List aa×Bool×Int×Int×List UInt8×List aa×Bool×Int×Int×List UInt8×List aa×List UInt8×List UInt8×List UInt8×Unit:=
 (s.fLabel,s.fHasSubject,s.fSubject.fKind,s.fSubject.fNum,s.fSubject.fText,s.fSubject.fKids,s.fHasPattern,s.fPattern.fKind,s.fPattern.fNum,s.fPattern.fText,s.fPattern.fKids,s.fHasReplace,s.fReplace.fKind,s.fReplace.fNum,s.fReplace.fText,s.fReplace.fKids,s.fGoto.fAlways,s.fGoto.fSuccess,s.fGoto.fFailure,())
def bx2 (T:List ac) (a:Int) (s:ab):=(((T,a,()),vm s,()):(List ac×Int×Unit)×(List UInt8×Bool×Int×Int×List UInt8×List aa×Bool×Int×Int×List UInt8×List aa×Bool×Int×Int×List UInt8×List aa×List UInt8×List UInt8×List UInt8×Unit)×Unit)
theorem AI {T:List ac} {a:Nat} (ha:a<=T.length):eZ T a=some (mh (T.drop a)):=by
 rw [ug,xO ha]
 rcases fT ha with ⟨e0,e⟩ | ⟨t,hlt,hi,e,_⟩
 ·rw [if_pos (by simp [aj,e0]),e];rfl
 ·rw [if_neg (by simp [aj];omega),e]
  simp only [Option.bind_some,aX,mh]
  by_cases h:t.fKind=10<;>simp [h]
theorem xR {T:List ac} {a:Nat} (hok:∀ t∈T,tOk t) (ha:a<=T.length):fQ T a=some (pY (T.drop a)).isSome/\∀ q,pY (T.drop a)=some q->a<T.length/\q=T.drop (a+1):=by
 rw [qz,xO ha]
 rcases fT ha with ⟨e0,e⟩ | ⟨t,hlt,hi,e,hm⟩
 ·rw [e];exact ⟨rfl,fun q h=>by cases h⟩
 ·rw [e]
  refine ⟨?_,fun q h=>⟨hlt,?_⟩⟩
  ·simp only [aX,pY,hi]
   by_cases h4:t.fKind=4
   ·simp only [h4,if_true,Option.isSome_some,Option.bind_some,zr (hok t hm)]
    cases hI:ox t with
    | false=>simp
    | true=>by_cases h:t.fText=[61]<;>simp [h]
   ·have hI:ox t=false:=by unfold ox;simp [h4]
    simp [h4,hI]
  ·simp only [pY] at h
   split at h
   ·cases h;rfl
   ·cases h
theorem CZ {T:List ac} (hT:T.length<=120) (hok:∀ t∈T,tOk t) {a:Nat} (ha:a<=T.length) {n:Nat} (h1:1<=n) (h6:n<=6):
  ∃ x c a',eO n (T.drop a)=(c,x,T.drop a')/\a'<=T.length/\dN n T a=some ((x,c),bx T a'):=by
 rw [vI]
 rcases EZ hT hok ha h1 h6 with ⟨x,a',e1,h2,_,e2⟩ | ⟨c,b,hc,e1,e2⟩
 ·rw [e2]
  exact ⟨x,0,a',e1,h2,by simp [bx,aa.eta]⟩
 ·rw [e2]
  refine ⟨jH,c,a,e1,ha,?_⟩
  simp only [Option.bind_some]
  rw [if_neg (by simpa using hc)]
  simp [bx,jH]
theorem Ja {T:List ac} (hT:T.length<=120) (hok:∀ t∈T,tOk t) {a:Nat} (ha:a<=T.length) (s:ab):
  ∃ a':Nat,a'<=T.length/\(G0 s (T.drop a)).2.2=T.drop a'/\ed T a s.fLabel s.fHasSubject s.fSubject.fKind s.fSubject.fNum s.fSubject.fText s.fSubject.fKids s.fHasPattern s.fPattern.fKind s.fPattern.fNum s.fPattern.fText s.fPattern.fKids s.fHasReplace s.fReplace.fKind s.fReplace.fNum s.fReplace.fText s.fReplace.fKids s.fGoto.fAlways s.fGoto.fSuccess s.fGoto.fFailure =
   some ((G0 s (T.drop a)).1,bx2 T a' (G0 s (T.drop a)).2.1):=by
 obtain ⟨h1,h2⟩:=xR hok ha
 rw [qA,h1]
 unfold G0
 cases hq:pY (T.drop a) with
 | none=>exact ⟨a,ha,rfl,by simp [bx2,vm]⟩
 | some q=>
  obtain ⟨hlt,rfl⟩:=h2 q hq
  have w:w64 ((a:Int)+1)=((a+1:Nat):Int):=yM (by omega) hlt
  simp only [Option.isSome_some,Option.bind_some,Bool.not_true,Bool.false_eq_true,if_false,w,AI (show a+1<=T.length by omega)]
  cases hE:mh (T.drop (a+1)) with
  | true=>exact ⟨a+1,by omega,by simp,by simp [bx2,vm]⟩
  | false=>
   simp only [Bool.false_eq_true,if_false]
   obtain ⟨x,c,a',e1,h3,e2⟩:=CZ hT hok (a:=a+1) (by omega) (n:=1) (by omega) (by omega)
   have e2:dN 1 T ((a+1:Nat):Int)=_:=e2
   rw [e2,e1]
   exact ⟨a',h3,rfl,by simp [bx2,vm,bx]⟩
theorem Kl {T:List ac} (hT:T.length<=120) (hok:∀ t∈T,tOk t) {a:Nat} (ha:a<=T.length) (s:ab):
  ∃ a':Nat,a'<=T.length/\(lm s (T.drop a)).2.2=T.drop a'/\gz T a s.fLabel s.fHasSubject s.fSubject.fKind s.fSubject.fNum s.fSubject.fText s.fSubject.fKids s.fHasPattern s.fPattern.fKind s.fPattern.fNum s.fPattern.fText s.fPattern.fKids s.fHasReplace s.fReplace.fKind s.fReplace.fNum s.fReplace.fText s.fReplace.fKids s.fGoto.fAlways s.fGoto.fSuccess s.fGoto.fFailure =
   some ((lm s (T.drop a)).1,bx2 T a' (lm s (T.drop a)).2.1):=by
 obtain ⟨x,c,a1,e1,h1,e2⟩:=CZ hT hok ha (n:=6) (by omega) (by omega)
 have e2:dN 6 T (a:Int)=_:=e2
 rw [rS,e2]
 unfold lm
 rw [e1]
 simp only [Option.bind_some,bx]
 by_cases hc:c=0
 ·subst hc
  simp only [bne_self_eq_false,Bool.false_eq_true,if_false,ne_eq,not_true_eq_false]
  obtain ⟨k1,k2⟩:=xR hok h1
  rw [AI h1,k1]
  unfold My
  have rep:=fun s=>Ja hT hok h1 s
  cases hE:mh (T.drop a1) with
  | true=>
   simp only [Option.bind_some,Bool.not_true,Bool.false_eq_true,if_false,true_or,if_true]
   exact rep {s with fHasSubject:=true,fSubject:=x}
  | false=>
   cases hA:(pY (T.drop a1)).isSome with
   | true=>
    simp only [Option.bind_some,Bool.not_false,Bool.not_true,Bool.false_eq_true,if_false,or_true,if_true]
    exact rep {s with fHasSubject:=true,fSubject:=x}
   | false=>
    simp only [Option.bind_some,Bool.not_false,Bool.false_eq_true,if_false,or_self,if_true]
    rcases fT h1 with ⟨e0,e⟩ | ⟨t,hlt,hi,e,hm⟩
    ·rw [e] at hE;cases hE
    ·rw [hi,e]
     have hbf:bfr (t:: T.drop (a1+1))=t.fBefore:=rfl
     rw [hbf]
     simp only [Option.bind_some]
     by_cases hB:t.fBefore=true
     ·simp only [hB,Bool.not_true,Bool.false_eq_true,if_false,Bool.true_eq_false]
      rw [<-e]
      obtain ⟨y,d,a2,e3,h3,e4⟩:=CZ hT hok h1 (n:=1) (by omega) (by omega)
      have e4:dN 1 T (a1:Int)=_:=e4
      rw [e4]
      unfold Mx
      rw [e3]
      simp only [Option.bind_some,bx]
      by_cases hd:d=0
      ·subst hd
       simp only [bne_self_eq_false,Bool.false_eq_true,if_false,ne_eq,not_true_eq_false]
       exact Ja hT hok h3 {s with fHasSubject:=true,fSubject:=x,fHasPattern:=true,fPattern:=y}
      ·have hd2:(d !=0)=true:=by simpa using hd
       simp only [hd2,hd,if_true,ne_eq,not_false_eq_true]
       exact ⟨a2,h3,rfl,by simp [bx2,vm]⟩
     ·have hB':t.fBefore=false:=by simpa using hB
      simp only [hB',Bool.not_false,if_true]
      exact ⟨a1,h1,e.symm,by simp [bx2,vm]⟩
 ·have hc2:(c !=0)=true:=by simpa using hc
  simp only [hc2,hc,if_true,ne_eq,not_false_eq_true]
  exact ⟨a1,h1,rfl,by simp [bx2,vm]⟩
theorem Jb {T:List ac} (hT:T.length<=120) {a:Nat} (ha:a<=T.length) (s:ab) (o:Option (Int×((List ac×Int×Unit)×(List UInt8×Bool×Int×Int×List UInt8×List aa×Bool×Int×Int×List UInt8×List aa×Bool×Int×Int×List UInt8×List aa×List UInt8×List UInt8×List UInt8×Unit)×Unit)))
  (ho:o=(ba 10 T a).bind fun r198=>if Prod.fst r198=true then (eR (Prod.fst (Prod.fst (Prod.snd r198))) (Prod.fst (Prod.snd (Prod.fst (Prod.snd r198))))).bind fun r196=>bi (Prod.snd (Prod.fst r196)) (Prod.fst (Prod.fst (Prod.snd r196))) (Prod.fst (Prod.snd (Prod.fst (Prod.snd r196)))) s.fLabel s.fHasSubject s.fSubject.fKind s.fSubject.fNum s.fSubject.fText s.fSubject.fKids s.fHasPattern s.fPattern.fKind s.fPattern.fNum s.fPattern.fText s.fPattern.fKids s.fHasReplace s.fReplace.fKind s.fReplace.fNum s.fReplace.fText s.fReplace.fKids (aw.fAlways (Prod.fst (Prod.fst r196))) (aw.fSuccess (Prod.fst (Prod.fst r196))) (aw.fFailure (Prod.fst (Prod.fst r196)))
   else bi true (Prod.fst (Prod.fst (Prod.snd r198))) (Prod.fst (Prod.snd (Prod.fst (Prod.snd r198)))) s.fLabel s.fHasSubject s.fSubject.fKind s.fSubject.fNum s.fSubject.fText s.fSubject.fKids s.fHasPattern s.fPattern.fKind s.fPattern.fNum s.fPattern.fText s.fPattern.fKids s.fHasReplace s.fReplace.fKind s.fReplace.fNum s.fReplace.fText s.fReplace.fKids s.fGoto.fAlways s.fGoto.fSuccess s.fGoto.fFailure):
  ∃ (b:Int) (s':ab),o=some ((D2 s (T.drop a)).1,bx2 T b s')/\((D2 s (T.drop a)).1=0->s'=(D2 s (T.drop a)).2):=by
 subst ho
 have fin:∀ (a':Nat),a'<=T.length->∀ (c:Bool),((a':Int)==len T)=c->(T.drop a'=[]↔c=true):=by
  intro a' h c hc
  have hl:=bm T h
  subst hc
  rw [beq_iff_eq,aj]
  constructor
  ·intro e;rw [e] at hl;simp at hl;omega
  ·intro e;exact List.eq_nil_of_length_eq_zero (by omega)
 unfold D2
 rcases mM (by omega) ha 10 with ⟨e1,hlt,e2⟩ | ⟨e1,e2⟩
 ·rw [e1,e2]
  simp only [Option.bind_some,bx,if_true]
  rcases M9 (f:=(T.drop (a+1)).length+4) (T:=T) (by omega) (a:=a+1) (by omega) (by omega) with ⟨g,a',e3,h3,e4⟩ | ⟨e3,g,b,e4⟩
  ·rw [e3,e4]
   simp only [Option.bind_some,bx,dA,if_true,gL]
   have h5:=fin a' h3 _ rfl
   rcases Bool.eq_false_or_eq_true ((a':Int)==len T) with hc | hc
   ·have hy:=h5.2 hc
    simp only [hc,hy,if_true]
    exact ⟨a',{s with fGoto:=g},rfl,fun _=>rfl⟩
   ·have hn:¬ T.drop a'=[]:=fun e=>by rw [h5.1 e] at hc;cases hc
    simp only [hc,hn,Bool.false_eq_true,if_false]
    exact ⟨a',{s with fGoto:=g},rfl,fun _=>rfl⟩
  ·rw [e3,e4]
   simp only [Option.bind_some,dA,Bool.false_eq_true,if_false,gL]
   exact ⟨b,{s with fGoto:=g},rfl,fun h=>by simp at h⟩
 ·rw [e1,e2]
  simp only [Option.bind_some,bx,Bool.false_eq_true,if_false,dA,if_true,gL]
  have h5:=fin a ha _ rfl
  rcases Bool.eq_false_or_eq_true ((a:Int)==len T) with hc | hc
  ·have hy:=h5.2 hc
   simp only [hc,hy,if_true]
   exact ⟨a,s,rfl,fun _=>rfl⟩
  ·have hn:¬ T.drop a=[]:=fun e=>by rw [h5.1 e] at hc;cases hc
   simp only [hc,hn,Bool.false_eq_true,if_false]
   exact ⟨a,s,rfl,fun _=>rfl⟩
theorem BZ {T:List ac} (hT:T.length<=120) (hok:∀ t∈T,tOk t) (s:ab):
  ∃ (b:Int) (s':ab),dL T 0 s.fLabel s.fHasSubject s.fSubject.fKind s.fSubject.fNum s.fSubject.fText s.fSubject.fKids s.fHasPattern s.fPattern.fKind s.fPattern.fNum s.fPattern.fText s.fPattern.fKids s.fHasReplace s.fReplace.fKind s.fReplace.fNum s.fReplace.fText s.fReplace.fKids s.fGoto.fAlways s.fGoto.fSuccess s.fGoto.fFailure =
   some ((pSt s T).1,bx2 T b s')/\((pSt s T).1=0->s'=(pSt s T).2):=by
 have hE:=AI (T:=T) (a:=0) (Nat.zero_le _)
 rw [List.drop_zero] at hE
 have hE:eZ T 0=some (mh T):=hE
 rw [nh,hE]
 unfold pSt
 simp only [Option.bind_some]
 cases he:mh T with
 | true=>
  simp only [Bool.not_true,Bool.false_eq_true,if_false,if_true]
  have:=Jb hT (a:=0) (Nat.zero_le _) s _ rfl
  rw [List.drop_zero] at this
  exact this
 | false=>
  simp only [Bool.not_false,Bool.false_eq_true,if_false,if_true]
  obtain ⟨a',h1,e1,e2⟩:=Kl hT hok (a:=0) (Nat.zero_le _) s
  rw [List.drop_zero] at e1 e2
  have e2:gz T 0 _ _ _ _ _ _ _ _ _ _ _ _ _ _ _ _ _ _ _=_:=e2
  rw [e2,e1]
  simp only [Option.bind_some]
  by_cases hc:(lm s T).1=0
  ·rw [if_neg (by simpa using hc),if_neg (by simpa using hc)]
   exact Jb hT h1 (lm s T).2.1 _ rfl
  ·rw [if_pos (by simpa using hc),if_pos hc]
   exact ⟨a',(lm s T).2.1,rfl,fun _=>rfl⟩
end Go.Dv.U
