/- Plain laws about these equations. -/
import Derived.Test.YtpjcbihleclioaaGreatDoorFnProgramRoundEqb
set_option linter.all false
set_option linter.unusedVariables false
set_option linter.unusedSimpArgs false
namespace Go.Dv.U
open Go Go.Dv Go.Proofs
theorem ab.ind {P:ab->Prop} (h:∀ x,(∀ y∈x.fKids,P y)->P x):∀ x,P x:=by
 intro x
 exact ab.rec (motive_1:=P) (motive_2:=fun l=>∀ y∈l,P y) (fun a0 a1 a2 a3 ih=>h ⟨a0,a1,a2,a3⟩ ih) (fun y hy=>by cases hy)
  (fun a l ha hl y hy=>by
   cases hy with
   | head=>exact ha
   | tail _ hy=>exact hl y hy) x
mutual
def ab.m : ab->Nat
 | ⟨_,_,a2,a3⟩=>a2.length+(a3.length+ab.ms a3)
def ab.ms : List ab->Nat
 | []=>0
 | y:: r=>ab.m y+ab.ms r
end
theorem ab.ms_eq : ∀ l,ab.ms l=aG ab.m l
 | []=>rfl
 | y:: r=>by simp only [ab.ms,aG,ab.ms_eq r]
theorem ab.m_eq (x:ab):x.m=x.fText.length+(x.fKids.length+aG ab.m x.fKids):=by
 rw [<-ab.ms_eq];cases x;rfl
theorem ab.m_kid {x y:ab} (h:y∈x.fKids):y.m+x.fKids.length<=x.m:=by
 have:=jl (m:=ab.m) h
 rw [ab.m_eq x];omega
def az.m (x:az):Nat:=x.fAlways.length+x.fSuccess.length+x.fFailure.length
theorem az.m_eq (x:az):x.m=x.fAlways.length+x.fSuccess.length+x.fFailure.length:=rfl
def aa.m (x:aa):Nat:=x.fLabel.length+ab.m x.fSubject+ab.m x.fPattern+ab.m x.fReplace+az.m x.fGoto
theorem aa.m_eq (x:aa):x.m=x.fLabel.length+ab.m x.fSubject+ab.m x.fPattern+ab.m x.fReplace+az.m x.fGoto:=rfl
def ak.m (x:ak):Nat:=(x.fStatements.length+aG aa.m x.fStatements)
theorem ak.m_eq (x:ak):x.m=(x.fStatements.length+aG aa.m x.fStatements):=rfl
def ae.m (x:ae):Nat:=x.fText.length
theorem ae.m_eq (x:ae):x.m=x.fText.length:=rfl
def aP.m (x:aP):Nat:=x.fText.length
theorem aP.m_eq (x:aP):x.m=x.fText.length:=rfl
def bF.m (x:bF):Nat:=x.fText.length
theorem bF.m_eq (x:bF):x.m=x.fText.length:=rfl
def bz.m (x:bz):Nat:=x.fName.length+(x.fKeys.length+aG bF.m x.fKeys)+(x.fVals.length+aG bF.m x.fVals)+bF.m x.fDefault
theorem bz.m_eq (x:bz):x.m=x.fName.length+(x.fKeys.length+aG bF.m x.fKeys)+(x.fVals.length+aG bF.m x.fVals)+bF.m x.fDefault:=rfl
def dZ.m (x:dZ):Nat:=(x.fObjects.length+aG bz.m x.fObjects)
theorem dZ.m_eq (x:dZ):x.m=(x.fObjects.length+aG bz.m x.fObjects):=rfl
def aY.m (x:aY):Nat:=x.fName.length+bF.m x.fValue
theorem aY.m_eq (x:aY):x.m=x.fName.length+bF.m x.fValue:=rfl
def aO.m (x:aO):Nat:=x.fName.length+(x.fParams.length+aG List.length x.fParams)+(x.fLocals.length+aG List.length x.fLocals)+x.fLabel.length
theorem aO.m_eq (x:aO):x.m=x.fName.length+(x.fParams.length+aG List.length x.fParams)+(x.fLocals.length+aG List.length x.fLocals)+x.fLabel.length:=rfl
def aD.m (x:aD):Nat:=x.fName.length+(x.fFields.length+aG List.length x.fFields)
theorem aD.m_eq (x:aD):x.m=x.fName.length+(x.fFields.length+aG List.length x.fFields):=rfl
def b9.m (x:b9):Nat:=(x.fVars.length+aG aY.m x.fVars)+(x.fFunctions.length+aG aO.m x.fFunctions)+(x.fTypes.length+aG aD.m x.fTypes)
theorem b9.m_eq (x:b9):x.m=(x.fVars.length+aG aY.m x.fVars)+(x.fFunctions.length+aG aO.m x.fFunctions)+(x.fTypes.length+aG aD.m x.fTypes):=rfl
def eh.m (x:eh):Nat:=x.fName.length+(x.fLines.length+aG List.length x.fLines)
theorem eh.m_eq (x:eh):x.m=x.fName.length+(x.fLines.length+aG List.length x.fLines):=rfl
def aW.m (x:aW):Nat:=(x.fInput.length+aG List.length x.fInput)+(x.fOutput.length+aG List.length x.fOutput)+(x.fFiles.length+aG eh.m x.fFiles)+(x.fTrace.length+aG List.length x.fTrace)
theorem aW.m_eq (x:aW):x.m=(x.fInput.length+aG List.length x.fInput)+(x.fOutput.length+aG List.length x.fOutput)+(x.fFiles.length+aG eh.m x.fFiles)+(x.fTrace.length+aG List.length x.fTrace):=rfl
def bq.m (x:bq):Nat:=dZ.m x.fHeap+b9.m x.fScope+aW.m x.fConsole
theorem bq.m_eq (x:bq):x.m=dZ.m x.fHeap+b9.m x.fScope+aW.m x.fConsole:=rfl
def bc.m (x:bc):Nat:=bq.m x.fMemory
theorem bc.m_eq (x:bc):x.m=bq.m x.fMemory:=rfl
end Go.Dv.U

namespace Go.Dv
open Go
def yw {α:Type} (c:α->Nat->Bool):List α->Nat->Bool
 | [],_=>true
 | y:: r,i=>c y i&&yw c r (i+1)
theorem Ca {α:Type} {p:α->Bool} {c:α->Nat->Bool}:∀ (l:List α) (i:Nat),yw (fun y i=>p y&&c y i) l i=(l.all p&&yw c l i)
 | [],_=>rfl
 | y:: r,i=>by
  simp only [yw,List.all_cons,Ca r (i+1)]
  cases p y<;>cases c y i<;>cases r.all p<;>simp
theorem zW {α:Type} {xs:List α} (hx:xs.length<=9223372036854775807) {c:α->Nat->Bool} {J:Int->Option Bool}
  (hs:∀ (i:Nat) (y:α),i<xs.length->y∈xs->idx xs (i:Int)=some y->w64 ((i:Int)+1)=((i+1:Nat):Int)->J (i:Int)=if c y i=true then J ((i+1:Nat):Int) else some false):
  J 0=if yw c xs 0=true then J (xs.length:Int) else some false:=by
 refine bL hx (P:=fun i l=>J (i:Int)=if yw c l i=true then J (xs.length:Int) else some false) ?_ ?_
 ·simp [yw]
 ·intro i y l _ hlt hy hi hw ih
  rw [hs i y hlt hy hi hw]
  have hg:yw c (y:: l) i=(c y i&&yw c l (i+1)):=rfl
  by_cases hc:c y i=true
  ·rw [if_pos hc,ih]
   by_cases h2:yw c l (i+1)=true
   ·rw [if_pos h2,if_pos (by rw [hg,hc,h2];rfl)]
   ·rw [if_neg h2,if_neg (by rw [hg,hc];simpa using h2)]
  ·rw [if_neg hc,if_neg (by rw [hg];simp [hc])]
def ixF {α:Type} (p:α->Bool):List α->Nat->Int
 | [],_=>-1
 | y:: r,i=>if p y=true then (i:Int) else ixF p r (i+1)
theorem A9 {α:Type} {xs:List α} (hx:xs.length<=9223372036854775807) {p:α->Bool} {J:Int->Option Int}
  (hs:∀ (i:Nat) (y:α),i<xs.length->y∈xs->idx xs (i:Int)=some y->w64 ((i:Int)+1)=((i+1:Nat):Int)->J (i:Int)=if p y=true then some (i:Int) else J ((i+1:Nat):Int))
  (he:J (xs.length:Int)=some (-1)):J 0=some (ixF p xs 0):=by
 refine bL hx (P:=fun i l=>J (i:Int)=some (ixF p l i)) ?_ ?_
 ·rw [he];rfl
 ·intro i y l _ hlt hy hi hw ih
  rw [hs i y hlt hy hi hw]
  by_cases hc:p y=true
  ·rw [if_pos hc];simp [ixF,hc]
  ·rw [if_neg hc,ih];simp [ixF,hc]
theorem uq {α β γ:Type} {xs:List α} (hx:xs.length<=9223372036854775807) {f:α->List β} {B:Nat} {J:Int->List β->Option γ}
  (hs:∀ (i:Nat) (y:α) (a:List β),i<xs.length->y∈xs->idx xs (i:Int)=some y->w64 ((i:Int)+1)=((i+1:Nat):Int)->a.length+(f y).length<=B->J (i:Int) a=J ((i+1:Nat):Int) (a++f y))
  (hb:(xs.flatMap f).length<=B):J 0 []=J (xs.length:Int) (xs.flatMap f):=by
 have key:=bL hx (P:=fun i l=>∀ a:List β,a.length+(l.flatMap f).length<=B->J (i:Int) a=J (xs.length:Int) (a++l.flatMap f)) (by
  intro a _
  simp) (by
  intro i y l _ hlt hy hi hw ih a ha
  simp only [List.flatMap_cons,List.length_append] at ha
  rw [hs i y a hlt hy hi hw (by omega),ih (a++f y) (by simp only [List.length_append];omega)]
  simp only [List.flatMap_cons,List.append_assoc]) [] (by simpa using hb)
 simpa using key
theorem CZ (s:List UInt8):mS (s.map ib)=some s:=by
 unfold mS
 have h:((s.map ib).all fun n=>decide (0<=n)&&decide (n<256))=true:=by
  simp only [List.all_map,List.all_eq_true]
  intro x _
  simp [KD x,EJ x]
 rw [if_pos h,List.map_map]
 congr 1
 conv=>rhs;rw [<-List.map_id s]
 apply List.map_congr_left
 intro x _
 simp only [Function.comp,id,ib,Int.ofNat_eq_natCast,Int.toNat_natCast]
 exact UInt8.ofNat_toNat
end Go.Dv

namespace Go.Dv.U
open Go Go.Dv Go.Proofs
theorem jB (a b c:Int):lO a b c=some (decide (b<=a)&&decide (a<=c)):=by
 rw [A7];grind
theorem C0 (a b c:Int):A1 a b c=some (decide (b<=a)&&decide (a<=c)):=by
 rw [CY];grind
end Go.Dv.U

namespace Go.Dv.U
open Go Go.Dv Go.Proofs
def iB (b:Int):Bool:=(decide (65<=b)&&decide (b<=90))||(decide (97<=b)&&decide (b<=122))
def bp (b:Int):Bool:=decide (48<=b)&&decide (b<=57)
def bU (b:Int):Bool:=iB b||bp b||b==95
theorem l9 (b:Int):kZ b=some (iB b):=by
 rw [yk];unfold iB;grind
theorem kJ (b:Int):js b=some (iB b):=by
 rw [wN];unfold iB;grind
theorem nL (b:Int):nh b=some (bp b):=by
 rw [zT];unfold bp;grind
theorem ma (b:Int):lc b=some (bp b):=by
 rw [yr];unfold bp;grind
theorem nM (b:Int):ia b=some (bU b):=by
 rw [vQ,l9,nL];unfold bU
 simp only [Option.bind_some];grind
def bi (s:List UInt8):Bool:=match s with
 | []=>false
 | b:: _=>decide (s.length<=12)&&iB (ib b)&&s.all fun c=>bU (ib c)
theorem yx {s:List UInt8} (h:s.length<=9223372036854775807):cT (s.map ib)=some (s.all fun c=>bU (ib c)):=by
 rw [ij]
 have:=qo (xs:=s.map ib) (by simpa using h) (F:=ia) (p:=bU) (J:=bN (s.map ib) (len (s.map ib))) (fun i=>by rw [gg]) (fun y _=>nM y)
 rw [this,List.all_map]
 rfl
theorem pU {s:List UInt8}:lH s=some (bi s):=by
 rw [A2]
 cases s with
 | nil=>simp [bi,aj]
 | cons b r=>
  by_cases h:(b:: r).length<=12
  ·have h1:decide (len (b:: r)>=1)=true:=by simp only [aj,List.length_cons,decide_eq_true_eq];omega
   have h2:decide (len (b:: r)<=12)=true:=by simp only [aj,decide_eq_true_eq];omega
   rw [if_pos h1,if_pos h2,jQ]
   simp only [List.getElem?_cons_zero,Option.bind_some,l9]
   have:=yx (s:=b:: r) (by omega)
   simp only [List.map_cons] at this ⊢
   rw [this]
   simp only [bi,h,decide_true,Bool.true_and,Option.bind_some]
   cases iB (ib b)<;>simp
  ·have h2:¬ decide (len (b:: r)<=12)=true:=by simp only [aj,decide_eq_true_eq];omega
   rw [if_neg h2]
   simp only [bi,h,decide_false,Bool.false_and]
   split<;>rfl
def wO : List UInt8->Nat
 | []=>0
 | b:: r=>if bU (ib b) then wO r+1 else 0
theorem zX : ∀ s,wO s=s.length↔(s.all fun c=>bU (ib c))=true
 | []=>by simp [wO]
 | b:: r=>by
  have:=zX r
  simp only [wO,List.length_cons,List.all_cons,Bool.and_eq_true]
  cases bU (ib b)
  ·simp
  ·simp [this]
theorem qG {s:List UInt8} (h:s.length<=9223372036854775807):∀ (n i:Nat),i+n=s.length->gc s i=some ((i+wO (s.drop i):Nat):Int):=by
 intro n
 induction n with
 | zero=>
  intro i hi
  have:i=s.length:=by omega
  subst this
  rw [kh,km,List.drop_length]
  simp [aj,wO]
 | succ n ih=>
  intro i hi
  have hlt:i<s.length:=by omega
  have hc:decide ((i:Int)<len s)=true:=by simp [aj,hlt]
  rw [kh,if_pos hc,cp,List.getElem?_eq_getElem hlt,List.drop_eq_getElem_cons hlt]
  simp only [Option.bind_some,kJ,ma,qD,km,wO]
  have hw:w64 ((i:Int)+1)=((i+1:Nat):Int):=by rw [aR (by omega) (by omega)];omega
  rw [hw,ih (i+1) (by omega)]
  unfold bU
  cases iB (ib s[i])<;>cases bp (ib s[i])<;>cases hb:(ib s[i]==95)<;>simp<;>omega
theorem nN {s:List UInt8} (h:s.length<=9223372036854775807) {i:Nat} (hi:i<=s.length):
  jX s i=some (match s.drop i with
   | []=>(i:Int)
   | b:: r=>if iB (ib b) then ((i+wO (b:: r):Nat):Int) else i):=by
 rw [vL]
 by_cases hlt:i<s.length
 ·have hc:¬ decide ((i:Int)>=len s)=true:=by simp only [aj,decide_eq_true_eq];omega
  rw [if_neg hc,cp,List.getElem?_eq_getElem hlt,List.drop_eq_getElem_cons hlt]
  simp only [Option.bind_some,kJ]
  rw [qG h (s.length-i) i (by omega),List.drop_eq_getElem_cons hlt]
  cases iB (ib s[i])<;>simp
 ·have:i=s.length:=by omega
  subst this
  rw [List.drop_length]
  simp [aj]
theorem vX {s:List UInt8}:qr s=some (bi s):=by
 rw [A5]
 cases s with
 | nil=>simp [bi]
 | cons b r=>
  have h0:(!(b:: r)==[])=true:=rfl
  rw [if_pos h0]
  by_cases h:(b:: r).length<=12
  ·have h2:decide (len (b:: r)<=12)=true:=by simp only [aj,decide_eq_true_eq];omega
   have:=nN (s:=b:: r) (by omega) (Nat.zero_le _)
   simp only [Int.natCast_zero,List.drop_zero,Nat.zero_add] at this
   rw [if_pos h2,this]
   simp only [bi,h,decide_true,Bool.true_and,Option.bind_some,aj]
   congr 1
   rw [Bool.eq_iff_iff,Bool.and_eq_true,<-zX]
   cases hL:iB (ib b)
   ·simp;omega
   ·simp;omega
  ·have h2:¬ decide (len (b:: r)<=12)=true:=by simp only [aj,decide_eq_true_eq];omega
   rw [if_neg h2]
   simp only [bi,h,decide_false,Bool.false_and]
end Go.Dv.U

namespace Go.Dv.U
open Go Go.Dv Go.Proofs
def Gw (b:UInt8):Bool:=decide (32<=ib b)&&decide (ib b<=126)
def dJ (s:List UInt8):Bool:=s.all Gw
def hasB (c:Int) (s:List UInt8):Bool:=s.any fun b=>ib b==c
theorem zY (b:Int):qu b=some (decide (32<=b)&&decide (b<=126)):=by
 rw [zR];grind
theorem fC {s:List UInt8} (h:s.length<=9223372036854775807):eD s=some (dJ s):=by
 rw [tq,jw]
 have:=qo (xs:=s.map ib) (by simpa using h) (F:=qu) (p:=fun b=>decide (32<=b)&&decide (b<=126)) (J:=bY (s.map ib) (len (s.map ib))) (fun i=>by rw [ii]) (fun y _=>zY y)
 rw [this,List.all_map]
 rfl
def Fz (x:Bool) (b:UInt8):Bool:=Gw b||(x&&ib b==10)
theorem s_l01Printable_ok' {s:List UInt8} (h:s.length<=9223372036854775807) (x:Bool):fg s x=some (s.all (Fz x)):=by
 rw [rL]
 refine bL (xs:=s) h (P:=fun i l=>eH s x i=some (l.all (Fz x))) ?_ ?_
 ·rw [iK];simp [aj]
 ·intro i y l _ hlt hy hi hw ih
  rw [iK,hi,if_pos (by simp [aj,hlt])]
  simp only [Option.bind_some,oI,oJ,hw,ih,List.all_cons,Fz,Gw]
  by_cases h1:ib y<32
  ·have h3:¬ (32<=ib y):=by omega
   cases x<;>by_cases h2:ib y=10<;>simp [h1,h2,h3]
  ·have h3:32<=ib y:=by omega
   by_cases h2:ib y>126
   ·have h4:¬ (ib y<=126):=by omega
    have h5:¬ ib y=10:=by omega
    cases x<;>simp [h1,h2,h3,h4,h5]
   ·have h4:ib y<=126:=by omega
    cases x<;>simp [h1,h2,h3,h4]
theorem lm {s:List UInt8} (h:s.length<=9223372036854775807):fg s false=some (dJ s):=by
 rw [s_l01Printable_ok' h]
 congr 1
 unfold dJ
 congr 1
 funext b
 simp [Fz]
theorem mb {s:List UInt8} (h:s.length<=9223372036854775807) (c:Int):k8 s c=some (hasB c s):=by
 rw [yp]
 exact Gv h (p:=fun b=>ib b==c) (J:=iY s c) (fun i=>by rw [tQ])
theorem vY (c:UInt8):∀ s:List UInt8,decide (0<=Lib.index s [c])=hasB (ib c) s
 | []=>by simp [Lib.index,hasB]
 | b:: l=>by
  have ih:=vY c l
  have hge:=Lib.index_ge l [c]
  unfold Lib.index
  have hp:[c].isPrefixOf (b:: l)=(ib b==ib c):=by
   rw [Bool.eq_iff_iff]
   simp only [List.isPrefixOf,Bool.and_true,beq_iff_eq,vd]
   exact eq_comm
  have hh:hasB (ib c) (b:: l)=(ib b==ib c||hasB (ib c) l):=rfl
  rw [hp,hh,<-ih]
  cases (ib b==ib c)
  ·simp only [Bool.false_eq_true,if_false,Bool.false_or]
   split
   ·rename_i h;rw [beq_iff_eq] at h;rw [h]
   ·rename_i h
    have h:¬ Lib.index l [c] = -1:=by simpa using h
    rw [Bool.eq_iff_iff,decide_eq_true_eq,decide_eq_true_eq];omega
  ·simp
theorem jb {s:List UInt8} (h:s.length<4294967281) (c:UInt8):eo s [c]=some (hasB (ib c) s):=by
 unfold eo
 rw [if_pos h,<-vY]
 rfl
def wo (s:List UInt8):Bool:=decide (s.length<=200)&&dJ s&&!(hasB 39 s&&hasB 34 s)
def qH (s:List UInt8):List UInt8:=if wo s=true then (if hasB 39 s=true then 34:: s++[34] else 39:: s++[39]) else []
theorem c39 (s:List UInt8) (h:s.length<=200):eo s [39]=some (hasB 39 s):=jb (by omega) 39
theorem c34 (s:List UInt8) (h:s.length<=200):eo s [34]=some (hasB 34 s):=jb (by omega) 34
theorem mc (s:List UInt8):k7 s=some (wo s):=by
 rw [ym]
 by_cases h:s.length<=200
 ·have h1:decide (len s<=200)=true:=by simp only [aj,decide_eq_true_eq];omega
  rw [if_pos h1,fC (by omega),c39 s h,c34 s h]
  simp only [Option.bind_some,wo,h,decide_true,Bool.true_and]
  cases dJ s<;>cases hasB 39 s<;>simp
 ·have h1:¬ decide (len s<=200)=true:=by simp only [aj,decide_eq_true_eq];omega
  rw [if_neg h1]
  simp [wo,h]
theorem qI (s:List UInt8):oo s=some (wo s):=by
 rw [yn]
 by_cases h:s.length<=200
 ·have h1:decide (len s<=200)=true:=by simp only [aj,decide_eq_true_eq];omega
  rw [if_pos h1,lm (by omega),mb (by omega),mb (by omega)]
  simp only [Option.bind_some,wo,h,decide_true,Bool.true_and]
  cases dJ s<;>cases hasB 39 s<;>simp
 ·have h1:¬ decide (len s<=200)=true:=by simp only [aj,decide_eq_true_eq];omega
  rw [if_neg h1]
  simp [wo,h]
theorem yy {s:List UInt8} (h:wo s=true):s.length<=200:=by
 unfold wo at h
 simp only [Bool.and_eq_true_iff,decide_eq_true_eq] at h
 exact h.1.1
theorem EN (s:List UInt8):(qH s).length<=202:=by
 unfold qH
 split
 ·rename_i h
  have:=yy h
  split<;>simp<;>omega
 ·simp
theorem tX (s:List UInt8):lK s=some (qH s):=by
 rw [tH,mc]
 simp only [Option.bind_some,qH]
 cases h:wo s
 ·rfl
 ·have hl:=yy h
  simp only [Bool.not_true,Bool.false_eq_true,if_false,if_true,c39 s hl,Option.bind_some]
  rw [av (by simp;omega),av (by simp;omega)]
  simp only [Option.bind_some]
  rw [av (by simp;omega),av (by simp;omega)]
  cases hasB 39 s<;>rfl
theorem tY (s:List UInt8):lM s=some (qH s):=by
 rw [tI,qI]
 simp only [Option.bind_some,qH]
 cases h:wo s
 ·rfl
 ·have hl:=yy h
  simp only [Bool.not_true,Bool.false_eq_true,if_false,if_true,mb (show s.length<=9223372036854775807 by omega),Option.bind_some]
  rw [av (by simp;omega),av (by simp;omega)]
  simp only [Option.bind_some]
  rw [av (by simp;omega),av (by simp;omega)]
  cases hasB 39 s<;>rfl
theorem ou : ∀ (k u:Nat),u<10 ^ (k+1)->Lib.nDigits u<=k+1
 | 0,u,h=>by rw [Lib.nDigits_small (by simpa using h)];exact Nat.le_refl _
 | k+1,u,h=>by
  by_cases hu:u<10
  ·rw [Lib.nDigits_small hu];omega
  ·rw [Lib.nDigits_big hu]
   have:=ou k (u / 10) (by rw [Nat.div_lt_iff_lt_mul (by decide)];rw [Nat.pow_succ] at h;exact h)
   omega
theorem sA {r:Int} (h0:0<=r) (h1:r<10):UInt8.ofNat (Int.toNat (IntKind.wrap .u8 (w64 (48+r))))=UInt8.ofNat (48+r.toNat):=by
 rw [aR (by omega) (by omega)]
 have e2:IntKind.u8.wrap (48+r)=48+r:=by unfold IntKind.wrap;simp [IntKind.bits,IntKind.signed];omega
 rw [e2]
 congr 1
 omega
theorem Ib (u:Nat):rem (u:Int) 10=some ((u % 10:Nat):Int):=by
 unfold rem
 rw [if_neg (by decide),Int.tmod_eq_emod_of_nonneg (by omega)]
 congr 1
theorem Ic {u:Nat} (h:u<9223372036854775808):quo .i64 (u:Int) 10=some ((u / 10:Nat):Int):=by
 unfold quo
 rw [if_neg (by decide),Int.tdiv_eq_ediv_of_nonneg (by omega)]
 congr 1
 have:IntKind.i64.wrap ((u:Int) / 10)=w64 ((u:Int) / 10):=rfl
 rw [this,aR (by omega) (by omega)]
 omega
theorem wP : ∀ (k u:Nat) (s:List UInt8),u<10 ^ (k+1)->u<9223372036854775808->s.length+k+1<=1000->lP u s=some (Lib.decDigits u++s):=by
 intro k
 induction k with
 | zero=>
  intro u s h h2 hl
  have hu:u<10:=by simpa using h
  rw [kG,if_neg (by simp only [decide_eq_true_eq];omega)]
  simp only [List.map_cons,List.map_nil,sA (r:=(u:Int)) (by omega) (by omega),Int.toNat_natCast]
  rw [av (by simp;omega)]
  rw [Lib.decDigits_one hu]
  rfl
 | succ k ih=>
  intro u s h h2 hl
  by_cases hu:u<10
  ·rw [kG,if_neg (by simp only [decide_eq_true_eq];omega)]
   simp only [List.map_cons,List.map_nil,sA (r:=(u:Int)) (by omega) (by omega),Int.toNat_natCast]
   rw [av (by simp;omega),Lib.decDigits_one hu]
   rfl
  ·rw [kG,if_pos (by simp only [decide_eq_true_eq];omega),Ib,Ic h2]
   simp only [Option.bind_some,List.map_cons,List.map_nil,sA (r:=((u % 10:Nat):Int)) (by omega) (by omega),Int.toNat_natCast]
   rw [av (by simp;omega)]
   simp only [Option.bind_some]
   rw [ih (u / 10) _ (by rw [Nat.div_lt_iff_lt_mul (by decide)];rw [Nat.pow_succ] at h;exact h) (by omega) (by simp;omega)]
   have hd:Lib.decDigits u=Lib.decDigits (u / 10)++[UInt8.ofNat (48+u % 10)]:=by
    rw [Lib.decDigits,dif_neg hu]
   rw [hd]
   simp
theorem yz (u:Nat):Lib.itoa (u:Int)=Lib.decDigits u:=by
 unfold Lib.itoa
 rw [if_neg (by omega)]
 rfl
theorem Ba {n:Int} (h0:0<=n) (h1:n<9223372036854775808):up n=some (Lib.itoa n):=by
 obtain ⟨u,rfl⟩:∃ u:Nat,n=u:=⟨n.toNat,by omega⟩
 rw [A6,if_neg (by simp),wP 18 u [] (by omega) (by omega) (by decide),yz]
 simp
theorem zZ {n:Int} (h0:-9223372036854775808<=n) (h1:n<=9223372036854775807):vn n=some (Lib.itoa n):=by
 rw [zO]
 unfold Gn
 rw [if_pos ⟨rfl,h0,h1⟩]
 rfl
theorem Gx {n:Int} (h0:0<=n) (h1:n<=1000000000000):(Lib.itoa n).length<=13:=by
 obtain ⟨u,rfl⟩:∃ u:Nat,n=u:=⟨n.toNat,by omega⟩
 rw [yz,Lib.decDigits_length]
 exact ou 12 u (by omega)
end Go.Dv.U

namespace Go.Dv.U
open Go Go.Dv Go.Proofs
def ef (c:List Int) (a B:Int):Prop:=(∀ y∈c,0<=y/\y<=255)/\c.length<=9223372036854775807/\0<=a/\a<=B
def Dr {α:Type} (o:Option (α×((List Int×Int×Int×Unit)×Unit))) (B:Int) (P:α->Prop):Prop:=∃ v c a s,o=some (v,((c,a,s,()),()))/\ef c a B/\P v
theorem ef.le {c:List Int} {a B B':Int} (h:ef c a B) (hb:B<=B'):ef c a B':=⟨h.1,h.2.1,h.2.2.1,by have:=h.2.2.2;omega⟩
theorem Dr.le {α:Type} {o:Option (α×((List Int×Int×Int×Unit)×Unit))} {B B':Int} {P Q:α->Prop} (h:Dr o B P) (hb:B<=B') (hq:∀ v,P v->Q v):Dr o B' Q:=by
 obtain ⟨v,c,a,s,h1,h2,h3⟩:=h
 exact ⟨v,c,a,s,h1,h2.le hb,hq v h3⟩
theorem Dr.bind {α β:Type} {o:Option (α×((List Int×Int×Int×Unit)×Unit))} {B B':Int} {P:α->Prop} {Q:β->Prop} {k:α×((List Int×Int×Int×Unit)×Unit)->Option (β×((List Int×Int×Int×Unit)×Unit))}
  (h:Dr o B P) (hk:∀ v c a s,ef c a B->P v->Dr (k (v,((c,a,s,()),()))) B' Q):Dr (o.bind k) B' Q:=by
 obtain ⟨v,c,a,s,rfl,h2,h3⟩:=h
 exact hk v c a s h2 h3
theorem Dr.some {α:Type} {v:α} {c:List Int} {a s B:Int} {P:α->Prop} (h:ef c a B) (hp:P v):Dr (Option.some (v,((c,a,s,()),()))) B P:=⟨v,c,a,s,rfl,h,hp⟩
theorem Hc (y:Int):0<=w64 (oT Go.BinOp.and Go.IntKind.u64 y 255)/\w64 (oT Go.BinOp.and Go.IntKind.u64 y 255)<=255:=by
 have h:(BitVec.ofInt IntKind.u64.bits y &&& BitVec.ofInt IntKind.u64.bits 255).toNat<=255:=by
  rw [BitVec.toNat_and]
  exact Nat.le_trans Nat.and_le_right (by decide)
 have e:oT Go.BinOp.and Go.IntKind.u64 y 255=((BitVec.ofInt IntKind.u64.bits y &&& BitVec.ofInt IntKind.u64.bits 255).toNat:Int):=by
  show IntKind.u64.wrap _=_
  generalize (BitVec.ofInt IntKind.u64.bits y &&& BitVec.ofInt IntKind.u64.bits 255).toNat=m at h
  unfold IntKind.wrap
  simp [IntKind.bits,IntKind.signed]
  omega
 rw [e,aR (by omega) (by omega)]
 omega
theorem mw {c:List Int} {a s B:Int} (h:ef c a B) (hB:B<=4611686018427387904):Dr (iU c a s) (B+1) (fun v=>0<=v/\v<=255):=by
 obtain ⟨h1,h2,h3,h4⟩:=h
 have hs:ef c (w64 (a+1)) (B+1):=⟨h1,h2,by rw [aR (by omega) (by omega)];omega,by rw [aR (by omega) (by omega)];omega⟩
 rw [tK]
 have hsh:∀ x:Int,shr Go.IntKind.u64 x 40=some (x.fdiv (2 ^ (min (Int.toNat 40) Go.IntKind.u64.bits))):=fun x=>rfl
 simp only [hsh,Option.bind_some]
 by_cases hlt:a<c.length
 ·obtain ⟨n,rfl⟩:∃ n:Nat,a=n:=⟨a.toNat,by omega⟩
  have hn:n<c.length:=by omega
  rw [if_pos (by simpa [aj] using hlt),cp,List.getElem?_eq_getElem hn]
  have hy:=h1 _ (List.getElem_mem hn)
  simp only [Option.bind_some]
  split
  ·exact Dr.some hs (by rw [aR (by omega) (by omega)];exact hy)
  ·exact Dr.some hs (Hc _)
 ·rw [if_neg (by simpa [aj] using hlt)]
  split
  ·exact Dr.some hs (by omega)
  ·exact Dr.some hs (Hc _)
theorem Hd {x n:Int} (hx:0<=x) (hn:1<n):∃ y,rem x n=some y/\0<=y/\y<n:=by
 unfold rem
 rw [if_neg (by omega)]
 refine ⟨_,rfl,?_,?_⟩
 ·rw [Int.tmod_eq_emod_of_nonneg hx];exact Int.emod_nonneg _ (by omega)
 ·rw [Int.tmod_eq_emod_of_nonneg hx];exact Int.emod_lt_of_pos _ (by omega)
theorem aK (n:Int) {c:List Int} {a s B:Int} (h:ef c a B) (hB:B<=4611686018427387000):Dr (aw n c a s) (B+2) (fun v=>0<=v/\(1<n->v<n)/\(n<=1->v=0)):=by
 rw [tC]
 by_cases h1:n<=1
 ·rw [if_pos (by simpa using h1)]
  exact Dr.some (h.le (by omega)) ⟨by omega,fun h=>by omega,fun _=>rfl⟩
 rw [if_neg (by simpa using h1)]
 refine (mw h (by omega)).bind fun v c2 a2 s2 h2 hv=>?_
 simp only
 by_cases h3:n>200
 ·rw [if_pos (by simpa using h3)]
  refine (mw h2 (by omega)).bind fun v2 c3 a3 s3 h4 hv2=>?_
  simp only
  rw [aR (n:=v*256) (by omega) (by omega),aR (by omega) (by omega)]
  obtain ⟨y,hy,y0,y1⟩:=Hd (x:=v*256+v2) (n:=n) (by omega) (by omega)
  rw [hy]
  exact Dr.some (h4.le (by omega)) ⟨y0,fun _=>y1,fun h=>by omega⟩
 ·rw [if_neg (by simpa using h3)]
  obtain ⟨y,hy,y0,y1⟩:=Hd (x:=v) (n:=n) (by omega) (by omega)
  rw [hy]
  exact Dr.some (h2.le (by omega)) ⟨y0,fun _=>y1,fun h=>by omega⟩
theorem dG (n:Int) {c:List Int} {a s B:Int} (h:ef c a B) (hB:B<=4611686018427387000):Dr (aZ n c a s) (B+2) (fun _=>True):=by
 rw [vA]
 exact (aK n h hB).bind fun v c2 a2 s2 h2 hv=>Dr.some h2 trivial
theorem Cb {α:Type} {xs:List α} {v:Int} (hv:0<=v/\(1<(len xs)->v<len xs)/\(len xs<=1->v=0)) (hx:xs≠[]):∃ y,idx xs v=some y/\y∈xs:=by
 have hp:0<xs.length:=List.length_pos_iff.2 hx
 rw [aj] at hv
 have hlt:v.toNat<xs.length:=by
  by_cases h:(1:Int)<xs.length
  ·have:=hv.2.1 h;omega
  ·have:=hv.2.2 (by omega);omega
 exact ⟨xs[v.toNat],by rw [G9 hv.1,List.getElem?_eq_getElem hlt],List.getElem_mem hlt⟩
theorem tZ (xs:List (List UInt8)) (hx:xs≠[]) {c:List Int} {a s B:Int} (h:ef c a B) (hB:B<=4611686018427387000):Dr (aT xs c a s) (B+2) (fun v=>v∈xs):=by
 rw [tB]
 refine (aK _ h hB).bind fun v c2 a2 s2 h2 hv=>?_
 obtain ⟨y,hy,hm⟩:=Cb hv hx
 simp only [hy,Option.bind_some]
 exact Dr.some h2 hm
theorem ln (xs:List Int) (hx:xs≠[]) {c:List Int} {a s B:Int} (h:ef c a B) (hB:B<=4611686018427387000):Dr (gV xs c a s) (B+2) (fun v=>v∈xs):=by
 rw [rR]
 refine (aK _ h hB).bind fun v c2 a2 s2 h2 hv=>?_
 obtain ⟨y,hy,hm⟩:=Cb hv hx
 simp only [hy,Option.bind_some]
 exact Dr.some h2 hm
end Go.Dv.U

namespace Go.Dv.U
open Go Go.Dv Go.Proofs
theorem Bb (a b:Int):pn [a,b]=some (if a≠0 then a else b):=by
 rw [rQ]
 have e2:len [a,b]=2:=rfl
 have w1:w64 (0+1)=1:=by decide
 have w2:w64 (1+1)=2:=by decide
 rw [e2,cn,if_pos (by decide),jQ]
 simp only [List.getElem?_cons_zero,Option.bind_some]
 by_cases ha:a=0
 ·subst ha
  rw [if_neg (by simp),w1,cn,if_pos (by decide),pm]
  simp only [List.getElem?_cons_succ,List.getElem?_cons_zero,Option.bind_some]
  by_cases hb:b=0
  ·subst hb
   rw [if_neg (by simp),w2,cn,if_neg (by decide)]
   simp
  ·rw [if_pos (by simpa using hb)];simp
 ·rw [if_pos (by simpa using ha),if_pos ha]
theorem Bc (b:Bool) (n:Int):f9 b n=some (if b=true then 0 else n):=by
 rw [fI,ol]
end Go.Dv.U

namespace Go.Dv.U
open Go Go.Dv Go.Proofs
def aL (p:Int->Bool):List UInt8->Nat
 | []=>0
 | b:: r=>if p (ib b)=true then aL p r+1 else 0
theorem gl (p:Int->Bool):∀ s,aL p s<=s.length
 | []=>Nat.le_refl _
 | b:: r=>by
  have:=gl p r
  simp only [aL,List.length_cons]
  split<;>omega
theorem ip (p:Int->Bool):∀ s:List UInt8,(s.take (aL p s)).all (fun b=>p (ib b))=true
 | []=>rfl
 | b:: r=>by
  simp only [aL]
  split
  ·rename_i h
   rw [List.take_succ_cons,List.all_cons,ip p r,h];rfl
  ·rfl
theorem Cc : ∀ s,aL bU s=wO s
 | []=>rfl
 | b:: r=>by
  simp only [aL,wO,Cc r]
def nO (b:Int):Bool:=b==43||b==45||b==42||b==47||b==124||b==46||b==36||b==64||b==61
def cu (b:Int):Int:=if b=40 then 5 else if b=41 then 6 else if b=60 then 7 else if b=62 then 8 else if b=44 then 9 else if b=58 then 10 else 0
def kK : List UInt8->Option (Int×Int×List UInt8×Nat)
 | []=>none
 | b:: r=>
  if iB (ib b)=true then (if aL bU (b:: r)<=12 then some (1,0,(b:: r).take (aL bU (b:: r)),aL bU (b:: r)) else none)
  else if bp (ib b)=true then (if aL bp (b:: r)<=13/\wn ((b:: r).take (aL bp (b:: r))) 0<=1000000000000 then some (2,((wn ((b:: r).take (aL bp (b:: r))) 0:Nat):Int),[],aL bp (b:: r)) else none)
  else if ib b=39\/ib b=34 then (if aL (fun c=>c !=ib b) r<r.length/\aL (fun c=>c !=ib b) r<=200 then some (3,0,r.take (aL (fun c=>c !=ib b) r),aL (fun c=>c !=ib b) r+2) else none)
  else if nO (ib b)=true then some (4,0,[b],1)
  else if cu (ib b)≠0 then some (cu (ib b),0,[],1) else none
theorem ci (b:UInt8) (r:List UInt8):kK (b:: r) =
  if iB (ib b)=true then (if aL bU (b:: r)<=12 then some (1,0,(b:: r).take (aL bU (b:: r)),aL bU (b:: r)) else none)
  else if bp (ib b)=true then (if aL bp (b:: r)<=13/\wn ((b:: r).take (aL bp (b:: r))) 0<=1000000000000 then some (2,((wn ((b:: r).take (aL bp (b:: r))) 0:Nat):Int),[],aL bp (b:: r)) else none)
  else if ib b=39\/ib b=34 then (if aL (fun c=>c !=ib b) r<r.length/\aL (fun c=>c !=ib b) r<=200 then some (3,0,r.take (aL (fun c=>c !=ib b) r),aL (fun c=>c !=ib b) r+2) else none)
  else if nO (ib b)=true then some (4,0,[b],1)
  else if cu (ib b)≠0 then some (cu (ib b),0,[],1) else none:=rfl
theorem nP {s:List UInt8} {k n:Int} {t:List UInt8} {m:Nat} (h:kK s=some (k,n,t,m)):1<=m/\m<=s.length:=by
 cases s with
 | nil=>cases h
 | cons b r=>
  rw [ci] at h
  have l1:=gl bU (b:: r)
  have l2:=gl bp (b:: r)
  have l3:=gl (fun c=>c !=ib b) r
  simp only [List.length_cons] at l1 l2 ⊢
  split at h
  ·rename_i hl
   have:1<=aL bU (b:: r):=by
    have:bU (ib b)=true:=by unfold bU;rw [hl];rfl
    simp only [aL,this,if_true];omega
   split at h
   ·cases h;omega
   ·cases h
  split at h
  ·rename_i hl
   have:1<=aL bp (b:: r):=by simp only [aL,hl,if_true];omega
   split at h
   ·cases h;omega
   ·cases h
  split at h
  ·split at h
   ·rename_i hc;cases h;omega
   ·cases h
  split at h
  ·cases h;omega
  split at h
  ·cases h;omega
  ·cases h
def aX (s:List UInt8):Bool:=match s with | []=>true | b:: _=>ib b==32
def gP : Nat->List UInt8->Bool->List ae->Nat->List ae×Int×Int
 | _,[],_,out,_=>(out,0,0)
 | 0,_:: _,_,out,_=>(out,0,0)
 | n+1,b:: r,bl,out,at_=>if ib b=32 then gP n r true out (at_+1) else match kK (b:: r) with
  | none=>([],at_,2)
  | some (k,m,t,w)=>if 120<=out.length then ([],at_,6) else gP n ((b:: r).drop w) false (out++[⟨k,m,t,bl,aX ((b:: r).drop w)⟩]) (at_+w)
theorem yA {x:List UInt8} (hx:x.length<=1000000) (p:Int->Bool) {J:Int->Option Int} (at_:Nat) (hJ:∀ i:Int,J i=if decide (i<len x)=true then (idx x i).bind fun y=>if p (ib y)=true then J (w64 (i+1)) else some (w64 (i-at_)) else some (w64 (i-at_))):
  ∀ (l:List UInt8) (j:Nat),x.drop j=l->at_<=j->j<=x.length->J (j:Int)=some ((j-at_+aL p l:Nat):Int):=by
 intro l
 induction l with
 | nil=>
  intro j hd ha hj
  have:x.length<=j:=by
   have:=congrArg List.length hd
   simp at this;omega
  rw [hJ,if_neg (by simp [aj];omega),aR (by omega) (by omega)]
  simp [aL];omega
 | cons b l ih=>
  intro j hd ha hj
  have hlt:j<x.length:=by
   have:=congrArg List.length hd
   simp at this;omega
  rw [List.drop_eq_getElem_cons hlt] at hd
  simp only [List.cons.injEq] at hd
  rw [hJ,if_pos (by simp [aj,hlt]),cp,List.getElem?_eq_getElem hlt,hd.1]
  simp only [Option.bind_some,aL]
  cases hp:p (ib b)
  ·rw [if_neg (by simp),aR (by omega) (by omega)]
   simp;omega
  ·rw [if_pos rfl,aR (by omega) (by omega),show (j:Int)+1=((j+1:Nat):Int) by omega,ih (j+1) hd.2 (by omega) (by omega)]
   simp;omega
section
variable {x:List UInt8} (hx:x.length<=4000)

include hx
theorem Id {j:Nat} (hj:j<=x.length):eT x (j:Int)=some (aL bU (x.drop j):Int):=by
 rw [lV]
 have:=yA (x:=x) (by omega) bU (J:=cG x (j:Int)) j (fun i=>by rw [jK];simp only [nM,Option.bind_some]) (x.drop j) j rfl (Nat.le_refl _) hj
 rw [this];simp
theorem Ie {j:Nat} (hj:j<=x.length):gM x (j:Int)=some (aL bp (x.drop j):Int):=by
 rw [oM]
 have:=yA (x:=x) (by omega) bp (J:=du x (j:Int)) j (fun i=>by rw [lX];simp only [nL,Option.bind_some]) (x.drop j) j rfl (Nat.le_refl _) hj
 rw [this];simp
theorem If (q:Int) {j:Nat} (hj:j<=x.length):cb x (j:Int) q=some (aL (fun c=>c !=q) (x.drop j):Int):=by
 rw [kH]
 have:=yA (x:=x) (by omega) (fun c=>c !=q) (J:=ck x (j:Int) q) j (fun i=>by rw [i7];simp only [rZ,Option.bind_some]) (x.drop j) j rfl (Nat.le_refl _) hj
 rw [this];simp
theorem Ig {j:Nat} (hj:j<=x.length):dO x (j:Int)=some (aL (fun c=>c==32) (x.drop j):Int):=by
 rw [jI]
 have:=yA (x:=x) (by omega) (fun c=>c==32) (J:=ca x (j:Int)) j (fun i=>by rw [iA];simp only [qE,Option.bind_some]) (x.drop j) j rfl (Nat.le_refl _) hj
 rw [this];simp
end
theorem xu {x:List UInt8} {j m:Nat} (h:j+m<=x.length):cut x (j:Int) (Option.getD (some ((j+m:Nat):Int)) (len x))=some ((x.drop j).take m):=by
 have:=kU (xs:=x) (a:=j) (b:=j+m) (by omega) h
 rw [Option.getD_some,this,List.drop_take]
 congr 2;omega
theorem EO (b:UInt8):gF [43,45,42,47,124,46,36,64,61] (ib b)=some (Lib.indexByte [43,45,42,47,124,46,36,64,61] b):=by
 unfold gF
 have:(ib b).toNat.toUInt8=b:=by simp [ib]
 rw [this]
theorem C1 (b:UInt8):gF [40,41,60,62,44,58] (ib b)=some (Lib.indexByte [40,41,60,62,44,58] b):=by
 unfold gF
 have:(ib b).toNat.toUInt8=b:=by simp [ib]
 rw [this]
theorem ew {P:UInt8->Prop} (h:∀ n:Fin 256,P (UInt8.ofNat n)) (b:UInt8):P b:=by
 have:=h ⟨b.toNat,b.toNat_lt⟩
 simpa using this
theorem He : ∀ b:UInt8,decide (Lib.indexByte [43,45,42,47,124,46,36,64,61] b>=0)=nO (ib b):=ew (by decide +kernel)
theorem Ih : ∀ b:UInt8,(Lib.indexByte [40,41,60,62,44,58] b = -1/\cu (ib b)=0)\/(0<=Lib.indexByte [40,41,60,62,44,58] b/\cu (ib b)=5+Lib.indexByte [40,41,60,62,44,58] b/\Lib.indexByte [40,41,60,62,44,58] b<=5):=ew (by decide +kernel)
theorem Jl : ∀ b:UInt8,nO (ib b)=true->chr (ib b)=some [b]:=ew (by decide +kernel)
theorem wQ {x:List UInt8} (hx:x.length<=4000) {j:Nat} (hj:j<x.length):∃ (tk:ae) (n:Int) (ok:Bool),pp x (j:Int)=some (tk,n,ok) /\
    (match kK (x.drop j) with | none=>ok=false | some (k,m,t,w)=>ok=true/\tk.fKind=k/\tk.fNum=m/\tk.fText=t/\n=(w:Int)):=by
  obtain ⟨b,r,hd⟩:∃ b r,x.drop j=b:: r:=⟨_,_,List.drop_eq_getElem_cons hj⟩
  have hget:idx x (j:Int)=some b:=by
    rw [cp,List.getElem?_eq_getElem hj]
    rw [List.drop_eq_getElem_cons hj] at hd
    simp only [List.cons.injEq] at hd
    rw [hd.1]
  have hd1:x.drop (j+1)=r:=by
    rw [List.drop_eq_getElem_cons hj] at hd
    simp only [List.cons.injEq] at hd
    exact hd.2
  have hrl:(b:: r).length=x.length-j:=by rw [<-hd,List.length_drop]
  simp only [List.length_cons] at hrl
  rw [wJ,hget,hd,ci]
  simp only [Option.bind_some,l9,nL]
  by_cases h1:iB (ib b)=true
  · rw [if_pos h1,if_pos h1,Id hx (by omega),hd]
    have hle:=gl bU (b:: r)
    simp only [List.length_cons] at hle
    generalize hn:aL bU (b:: r)=n at hle
    simp only [Option.bind_some]
    rw [aR (by omega) (by omega),show (j:Int)+(n:Int)=((j+n:Nat):Int) by omega,xu (by omega),hd]
    simp only [Option.bind_some]
    refine ⟨_,_,_,rfl,?_⟩
    by_cases h12:n<=12
    · rw [if_pos h12]
      exact ⟨by simp;omega,rfl,rfl,rfl,rfl⟩
    · rw [if_neg h12]
      simp;omega
  rw [if_neg h1,if_neg h1]
  by_cases h2:bp (ib b)=true
  · rw [if_pos h2,if_pos h2,Ie hx (by omega),hd]
    have hle:=gl bp (b:: r)
    have hall:=ip bp (b:: r)
    have hpos:1<=aL bp (b:: r):=by simp only [aL,h2,if_true];omega
    simp only [List.length_cons] at hle
    generalize hn:aL bp (b:: r)=n at hle hall hpos
    simp only [Option.bind_some]
    rw [aR (by omega) (by omega),show (j:Int)+(n:Int)=((j+n:Nat):Int) by omega,xu (by omega),hd]
    simp only [Option.bind_some]
    have htl:((b:: r).take n).length=n:=by rw [List.length_take];simp;omega
    have hdg:((b:: r).take n).all EF=true:=by
      have:(fun c:UInt8=>bp (ib c))=EF:=by
        funext c
        unfold EF bp
        rw [Gu,Bool.eq_iff_iff]
        simp
        omega
      rw [<-this];exact hall
    unfold oj
    by_cases h13:13<n
    · rw [if_pos (by rw [htl];exact h13)]
      refine ⟨_,_,_,rfl,?_⟩
      rw [if_neg (by omega)]
    · rw [if_neg (by rw [htl];exact h13),if_pos ⟨by intro e;rw [e] at htl;simp at htl;omega,hdg⟩]
      refine ⟨_,_,_,rfl,?_⟩
      by_cases hb:wn ((b:: r).take n) 0<=1000000000000
      · rw [if_pos ⟨by omega,hb⟩]
        exact ⟨by simpa using hb,rfl,rfl,rfl,rfl⟩
      · rw [if_neg (by omega)]
        simpa using hb
  rw [if_neg h2,if_neg h2]
  have quo:ib b=39\/ib b=34->∀ z:Option (ae×Int×Bool),z=((cb x (w64 ((j:Int)+1)) (ib b)).bind fun r194=>((cut x (w64 ((j:Int)+1)) (Option.getD (Option.some (w64 (w64 ((j:Int)+1)+r194))) (len x))):Option (List UInt8)).bind fun y193=>
      if decide (w64 (w64 ((j:Int)+1)+r194)<len x)=true then some (ae.mk (Int.ofNat 3) (Int.ofNat 0) y193 false false,w64 (r194+2),decide (r194<=200)) else some (ae.mk (Int.ofNat 3) (Int.ofNat 0) y193 false false,w64 (r194+2),false)) ->
      ∃ (tk:ae) (n:Int) (ok:Bool),z=some (tk,n,ok)/\(match (if aL (fun c=>c !=ib b) r<r.length/\aL (fun c=>c !=ib b) r<=200 then some ((3:Int),(0:Int),r.take (aL (fun c=>c !=ib b) r),aL (fun c=>c !=ib b) r+2) else none) with | none=>ok=false | some (k,m,t,w)=>ok=true/\tk.fKind=k/\tk.fNum=m/\tk.fText=t/\n=(w:Int)):=by
    intro _ z hz
    have hle:=gl (fun c=>c !=ib b) r
    rw [aR (by omega) (by omega),show (j:Int)+1=((j+1:Nat):Int) by omega,If hx (ib b) (by omega),hd1] at hz
    generalize hn:aL (fun c=>c !=ib b) r=n at hle hz
    simp only [Option.bind_some] at hz
    rw [aR (by omega) (by omega),show ((j+1:Nat):Int)+(n:Int)=((j+1+n:Nat):Int) by omega,xu (by omega),hd1] at hz
    simp only [Option.bind_some] at hz
    rw [aR (by omega) (by omega),aj] at hz
    by_cases hq:n<r.length
    · rw [if_pos (by simp;omega)] at hz
      refine ⟨_,_,_,hz,?_⟩
      by_cases h200:n<=200
      · rw [if_pos ⟨hq,h200⟩]
        exact ⟨by simp;omega,rfl,rfl,rfl,by simp⟩
      · rw [if_neg (by omega)]
        simp;omega
    · rw [if_neg (by simp;omega)] at hz
      refine ⟨_,_,_,hz,?_⟩
      rw [if_neg (by omega)]
  by_cases h39:ib b=39
  · rw [if_pos (by simpa using h39),if_pos (.inl h39)]
    exact quo (.inl h39) _ rfl
  rw [if_neg (by simpa using h39)]
  by_cases h34:ib b=34
  · rw [if_pos (by simpa using h34),if_pos (.inr h34)]
    exact quo (.inr h34) _ rfl
  rw [if_neg (by simpa using h34),if_neg (by omega),EO]
  simp only [Option.bind_some]
  by_cases h4:nO (ib b)=true
  · rw [if_pos (by rw [He];exact h4),if_pos h4,Jl b h4]
    simp only [Option.bind_some]
    exact ⟨_,_,_,rfl,rfl,rfl,rfl,rfl,rfl⟩
  · rw [if_neg (by rw [He];exact h4),if_neg h4,C1]
    simp only [Option.bind_some]
    refine ⟨_,_,_,rfl,?_⟩
    rcases Ih b with ⟨e1,e2⟩ | ⟨e1,e2,e3⟩
    · rw [if_neg (by simpa using e2)]
      simp [e1]
    · rw [if_pos (by omega)]
      refine ⟨by simpa using e1,?_,rfl,rfl,rfl⟩
      show w64 _=_
      rw [aR (by omega) (by omega),e2]
end Go.Dv.U

namespace Go.Dv.U
open Go Go.Dv Go.Proofs
theorem lq {p:Int->Bool} {b:UInt8} {r:List UInt8} (h:p (ib b)=false):aL p (b:: r)=0:=by simp [aL,h]
theorem gQ {p:Int->Bool} {b:UInt8} {r:List UInt8} (h:p (ib b)=true):aL p (b:: r)=aL p r+1:=by simp [aL,h]
theorem C2 : ∀ (s:List UInt8) (n:Nat) (bl:Bool) (out:List ae) (at_:Nat),s.length<=n->gP n s bl out at_=gP (n-aL (fun c=>c==32) s) (s.drop (aL (fun c=>c==32) s)) (if aL (fun c=>c==32) s=0 then bl else true) out (at_+aL (fun c=>c==32) s):=by
 intro s
 induction s with
 | nil=>intro n bl out at_ _;simp [aL]
 | cons b r ih=>
  intro n bl out at_ h
  by_cases hb:ib b=32
  ·have hr:(fun c:Int=>c==32) (ib b)=true:=by simpa using hb
   rw [gQ hr]
   cases n with
   | zero=>simp at h
   | succ n=>
    simp only [gP,hb,if_true]
    rw [ih n true out (at_+1) (by simpa using h)]
    simp only [List.drop_succ_cons,Nat.add_eq_zero_iff,Nat.one_ne_zero,and_false,if_false,ite_self]
    congr 1
    ·omega
    ·omega
  ·have hr:(fun c:Int=>c==32) (ib b)=false:=by simpa using hb
   rw [lq hr]
   simp
theorem qJ {p:Int->Bool}:∀ s:List UInt8,∀ b r,s.drop (aL p s)=b:: r->p (ib b)=false
 | [],b,r,h=>by simp [aL] at h
 | c:: s,b,r,h=>by
  cases hc:p (ib c)
  ·rw [lq hc] at h
   simp only [List.drop_zero,List.cons.injEq] at h
   rw [<-h.1];exact hc
  ·rw [gQ hc] at h
   exact qJ s b r h
theorem Ii {x:List UInt8} (hx:x.length<=4000):∀ (N n j:Nat) (out:List ae),n<=N->j<=x.length->x.length-j<=n->out.length<=120->f8 x (j:Int) out=some (gP n (x.drop j) (len out==0) out j):=by
 intro N
 induction N with
 | zero=>
  intro n j out hn hj hl ho
  have:x.drop j=[]:=List.drop_eq_nil_of_le (by omega)
  rw [gf,if_neg (by simp [aj];omega),this]
  cases n<;>rfl
 | succ N ih=>
  intro n j out hn hj hl ho
  by_cases hlt:j<x.length
  ·rw [gf,if_pos (by simpa [aj] using hlt),Ig hx hj]
   simp only [Option.bind_some]
   have hle:=gl (fun c=>c==32) (x.drop j)
   rw [List.length_drop] at hle
   rw [C2 (x.drop j) n (len out==0) out j (by rw [List.length_drop];omega)]
   have hdr:=qJ (p:=fun c=>c==32) (x.drop j)
   generalize aL (fun c=>c==32) (x.drop j)=q at hle hdr ⊢
   rw [List.drop_drop] at hdr ⊢
   rw [aR (by omega) (by omega),show (j:Int)+(q:Int)=((j+q:Nat):Int) by omega]
   by_cases hend:j+q=x.length
   ·rw [if_pos (by simp [aj,hend])]
    have:x.drop (j+q)=[]:=List.drop_eq_nil_of_le (by omega)
    rw [this]
    cases (n-q)<;>rfl
   ·rw [if_neg (by simp [aj];omega)]
    have hlt2:j+q<x.length:=by omega
    obtain ⟨b,r,hd⟩:∃ b r,x.drop (j+q)=b:: r:=⟨_,_,List.drop_eq_getElem_cons hlt2⟩
    have hb:¬ ib b=32:=by simpa using hdr b r hd
    obtain ⟨m,hm⟩:∃ m,n-q=m+1:=⟨n-q-1,by omega⟩
    rw [hm,hd]
    simp only [gP,hb,if_false]
    obtain ⟨tk,w,ok,hs,hmt⟩:=wQ hx hlt2
    rw [hs]
    rw [hd] at hmt
    simp only [Option.bind_some,Bc,Bb]
    cases ht:kK (b:: r) with
    | none=>
     rw [ht] at hmt
     simp only at hmt
     subst hmt
     simp
    | some z=>
     obtain ⟨k,mm,t,w'⟩:=z
     rw [ht] at hmt
     simp only at hmt
     obtain ⟨rfl,rfl,rfl,rfl,rfl⟩:=hmt
     have hw:=nP ht
     rw [<-hd,List.length_drop] at hw
     simp only [if_true,ne_eq,not_true_eq_false,if_false]
     by_cases h120:120<=out.length
     ·have e:decide (len out<120)=false:=by simp [aj];omega
      rw [e,if_pos h120]
      simp
     ·have e:decide (len out<120)=true:=by simp [aj];omega
      rw [e,if_neg h120]
      simp only [if_true]
      rw [if_neg (by simp),aR (n:=((j+q:Nat):Int)+(w':Int)) (by omega) (by omega),show ((j+q:Nat):Int)+(w':Int)=((j+q+w':Nat):Int) by omega]
      have hrest:(b:: r).drop w'=x.drop (j+q+w'):=by rw [<-hd,List.drop_drop]
      rw [hrest]
      have go:∀ (bf af:Bool),af=aX (x.drop (j+q+w'))->bf=(if q=0 then (len out==0) else true)->dc x ((j+q+w':Nat):Int) out tk.fKind tk.fNum tk.fText bf af=some (gP m (x.drop (j+q+w')) false (out++[⟨tk.fKind,tk.fNum,tk.fText,if q=0 then (len out==0) else true,aX (x.drop (j+q+w'))⟩]) (j+q+w')):=by
       intro bf af h1 h2
       rw [pM,av (by simp;omega)]
       simp only [Option.bind_some]
       rw [ih m (j+q+w') _ (by omega) (by omega) (by omega) (by simp;omega),h1,h2]
       have:(len (out++[(⟨tk.fKind,tk.fNum,tk.fText,if q=0 then (len out==0) else true,aX (x.drop (j+q+w'))⟩:ae)])==0)=false:=by
        simp [aj];omega
       rw [this]
      by_cases hq:q=0
      ·rw [if_neg (by simp [hq])]
       by_cases he:j+q+w'=x.length
       ·have hn2:x.drop (j+q+w')=[]:=List.drop_eq_nil_of_le (by omega)
        rw [if_pos (by simp [aj,he])]
        exact go _ _ (by rw [hn2];rfl) (by rw [if_pos hq])
       ·rw [if_neg (by simp [aj];omega),cp,List.getElem?_eq_getElem (by omega)]
        simp only [Option.bind_some]
        exact go _ _ (by rw [List.drop_eq_getElem_cons (by omega)];rfl) (by rw [if_pos hq])
      ·rw [if_pos (by simp;omega)]
       by_cases he:j+q+w'=x.length
       ·have hn2:x.drop (j+q+w')=[]:=List.drop_eq_nil_of_le (by omega)
        rw [if_pos (by simp [aj,he])]
        exact go _ _ (by rw [hn2];rfl) (by rw [if_neg hq])
       ·rw [if_neg (by simp [aj];omega),cp,List.getElem?_eq_getElem (by omega)]
        simp only [Option.bind_some]
        exact go _ _ (by rw [List.drop_eq_getElem_cons (by omega)];rfl) (by rw [if_neg hq])
  ·have:x.drop j=[]:=List.drop_eq_nil_of_le (by omega)
   rw [gf,if_neg (by simp [aj];omega),this]
   cases n<;>rfl
def fu (x:List UInt8):List ae×Int×Int:=if x.length<=4000/\dJ x=true then gP x.length x true [] 0 else ([],0,1)
theorem nQ {x:List UInt8} (h:x.length<=9223372036854775807):jT x=some (fu x):=by
 rw [vD]
 unfold fu
 by_cases hl:x.length<=4000
 ·rw [if_neg (by simp [aj];omega),fC h]
  simp only [Option.bind_some]
  cases hp:dJ x
  ·simp
  ·have:=Ii hl x.length x.length 0 [] (Nat.le_refl _) (by omega) (by omega) (by simp)
   simp only [Int.natCast_zero,List.drop_zero] at this
   simp only [Bool.not_true,Bool.false_eq_true,if_false,hl,and_self,if_true]
   rw [this]
   rfl
 ·rw [if_pos (by simp [aj];omega),if_neg (by omega)]
end Go.Dv.U

namespace Go.Dv.U
open Go Go.Dv Go.Proofs
theorem t6 (c:Int):lQ c=some (nO c):=by
 rw [tR,oN,oO]
 unfold nO
 simp only [ol]
 congr 1
 cases c==43<;>cases c==45<;>cases c==42<;>cases c==47<;>cases c==124<;>cases c==46<;>cases c==36<;>cases c==64<;>cases c==61<;>rfl
def Jm : ae:=⟨0,0,[],false,false⟩
theorem Jn (j:Nat) (hj:j<=4000) (c:Int):ep (j:Int) c [40,41,60,62,44,58] 0 0 0 [] false false=some (if cu c≠0 then ((⟨cu c,0,[],false,false⟩:ae),((j+1:Nat):Int)) else (Jm,-1)):=by
 have hw:w64 ((j:Int)+1)=((j+1:Nat):Int):=by rw [aR (by omega) (by omega)];omega
 have step:∀ (k:Int) (y:UInt8),idx [40,41,60,62,44,58] k=some y->0<=k->k<6->ep (j:Int) c [40,41,60,62,44,58] k 0 0 [] false false=if ib y=c then some ((⟨w64 (5+k),0,[],false,false⟩:ae),((j+1:Nat):Int)) else ep (j:Int) c [40,41,60,62,44,58] (w64 (k+1)) 0 0 [] false false:=by
  intro k y h h0 h6
  rw [nI,if_pos (by simp [aj];omega),h]
  simp only [Option.bind_some,beq_iff_eq,hw]
  rfl
 have w1:w64 (0+1)=1:=by decide
 have w2:w64 (1+1)=2:=by decide
 have w3:w64 (2+1)=3:=by decide
 have w4:w64 (3+1)=4:=by decide
 have w5:w64 (4+1)=5:=by decide
 have w6:w64 (5+1)=6:=by decide
 have last:ep (j:Int) c [40,41,60,62,44,58] 6 0 0 [] false false=some (Jm,-1):=by
  rw [nI,if_neg (by simp [aj])];rfl
 rw [step 0 40 rfl (by decide) (by decide),w1,step 1 41 rfl (by decide) (by decide),w2,step 2 60 rfl (by decide) (by decide),w3,step 3 62 rfl (by decide) (by decide),w4,step 4 44 rfl (by decide) (by decide),w5,step 5 58 rfl (by decide) (by decide),w6,last]
 have i1:ib 40=40:=by decide
 have i2:ib 41=41:=by decide
 have i3:ib 60=60:=by decide
 have i4:ib 62=62:=by decide
 have i5:ib 44=44:=by decide
 have i6:ib 58=58:=by decide
 have v0:w64 (5+0)=5:=by decide
 have v1:w64 (5+1)=6:=by decide
 have v2:w64 (5+2)=7:=by decide
 have v3:w64 (5+3)=8:=by decide
 have v4:w64 (5+4)=9:=by decide
 have v5:w64 (5+5)=10:=by decide
 simp only [i1,i2,i3,i4,i5,i6,v0,v1,v2,v3,v4,v5]
 unfold cu
 by_cases h1:c=40
 ·subst h1;simp
 by_cases h2:c=41
 ·subst h2;simp
 by_cases h3:c=60
 ·subst h3;simp
 by_cases h4:c=62
 ·subst h4;simp
 by_cases h5:c=44
 ·subst h5;simp
 by_cases h6:c=58
 ·subst h6;simp
 have f:∀ n:Int,c≠n->¬ n=c:=fun n h e=>h e.symm
 simp [h1,h2,h3,h4,h5,h6,f _ h1,f _ h2,f _ h3,f _ h4,f _ h5,f _ h6]
section
variable {x:List UInt8} (hx:x.length<=4000)

include hx
theorem Jo {j:Nat}:∀ (l:List UInt8) (e acc:Nat),x.drop e=l->j<=e->e<=x.length->e-j<=14->acc<10 ^ (e-j) ->
  jZ x (j:Int) (acc:Int) (e:Int) 0 0 [] false false=some (if (e-j)+aL bp l<=13/\wn (l.take (aL bp l)) acc<=1000000000000 then ((⟨2,(wn (l.take (aL bp l)) acc:Nat),[],false,false⟩:ae),((e+aL bp l:Nat):Int)) else (Jm,-1)):=by
 have L13:∀ (e acc:Nat),j<=e->e<=x.length->ie (j:Int) (acc:Int) (e:Int) 0 0 [] false false=some (if e-j<=13/\acc<=1000000000000 then ((⟨2,(acc:Nat),[],false,false⟩:ae),(e:Int)) else (Jm,-1)):=by
  intro e acc h1 h2
  rw [vS,aR (by omega) (by omega)]
  by_cases h13:e-j<=13
  ·rw [if_neg (by simp;omega)]
   by_cases hb:acc<=1000000000000
   ·rw [if_neg (by simp;omega),if_pos ⟨h13,hb⟩]
    rfl
   ·rw [if_pos (by simp;omega),if_neg (by omega)];rfl
  ·rw [if_pos (by simp;omega),if_neg (by omega)];rfl
 intro l
 induction l with
 | nil=>
  intro e acc hd h1 h2 h3 h4
  have:x.length<=e:=by
   have:=congrArg List.length hd
   simp at this;omega
  rw [nG,if_neg (by simp [aj];omega),L13 e acc h1 h2]
  simp [aL,wn]
 | cons b l ih=>
  intro e acc hd h1 h2 h3 h4
  have hlt:e<x.length:=by
   have:=congrArg List.length hd
   simp at this;omega
  rw [List.drop_eq_getElem_cons hlt] at hd
  simp only [List.cons.injEq] at hd
  rw [nG,if_pos (by simp [aj,hlt]),cp,List.getElem?_eq_getElem hlt,hd.1]
  simp only [Option.bind_some,ma]
  cases hg:bp (ib b)
  ·rw [if_neg (by simp),L13 e acc h1 h2,lq hg]
   simp [wn]
  ·rw [if_pos rfl,gQ hg,aR (by omega) (by omega)]
   by_cases h14:e-j<14
   ·have hb:=Gu b
    unfold bp at hg
    simp only [Bool.and_eq_true_iff,decide_eq_true_eq] at hg
    have hp:10 ^ (e-j)<=10 ^ 13:=Nat.pow_le_pow_right (by decide) (by omega)
    have hp2:10 ^ (e-j+1)=10 ^ (e-j)*10:=Nat.pow_succ _ _
    rw [if_pos (by simp;omega),vR,cp,List.getElem?_eq_getElem hlt,hd.1]
    simp only [Option.bind_some]
    have e1:Go.IntKind.wrap Go.IntKind.u8 (ib b-48)=ib b-48:=by unfold IntKind.wrap;simp [IntKind.bits,IntKind.signed];omega
    rw [e1,aR (n:=ib b-48) (by omega) (by omega),aR (n:=10*(acc:Int)) (by omega) (by omega),aR (n:=10*(acc:Int)+(ib b-48)) (by omega) (by omega),aR (n:=(e:Int)+1) (by omega) (by omega)]
    rw [show 10*(acc:Int)+(ib b-48)=((acc*10+(b.toNat-48):Nat):Int) by omega,show (e:Int)+1=((e+1:Nat):Int) by omega]
    rw [ih (e+1) (acc*10+(b.toNat-48)) hd.2 (by omega) (by omega) (by omega) (by rw [show e+1-j=e-j+1 by omega];omega)]
    have en:wn ((b:: l).take (aL bp l+1)) acc=wn (l.take (aL bp l)) (acc*10+(b.toNat-48)):=by
     rw [List.take_succ_cons];rfl
    rw [en,show e+1-j+aL bp l=e-j+(aL bp l+1) by omega,show e+1+aL bp l=e+(aL bp l+1) by omega]
   ·rw [if_neg (by simp;omega),L13 e acc h1 h2,if_neg (by omega),if_neg (by omega)]
theorem Jp {j:Nat} (q:Int):∀ (l:List UInt8) (e:Nat),x.drop e=l->j+1<=e->e<=x.length ->
  fQ x (j:Int) q (e:Int) 0 0 [] false false=some (if aL (fun c=>c !=q) l<l.length/\e+aL (fun c=>c !=q) l-j-1<=200 then ((⟨3,0,(x.drop (j+1)).take (e+aL (fun c=>c !=q) l-j-1),false,false⟩:ae),((e+aL (fun c=>c !=q) l+1:Nat):Int)) else (Jm,-1)):=by
 intro l
 induction l with
 | nil=>
  intro e hd h1 h2
  have:e=x.length:=by
   have:=congrArg List.length hd
   simp at this;omega
  rw [nH,if_neg (by simp [aj];omega),if_pos (by simp [aj,this]),nJ]
  rfl
 | cons b l ih=>
  intro e hd h1 h2
  have hlt:e<x.length:=by
   have:=congrArg List.length hd
   simp at this;omega
  rw [List.drop_eq_getElem_cons hlt] at hd
  simp only [List.cons.injEq] at hd
  rw [nH,if_pos (by simp [aj,hlt]),cp,List.getElem?_eq_getElem hlt,hd.1]
  simp only [Option.bind_some]
  by_cases hb:ib b=q
  ·have hr:(fun c:Int=>c !=q) (ib b)=false:=by simpa using hb
   rw [if_neg (by simpa using hb),if_neg (by simp [aj];omega),lq hr]
   rw [aR (n:=(e:Int)-(j:Int)) (by omega) (by omega),aR (by omega) (by omega)]
   simp only [Nat.add_zero]
   by_cases h200:e-j-1<=200
   ·rw [if_neg (by simp;omega),if_pos ⟨by simp,h200⟩,vT,aR (n:=(j:Int)+1) (by omega) (by omega),aR (by omega) (by omega)]
    have:=xu (x:=x) (j:=j+1) (m:=e-j-1) (by omega)
    rw [show j+1+(e-j-1)=e by omega] at this
    rw [show (j:Int)+1=((j+1:Nat):Int) by omega,this]
    rfl
   ·rw [if_pos (by simp;omega),if_neg (by omega),nJ]
    rfl
  ·have hr:(fun c:Int=>c !=q) (ib b)=true:=by simpa using hb
   rw [if_pos (by simpa using hb),aR (by omega) (by omega),show (e:Int)+1=((e+1:Nat):Int) by omega,ih (e+1) hd.2 (by omega) (by omega),gQ hr]
   have e1:e+1+aL (fun c=>c !=q) l=e+(aL (fun c=>c !=q) l+1):=by omega
   rw [e1]
   simp only [List.length_cons,Nat.add_lt_add_iff_right]
theorem Bd {j:Nat} (hj:j<x.length):∃ (tk:ae) (e:Int),yf x (j:Int)=some (tk,e) /\
  (match kK (x.drop j) with | none=>e = -1 | some (k,m,t,w)=>tk.fKind=k/\tk.fNum=m/\tk.fText=t/\e=((j+w:Nat):Int)):=by
 obtain ⟨b,r,hd⟩:∃ b r,x.drop j=b:: r:=⟨_,_,List.drop_eq_getElem_cons hj⟩
 have hget:idx x (j:Int)=some b:=by
  rw [cp,List.getElem?_eq_getElem hj]
  rw [List.drop_eq_getElem_cons hj] at hd
  simp only [List.cons.injEq] at hd
  rw [hd.1]
 have hd1:x.drop (j+1)=r:=by
  rw [List.drop_eq_getElem_cons hj] at hd
  simp only [List.cons.injEq] at hd
  exact hd.2
 have hrl:(b:: r).length=x.length-j:=by rw [<-hd,List.length_drop]
 simp only [List.length_cons] at hrl
 have hone:w64 ((j:Int)+1)=((j+1:Nat):Int):=by rw [aR (by omega) (by omega)];omega
 rw [A8,hget,hd,ci]
 simp only [Option.bind_some,kJ,ma]
 by_cases h1:iB (ib b)=true
 ·have hle:=gl bU (b:: r)
  simp only [List.length_cons] at hle
  rw [if_pos h1,if_pos h1,nN (by omega) (by omega),hd]
  simp only [h1,if_true,Option.bind_some,<-Cc]
  generalize aL bU (b:: r)=n at hle
  rw [aR (by omega) (by omega)]
  by_cases h12:n<=12
  ·rw [if_neg (by simp;omega),if_pos h12,xu (by omega),hd]
   exact ⟨_,_,rfl,rfl,rfl,rfl,rfl⟩
  ·rw [if_pos (by simp;omega),if_neg h12]
   exact ⟨_,_,rfl,rfl⟩
 rw [if_neg h1,if_neg h1]
 by_cases h2:bp (ib b)=true
 ·rw [if_pos h2,if_pos h2]
  have:=Jo hx (j:=j) (b:: r) j 0 hd (Nat.le_refl _) (by omega) (by omega) (by simp)
  simp only [Int.natCast_zero,Nat.sub_self,Nat.zero_add] at this
  rw [this]
  split
  ·exact ⟨_,_,rfl,rfl,rfl,rfl,rfl⟩
  ·exact ⟨_,_,rfl,rfl⟩
 rw [if_neg h2,if_neg h2]
 have quo:∃ (tk:ae) (e:Int),fQ x (j:Int) (ib b) ((j+1:Nat):Int) 0 0 [] false false=some (tk,e)/\(match (if aL (fun c=>c !=ib b) r<r.length/\aL (fun c=>c !=ib b) r<=200 then some ((3:Int),(0:Int),r.take (aL (fun c=>c !=ib b) r),aL (fun c=>c !=ib b) r+2) else none) with | none=>e = -1 | some (k,m,t,w)=>tk.fKind=k/\tk.fNum=m/\tk.fText=t/\e=((j+w:Nat):Int)):=by
  rw [Jp hx (ib b) r (j+1) hd1 (Nat.le_refl _) (by omega),hd1]
  rw [show j+1+aL (fun c=>c !=ib b) r-j-1=aL (fun c=>c !=ib b) r by omega]
  split
  ·exact ⟨_,_,rfl,rfl,rfl,rfl,by omega⟩
  ·exact ⟨_,_,rfl,rfl⟩
 by_cases h39:ib b=39
 ·rw [if_pos (by simpa using h39),if_pos (.inl h39),hone]
  exact quo
 rw [if_neg (by simpa using h39)]
 by_cases h34:ib b=34
 ·rw [if_pos (by simpa using h34),if_pos (.inr h34),hone]
  exact quo
 rw [if_neg (by simpa using h34),if_neg (by omega),t6]
 simp only [Option.bind_some]
 by_cases h4:nO (ib b)=true
 ·rw [if_pos h4,if_pos h4,hone]
  have:=xu (x:=x) (j:=j) (m:=1) (by omega)
  rw [this,hd]
  exact ⟨_,_,rfl,rfl,rfl,rfl,rfl⟩
 ·rw [if_neg h4,if_neg h4,Jn j (by omega) (ib b)]
  split
  ·exact ⟨_,_,rfl,rfl,rfl,rfl,rfl⟩
  ·exact ⟨_,_,rfl,rfl⟩
theorem Ij : ∀ (N n j:Nat) (bl:Bool) (out:List ae),n<=N->j<=x.length->x.length-j<=n->out.length<=120 ->
    (∀ tk,out[out.length-1]?=some tk->tk.fAfter=true\/(bl=false/\aX (x.drop j)=false))->dK x (j:Int) bl out=some (gP n (x.drop j) bl out j):=by
  have fin:∀ (j:Nat) (bl:Bool) (out:List ae) (n:Nat),x.length<=j->j<=x.length->out.length<=120->(∀ tk,out[out.length-1]?=some tk->tk.fAfter=true\/(bl=false/\aX (x.drop j)=false))->dK x (j:Int) bl out=some (gP n (x.drop j) bl out j):=by
    intro j bl out n h1 h2 ho hi
    have hd:x.drop j=[]:=List.drop_eq_nil_of_le h1
    have hs:gP n (x.drop j) bl out j=(out,0,0):=by rw [hd];cases n<;>rfl
    rw [hs,nx,if_neg (by simp [aj];omega)]
    by_cases h0:out.length=0
    · rw [if_neg (by simp [aj,h0])]
    · rw [if_pos (by simp [aj];omega),aj,aR (by omega) (by omega),show (out.length:Int)-1=((out.length-1:Nat):Int) by omega,cp,Int.toNat_natCast]
      have hlt:out.length-1<out.length:=by omega
      rw [List.getElem?_eq_getElem hlt]
      simp only [Option.bind_some]
      have ha:(out[out.length-1]).fAfter=true:=by
        rcases hi _ (List.getElem?_eq_getElem hlt) with h | ⟨_,h⟩
        · exact h
        · rw [hd] at h;cases h
      have:upd out (out.length-1) ⟨out[out.length-1].fKind,out[out.length-1].fNum,out[out.length-1].fText,out[out.length-1].fBefore,true⟩=out:=by
        rw [B7,<-ha]
        exact List.set_getElem_self hlt
      rw [this]
  intro N
  induction N with
  | zero=>
    intro n j bl out hn hj hl ho hi
    exact fin j bl out n (by omega) hj ho hi
  | succ N ih =>
    intro n j bl out hn hj hl ho hi
    by_cases hlt:j<x.length
    · obtain ⟨b,r,hd⟩:∃ b r,x.drop j=b:: r:=⟨_,_,List.drop_eq_getElem_cons hlt⟩
      have hget:idx x (j:Int)=some b:=by
        rw [cp,List.getElem?_eq_getElem hlt]
        rw [List.drop_eq_getElem_cons hlt] at hd
        simp only [List.cons.injEq] at hd
        rw [hd.1]
      have hd1:x.drop (j+1)=r:=by
        rw [List.drop_eq_getElem_cons hlt] at hd
        simp only [List.cons.injEq] at hd
        exact hd.2
      obtain ⟨m,rfl⟩:∃ m,n=m+1:=⟨n-1,by omega⟩
      rw [nx,if_pos (by simpa [aj] using hlt),hget,hd]
      simp only [Option.bind_some,gP]
      by_cases hb:ib b=32
      · rw [if_pos (by simpa using hb),if_pos hb,aR (by omega) (by omega),show (j:Int)+1=((j+1:Nat):Int) by omega,ih m (j+1) true out (by omega) (by omega) (by omega) ho (fun tk h=>by
          rcases hi tk h with h | ⟨_,h⟩
          · exact .inl h
          · rw [hd] at h
            simp [aX,hb] at h),hd1]
      · rw [if_neg (by simpa using hb),if_neg hb]
        obtain ⟨tk,e,hs,hmt⟩:=Bd hx hlt
        rw [hs]
        rw [hd] at hmt
        simp only [Option.bind_some]
        cases ht:kK (b:: r) with
        | none=>
          rw [ht] at hmt
          simp only at hmt
          subst hmt
          rw [if_pos (by simp)]
        | some z=>
          obtain ⟨k,mm,t,w⟩:=z
          rw [ht] at hmt
          simp only at hmt
          obtain ⟨rfl,rfl,rfl,rfl⟩:=hmt
          have hw:=nP ht
          rw [<-hd,List.length_drop] at hw
          rw [if_neg (by simp;omega)]
          simp only
          by_cases h120:out.length=120
          · rw [if_pos (show (len out==120)=true by simp [aj,h120]),if_pos (show 120<=out.length by omega)]
          · rw [if_neg (show ¬ (len out==120)=true by simp [aj];omega),if_neg (show ¬ 120<=out.length by omega)]
            have hrest:(b:: r).drop w=x.drop (j+w):=by rw [<-hd,List.drop_drop]
            rw [hrest]
            have go:∀ af:Bool,af=aX (x.drop (j+w))->((app out [(⟨tk.fKind,tk.fNum,tk.fText,bl,af⟩:ae)]).bind fun y=>dK x ((j+w:Nat):Int) false y)=some (gP m (x.drop (j+w)) false (out++[⟨tk.fKind,tk.fNum,tk.fText,bl,aX (x.drop (j+w))⟩]) (j+w)):=by
              intro af h
              rw [av (by simp;omega)]
              simp only [Option.bind_some]
              rw [h]
              exact ih m (j+w) false _ (by omega) (by omega) (by omega) (by simp;omega) (fun tk' hk=>by
                simp only [List.length_append,List.length_cons,List.length_nil,Nat.zero_add,Nat.add_sub_cancel] at hk
                rw [List.getElem?_append_right (Nat.le_refl _)] at hk
                simp only [Nat.sub_self,List.getElem?_cons_zero,Option.some.injEq] at hk
                subst hk
                cases hnb:aX (x.drop (j+w))
                · exact .inr ⟨rfl,rfl⟩
                · exact .inl rfl)
            by_cases he:j+w=x.length
            · have hn2:x.drop (j+w)=[]:=List.drop_eq_nil_of_le (by omega)
              rw [if_pos (show (((j+w:Nat):Int)==len x)=true by simp [aj,he])]
              exact go true (by rw [hn2];rfl)
            · rw [if_neg (show ¬ (((j+w:Nat):Int)==len x)=true by simp [aj];omega),cp,List.getElem?_eq_getElem (by omega)]
              simp only [Option.bind_some]
              exact go _ (by rw [List.drop_eq_getElem_cons (by omega)];rfl)
    · exact fin j bl out n (by omega) hj ho hi
end
theorem vZ {x:List UInt8} (h:x.length<=9223372036854775807):m8 x=some (fu x):=by
 rw [vz]
 unfold fu
 by_cases hl:x.length<=4000
 ·rw [if_neg (by simp [aj];omega),lm h]
  simp only [Option.bind_some]
  cases hp:dJ x
  ·simp
  ·have:=Ij hl x.length x.length 0 true [] (Nat.le_refl _) (by omega) (by omega) (by simp) (fun tk h=>by simp at h)
   simp only [Int.natCast_zero,List.drop_zero] at this
   simp only [Bool.not_true,Bool.false_eq_true,if_false,hl,and_self,if_true,zL]
   rw [this]
   rfl
 ·rw [if_pos (by simp [aj];omega),if_neg (by omega)]
end Go.Dv.U

namespace Go.Dv.U
open Go Go.Dv Go.Proofs
theorem EP : ∀ u:Nat,(Lib.decDigits u).all (fun b=>bp (ib b))=true/\wn (Lib.decDigits u) 0=u/\Lib.decDigits u≠[]:=by
 intro u
 induction u using Nat.strongRecOn with
 | _ u ih=>
  have hd:∀ d:Nat,d<10->bp (ib (UInt8.ofNat (48+d)))=true/\(UInt8.ofNat (48+d)).toNat-48=d:=by
   intro d hd
   have h:(UInt8.ofNat (48+d)).toNat=48+d:=by simp;omega
   refine ⟨?_,by omega⟩
   simp only [bp,Gu,h,Bool.and_eq_true,decide_eq_true_eq];omega
  rw [Lib.decDigits]
  by_cases h:u<10
  ·rw [dif_pos h]
   obtain ⟨h1,h2⟩:=hd u h
   refine ⟨by simp only [List.all_cons,List.all_nil,h1,Bool.and_true],?_,by simp⟩
   simp only [wn,List.foldl_cons,List.foldl_nil];omega
  ·rw [dif_neg h]
   obtain ⟨i1,i2,i3⟩:=ih (u / 10) (by omega)
   obtain ⟨h1,h2⟩:=hd (u % 10) (by omega)
   refine ⟨by rw [List.all_append,i1];simp only [List.all_cons,List.all_nil,h1,Bool.and_true],?_,by simp⟩
   unfold wn at i2 ⊢
   rw [List.foldl_append,i2]
   simp only [List.foldl_cons,List.foldl_nil];omega
theorem Ik {u:Nat} (h:u<=1000000000000):(Lib.decDigits u).length<=13:=by
 rw [Lib.decDigits_length]
 exact ou 12 u (by omega)
theorem gR {p:Int->Bool}:∀ (a r:List UInt8),a.all (fun b=>p (ib b))=true->(∀ b t,r=b:: t->p (ib b)=false)->aL p (a++r)=a.length
 | [],r,_,h=>by
  cases r with
  | nil=>rfl
  | cons b t=>exact lq (h b t rfl)
 | x:: a,r,ha,h=>by
  rw [List.all_cons,Bool.and_eq_true] at ha
  rw [List.cons_append,gQ ha.1,gR a r ha.2 h,List.length_cons]
theorem ov {α:Type} (a r:List α):(a++r).take a.length=a:=by simp
theorem ur {α:Type} (a r:List α):(a++r).drop a.length=r:=by simp
def jL (t:ae):List UInt8:=if t.fKind=1\/t.fKind=4 then t.fText else if t.fKind=2 then Lib.decDigits t.fNum.toNat else if t.fKind=3 then qH t.fText else if t.fKind=5 then [40] else if t.fKind=6 then [41] else if t.fKind=7 then [60] else if t.fKind=8 then [62] else if t.fKind=9 then [44] else [58]
inductive Sc : Bool->List UInt8->List ae->Prop
 | nil (bl:Bool):Sc bl [] []
 | bl (bl:Bool) {r:List UInt8} {L:List ae} (h:Sc true r L):Sc bl (32:: r) L
 | tok (bl:Bool) {s:List UInt8} {k m:Int} {t:List UInt8} {w:Nat} {L:List ae} (hb:∀ b r,s=b:: r->¬ ib b=32) (ht:kK s=some (k,m,t,w)) (h:Sc false (s.drop w) L):Sc bl s (⟨k,m,t,bl,aX (s.drop w)⟩:: L)
theorem LG {b:UInt8} (h:ib b=32):b=32:=vd.1 (h.trans (by decide))
theorem ut : ∀ (n:Nat) (s:List UInt8) (bl:Bool) (out:List ae) (at_:Nat) (R:List ae) (e:Int),s.length<=n->gP n s bl out at_=(R,e,0)->∃ L,Sc bl s L/\R=out++L
 | n,[],bl,out,at_,R,e,_,h=>by
  have:gP n [] bl out at_=(out,0,0):=by cases n<;>rfl
  rw [this] at h
  cases h
  exact ⟨[],.nil bl,by simp⟩
 | 0,b:: r,bl,out,at_,R,e,hn,h=>by simp at hn
 | n + 1,b:: r,bl,out,at_,R,e,hn,h=>by
  rw [gP] at h
  split at h
  ·rename_i hb
   obtain rfl:=LG hb
   obtain ⟨L,h1,h2⟩:=ut n r true out (at_+1) R e (by simpa using hn) h
   exact ⟨L,.bl bl h1,h2⟩
  ·rename_i hb
   split at h
   ·cases h
   ·rename_i k m t w ht
    split at h
    ·cases h
    ·have hl:=nP ht
     obtain ⟨L,h1,h2⟩:=ut n _ false _ _ R e (by rw [List.length_drop];simp only [List.length_cons] at hn hl ⊢;omega) h
     exact ⟨_,.tok bl (fun b' r' e=>by cases e;exact hb) ht h1,by rw [h2];simp⟩
theorem Gy {bl:Bool} {s:List UInt8} {L:List ae} (h:Sc bl s L):∀ (n:Nat) (out:List ae) (at_:Nat),s.length<=n->out.length+L.length<=120->gP n s bl out at_=(out++L,0,0):=by
 induction h with
 | nil bl=>intro n out at_ _ _;cases n<;>simp [gP]
 | bl bl h ih=>
  intro n out at_ hn hl
  cases n with
  | zero=>simp at hn
  | succ n=>
   have:ib 32=32:=by decide
   rw [gP,if_pos this]
   exact ih n out (at_+1) (by simpa using hn) hl
 | @tok bl s k m t w L hb ht h ih=>
  intro n out at_ hn hl
  have hlen:=nP ht
  cases s with
  | nil=>cases ht
  | cons b r=>
   cases n with
   | zero=>simp at hn
   | succ n=>
    simp only [List.length_cons] at hl hn hlen
    rw [gP,if_neg (hb b r rfl),ht]
    simp only
    rw [if_neg (by omega),ih n _ _ (by rw [List.length_drop];simp only [List.length_cons];omega) (by simp;omega)]
    simp
def hdD (s:List UInt8):Bool×Bool×Bool:=match s with | []=>(false,false,true) | b:: _=>(bU (ib b),bp (ib b),ib b==32)
theorem EQ {b:UInt8} (h:ib b=39\/ib b=34):bU (ib b)=false/\bp (ib b)=false/\(ib b==32)=false/\iB (ib b)=false:=by
 rcases h with h | h<;>rw [h]<;>decide
theorem Cd {c:Int} {s:List UInt8} (h:hasB c s=false):∀ b∈s,ib b≠c:=by
 intro b hb e
 have:hasB c s=true:=List.any_eq_true.2 ⟨b,hb,by simpa using e⟩
 rw [h] at this;cases this
theorem ER {s:List UInt8} {k m:Int} {t:List UInt8} {w:Nat} (hp:dJ s=true) (ht:kK s=some (k,m,t,w)) (bf af:Bool):
    (1<=k/\k<=10)/\((k=1/\m=0/\bi t=true)\/(k=2/\t=[]/\0<=m/\m<=1000000000000)\/(k=3/\m=0/\wo t=true)\/(k=4/\m=0/\∃ b,t=[b]/\nO (ib b)=true)\/(5<=k/\m=0/\t=[])) /\
    (jL ⟨k,m,t,bf,af⟩).length<=w/\hdD (jL ⟨k,m,t,bf,af⟩)=hdD s/\dJ (jL ⟨k,m,t,bf,af⟩)=true /\
    ∀ r:List UInt8,(∀ b q,r=b:: q->bU (ib b)=true->∃ b' q',s.drop w=b':: q'/\bU (ib b')=true/\(bp (ib b)=true->bp (ib b')=true))->kK (jL ⟨k,m,t,bf,af⟩++r)=some (k,m,t,(jL ⟨k,m,t,bf,af⟩).length):=by
  cases s with
  | nil=>cases ht
  | cons b r0 =>
    have hbp:Gw b=true:=by simp only [dJ,List.all_cons,Bool.and_eq_true] at hp;exact hp.1
    have hrp:dJ r0=true:=by simp only [dJ,List.all_cons,Bool.and_eq_true] at hp;exact hp.2
    have tkp:∀ (l:List UInt8) (n:Nat),dJ l=true->dJ (l.take n)=true:=fun l n h=>List.all_eq_true.2 fun x hx=>List.all_eq_true.1 h x (List.mem_of_mem_take hx)
    rw [ci] at ht
    split at ht
    · -- a name
      rename_i hl
      split at ht
      · rename_i hlen
        cases ht
        have hle:=gl bU (b:: r0)
        have hnb:bU (ib b)=true:=by unfold bU;rw [hl];rfl
        obtain ⟨n,hn⟩:∃ n,aL bU (b:: r0)=n+1:=⟨aL bU r0,gQ hnb⟩
        have htk:(b:: r0).take (aL bU (b:: r0))=b:: r0.take n:=by rw [hn];rfl
        have hall:=ip bU (b:: r0)
        have htl:((b:: r0).take (aL bU (b:: r0))).length=aL bU (b:: r0):=by rw [List.length_take];omega
        have htx:jL ⟨1,0,(b:: r0).take (aL bU (b:: r0)),bf,af⟩=(b:: r0).take (aL bU (b:: r0)):=by simp [jL]
        rw [htx]
        refine ⟨by omega,.inl ⟨rfl,rfl,?_⟩,by omega,by rw [htk];rfl,tkp _ _ hp,fun r hr=>?_⟩
        · rw [htk] at hall htl ⊢
          unfold bi
          simp only [hl,Bool.true_and,Bool.and_eq_true,decide_eq_true_eq]
          simp only [List.all_cons,Bool.and_eq_true] at hall
          simp only [List.length_cons] at htl ⊢
          first
          | exact ⟨hall.2,by omega⟩
          | exact ⟨by omega,hall.2⟩
          | (simp [hall.1,hall.2];omega)
        · have hrun:aL bU ((b:: r0).take (aL bU (b:: r0))++r)=((b:: r0).take (aL bU (b:: r0))).length:=gR _ _ hall fun b' q' e=>by
            cases hb':bU (ib b') with
            | false=>rfl
            | true=>
              obtain ⟨b2,q2,e2,h2,_⟩:=hr b' q' e hb'
              have:=qJ (p:=bU) (b:: r0) b2 q2 e2
              rw [h2] at this;cases this
          have e1:(b:: r0).take (aL bU (b:: r0))++r=b:: (r0.take n++r):=by rw [htk];rfl
          rw [e1] at hrun ⊢
          rw [ci,if_pos hl,hrun,<-e1,ov,if_pos (by omega)]
      · cases ht
    rename_i hl
    split at ht
    · -- a number
      rename_i hd
      split at ht
      · rename_i hc
        cases ht
        obtain ⟨hc1,hc2⟩:=hc
        have hle:=gl bp (b:: r0)
        have h1:1<=aL bp (b:: r0):=by rw [gQ hd];omega
        generalize hu:wn ((b:: r0).take (aL bp (b:: r0))) 0=u at hc2
        have htl:((b:: r0).take (aL bp (b:: r0))).length=aL bp (b:: r0):=by rw [List.length_take];omega
        have hall:=ip bp (b:: r0)
        have hub:u<10 ^ aL bp (b:: r0):=by
          have:=AU ((b:: r0).take (aL bp (b:: r0))) 0 0 (by
            rw [List.all_eq_true] at hall ⊢
            intro x hx
            have:=hall x hx
            simp only [bp,Gu,Bool.and_eq_true,decide_eq_true_eq] at this
            simp only [EF,Bool.and_eq_true,decide_eq_true_eq];omega) (by simp)
          rw [hu,htl] at this
          simpa using this
        obtain ⟨d1,d2,d3⟩:=EP u
        have hdl:(Lib.decDigits u).length<=aL bp (b:: r0):=by
          obtain ⟨j,hj⟩:∃ j,aL bp (b:: r0)=j+1:=⟨aL bp (b:: r0)-1,by omega⟩
          rw [Lib.decDigits_length,hj]
          exact ou j u (by rw [<-hj];exact hub)
        have htx:jL ⟨2,(u:Int),[],bf,af⟩=Lib.decDigits u:=by simp [jL]
        rw [htx]
        have dnm:∀ c:UInt8,bp (ib c)=true->bU (ib c)=true/\iB (ib c)=false/\(ib c==32)=false/\Gw c=true:=by
          intro c hc
          simp only [bp,Bool.and_eq_true,decide_eq_true_eq] at hc
          refine ⟨by simp only [bU,bp,hc.1,hc.2,decide_true,Bool.and_true,Bool.or_true,Bool.true_or],?_,?_,?_⟩
          · simp only [iB,Bool.or_eq_false_iff,Bool.and_eq_false_iff,decide_eq_false_iff_not];omega
          · rw [beq_eq_false_iff_ne];omega
          · simp only [Gw,Bool.and_eq_true,decide_eq_true_eq];omega
        refine ⟨by omega,.inr (.inl ⟨rfl,rfl,by omega,by omega⟩),hdl,?_,?_,fun r hr=>?_⟩
        · cases hdd:Lib.decDigits u with
          | nil=>exact absurd hdd d3
          | cons c q=>
            rw [hdd,List.all_cons,Bool.and_eq_true] at d1
            obtain ⟨a1,_,a3,_⟩:=dnm c d1.1
            obtain ⟨b1,_,b3,_⟩:=dnm b hd
            simp only [hdD,a1,a3,b1,b3,hd,d1.1]
        · rw [List.all_eq_true] at d1
          exact List.all_eq_true.2 fun x hx=>(dnm x (d1 x hx)).2.2.2
        · have hrun:aL bp (Lib.decDigits u++r)=(Lib.decDigits u).length:=gR _ _ d1 fun b' q' e=>by
            cases hb':bp (ib b') with
            | false=>rfl
            | true=>
              obtain ⟨b2,q2,e2,_,h3⟩:=hr b' q' e (dnm b' hb').1
              have:=qJ (p:=bp) (b:: r0) b2 q2 e2
              rw [h3 hb'] at this;cases this
          cases hdd:Lib.decDigits u with
          | nil=>exact absurd hdd d3
          | cons c q=>
            have hc:=d1
            rw [hdd,List.all_cons,Bool.and_eq_true] at hc
            obtain ⟨_,a2,_,_⟩:=dnm c hc.1
            have e1:c:: q++r=c:: (q++r):=rfl
            rw [hdd] at hrun
            rw [e1] at hrun ⊢
            rw [ci,if_neg (by rw [a2];simp),if_pos hc.1,hrun,<-e1,ov,<-hdd,d2,if_pos ⟨by omega,hc2⟩]
      · cases ht
    rename_i hd
    split at ht
    · -- a string
      rename_i hq
      split at ht
      · rename_i hc
        cases ht
        obtain ⟨hc1,hc2⟩:=hc
        generalize hn:aL (fun c=>c !=ib b) r0=n at hc1 hc2
        have htl:(r0.take n).length=n:=by rw [List.length_take];omega
        have hno:hasB (ib b) (r0.take n)=false:=by
          have:=ip (fun c=>c !=ib b) r0
          rw [hn] at this
          rw [<-Bool.not_eq_true]
          intro h
          obtain ⟨x,hx,he⟩:=List.any_eq_true.1 h
          have:=List.all_eq_true.1 this x hx
          simp only [bne_iff_ne,ne_eq] at this
          exact this (by simpa using he)
        have hcan:wo (r0.take n)=true:=by
          have hp2:=tkp r0 n hrp
          have hb2:(hasB 39 (r0.take n)&&hasB 34 (r0.take n))=false:=by
            rcases hq with h | h
            · rw [h] at hno;rw [hno];rfl
            · rw [h] at hno;rw [hno,Bool.and_false]
          unfold wo
          rw [hp2,hb2,htl];simp;omega
        -- the qH that is printed
        obtain ⟨q,hqq,hqt,hqn⟩:∃ q:UInt8,(ib q=39\/ib q=34)/\qH (r0.take n)=q:: r0.take n++[q]/\hasB (ib q) (r0.take n)=false:=by
          unfold qH
          rw [if_pos hcan]
          by_cases h39:hasB 39 (r0.take n)=true
          · rw [if_pos h39]
            refine ⟨34,.inr (by decide),rfl,?_⟩
            rcases hq with h | h
            · rw [h,h39] at hno;cases hno
            · rw [h] at hno;exact hno
          · rw [if_neg h39]
            exact ⟨39,.inl (by decide),rfl,by rw [show ib 39=39 by decide];simpa using h39⟩
        have htx:jL ⟨3,0,r0.take n,bf,af⟩=q:: r0.take n++[q]:=by rw [<-hqt];simp [jL]
        rw [htx]
        obtain ⟨q1,q2,q3,q4⟩:=EQ hqq
        obtain ⟨b1,b2,b3,b4⟩:=EQ hq
        have hqp:Gw q=true:=by rcases hqq with h | h<;>simp [Gw,h]
        refine ⟨by omega,.inr (.inr (.inl ⟨rfl,rfl,hcan⟩)),by simp;omega,?_,?_,fun r _=>?_⟩
        · show hdD (q:: (r0.take n++[q]))=hdD (b:: r0)
          simp only [hdD,q1,q2,q3,b1,b2,b3]
        · have:=tkp r0 n hrp
          simp only [dJ] at this ⊢
          simp [this,hqp]
        · have hrun:aL (fun c=>c !=ib q) (r0.take n++q:: r)=(r0.take n).length:=gR _ _ (by
              rw [List.all_eq_true];intro x hx;simpa using Cd hqn x hx) fun b' q' e=>by cases e;simp
          have e1:q:: r0.take n++[q]++r=q:: (r0.take n++q:: r):=by simp
          rw [e1,ci,if_neg (by rw [q4];simp),if_neg (by rw [q2];simp),if_pos hqq,hrun,ov,htl,if_pos ⟨by simp;omega,hc2⟩]
          simp [htl]
      · cases ht
    rename_i hq
    split at ht
    · -- an operator
      rename_i ho
      cases ht
      have htx:jL ⟨4,0,[b],bf,af⟩=[b]:=by simp [jL]
      rw [htx]
      refine ⟨by omega,.inr (.inr (.inr (.inl ⟨rfl,rfl,b,rfl,ho⟩))),by simp,rfl,by simp [dJ,hbp],fun r _=>?_⟩
      show kK (b:: r)=_
      rw [ci,if_neg hl,if_neg hd,if_neg hq,if_pos ho]
      rfl
    rename_i ho
    split at ht
    · -- a mark
      rename_i hm
      cases ht
      have hk:(1<=cu (ib b)/\cu (ib b)<=10)/\5<=cu (ib b)/\jL ⟨cu (ib b),0,[],bf,af⟩=[b]:=by
        have e:∀ c:UInt8,ib b=ib c->b=c:=fun c h=>vd.1 h
        unfold cu at hm ⊢
        by_cases h1:ib b=40
        · obtain rfl:=e 40 (h1.trans (by decide));rw [if_pos h1];exact ⟨by omega,by omega,rfl⟩
        rw [if_neg h1] at hm ⊢
        by_cases h2:ib b=41
        · obtain rfl:=e 41 (h2.trans (by decide));rw [if_pos h2];exact ⟨by omega,by omega,rfl⟩
        rw [if_neg h2] at hm ⊢
        by_cases h3:ib b=60
        · obtain rfl:=e 60 (h3.trans (by decide));rw [if_pos h3];exact ⟨by omega,by omega,rfl⟩
        rw [if_neg h3] at hm ⊢
        by_cases h4:ib b=62
        · obtain rfl:=e 62 (h4.trans (by decide));rw [if_pos h4];exact ⟨by omega,by omega,rfl⟩
        rw [if_neg h4] at hm ⊢
        by_cases h5:ib b=44
        · obtain rfl:=e 44 (h5.trans (by decide));rw [if_pos h5];exact ⟨by omega,by omega,rfl⟩
        rw [if_neg h5] at hm ⊢
        by_cases h6:ib b=58
        · obtain rfl:=e 58 (h6.trans (by decide));rw [if_pos h6];exact ⟨by omega,by omega,rfl⟩
        rw [if_neg h6] at hm
        exact absurd rfl hm
      rw [hk.2.2]
      refine ⟨hk.1,.inr (.inr (.inr (.inr ⟨hk.2.1,rfl,rfl⟩))),by simp,rfl,by simp [dJ,hbp],fun r _=>?_⟩
      show kK (b:: r)=_
      rw [ci,if_neg hl,if_neg hd,if_neg hq,if_neg ho,if_pos hm]
      rfl
    · cases ht
def Ke (a:Bool):List ae->List UInt8
 | []=>[]
 | u:: _=>if (u.fBefore||a)=true then [32] else []
def prT : List ae->List UInt8
 | []=>[]
 | t:: r=>jL t++(Ke t.fAfter r++prT r)
theorem qK : ∀ s,aX s=(hdD s).2.2
 | []=>rfl
 | _:: _=>rfl
theorem ES {a r:List UInt8} (h:a≠[]):hdD (a++r)=hdD a:=by
 cases a with
 | nil=>exact absurd rfl h
 | cons=>rfl
def tOk (t:ae):Prop:=(1<=t.fKind/\t.fKind<=10)/\((t.fKind=1/\t.fNum=0/\bi t.fText=true)\/(t.fKind=2/\t.fText=[]/\0<=t.fNum/\t.fNum<=1000000000000)\/(t.fKind=3/\t.fNum=0/\wo t.fText=true)\/(t.fKind=4/\t.fNum=0/\∃ b,t.fText=[b]/\nO (ib b)=true)\/(5<=t.fKind/\t.fNum=0/\t.fText=[]))
structure ScP (bl:Bool) (s:List UInt8) (L:List ae):Prop where
 sc:∀ u r,L=u:: r->Sc u.fBefore (prT L) L
 len:(prT L).length<=s.length
 len1:L≠[]->aX s=true->(prT L).length+1<=s.length
 pl:dJ (prT L)=true
 ok:∀ t∈L,tOk t
 none:L=[]->aX s=true
 bf:∀ u r,L=u:: r->u.fBefore=(bl||aX s)
 hd:L≠[]->aX s=false->hdD (prT L)=hdD s
theorem KI {bl:Bool} {s:List UInt8} {L:List ae} (h:Sc bl s L):dJ s=true->ScP bl s L:=by
 induction h with
 | nil bl=>intro _;exact ⟨fun u r h=>(by cases h),by simp [prT],fun h=>absurd rfl h,rfl,fun t h=>(by cases h),fun _=>rfl,fun u r h=>(by cases h),fun h=>absurd rfl h⟩
 | bl bl h ih=>
  intro hp
  have hp':=hp
  simp only [dJ,List.all_cons,Bool.and_eq_true] at hp'
  have ih:=ih hp'.2
  have h32:∀ r,aX (32:: r)=true:=fun _=>(by decide:(ib 32==32)=true)
  refine ⟨ih.sc,by have:=ih.len;simp only [List.length_cons];omega,fun _ _=>by have:=ih.len;simp only [List.length_cons];omega,ih.pl,ih.ok,fun _=>h32 _,fun u r e=>?_,fun _ hf=>?_⟩
  ·rw [ih.bf u r e,h32];simp
  ·rw [h32] at hf;cases hf
 | @tok bl s k m t w L hb ht h ih=>
  intro hp
  have hlen:=nP ht
  have hps:dJ (s.drop w)=true:=List.all_eq_true.2 fun x hx=>List.all_eq_true.1 hp x (List.mem_of_mem_drop hx)
  have ih:=ih hps
  obtain ⟨g1,g2,g3,g4,g5,g6⟩:=ER hp ht bl (aX (s.drop w))
  have hnb:aX s=false:=by
   cases s with
   | nil=>cases ht
   | cons b r=>simpa [aX] using hb b r rfl
  have hne:jL ⟨k,m,t,bl,aX (s.drop w)⟩≠[]:=by
   intro e
   rw [e] at g4
   rw [qK,<-g4] at hnb
   cases hnb
  -- the rest
  obtain ⟨rest,hrest⟩:∃ rest,rest=Ke (aX (s.drop w)) L++prT L:=⟨_,rfl⟩
  have hpr:prT (⟨k,m,t,bl,aX (s.drop w)⟩:: L)=jL ⟨k,m,t,bl,aX (s.drop w)⟩++rest:=by rw [hrest];rfl
  have hcase:(L=[]/\rest=[]/\aX (s.drop w)=true)\/(∃ u r,L=u:: r/\((aX (s.drop w)=true/\rest=32:: prT L/\u.fBefore=true)\/(aX (s.drop w)=false/\rest=prT L/\u.fBefore=false))):=by
   cases hL:L with
   | nil=>subst hL;exact .inl ⟨rfl,hrest,ih.none rfl⟩
   | cons u r=>
    right
    refine ⟨u,r,rfl,?_⟩
    have hbf:=ih.bf u r hL
    rw [hL] at hrest
    rw [Bool.false_or] at hbf
    cases hn:aX (s.drop w) with
    | true=>rw [hn] at hbf;left;exact ⟨rfl,by rw [hrest];simp only [Ke,hbf,Bool.true_or,if_true];rfl,hbf⟩
    | false=>rw [hn] at hbf;right;exact ⟨rfl,by rw [hrest];simp only [Ke,hbf,hn,Bool.or_self,Bool.false_eq_true,if_false];rfl,hbf⟩
  have hnext:aX rest=aX (s.drop w):=by
   rcases hcase with ⟨_,h2,h3⟩ | ⟨u,r,hL,⟨h1,h2,_⟩ | ⟨h1,h2,_⟩⟩
   ·rw [h2,h3];rfl
   ·rw [h2,h1];exact (by decide:(ib 32==32)=true)
   ·rw [h2,qK,ih.hd (by rw [hL];simp) h1,<-qK]
  have htk:=g6 rest fun b q e hn=>by
   rcases hcase with ⟨_,h2,_⟩ | ⟨u,r,hL,⟨h1,h2,_⟩ | ⟨h1,h2,_⟩⟩
   ·rw [h2] at e;cases e
   ·rw [h2] at e;cases e;exact absurd hn (by decide)
   ·have hh:=ih.hd (by rw [hL];simp) h1
    rw [<-h2,e] at hh
    cases hs:s.drop w with
    | nil=>rw [hs] at h1;cases h1
    | cons b' q'=>
     rw [hs] at hh
     simp only [hdD,Prod.mk.injEq] at hh
     exact ⟨b',q',rfl,by rw [<-hh.1];exact hn,fun hd=>by rw [<-hh.2.1];exact hd⟩
  have hsr:Sc false rest L:=by
   rcases hcase with ⟨h1,h2,_⟩ | ⟨u,r,hL,⟨h1,h2,h3⟩ | ⟨h1,h2,h3⟩⟩
   ·rw [h1,h2];exact .nil false
   ·have:=ih.sc u r hL;rw [h3] at this;rw [h2];exact .bl false this
   ·have:=ih.sc u r hL;rw [h3] at this;rw [h2];exact this
  have hrl:rest.length<=(s.drop w).length:=by
   rcases hcase with ⟨_,h2,_⟩ | ⟨u,r,hL,⟨h1,h2,_⟩ | ⟨h1,h2,_⟩⟩
   ·rw [h2];simp
   ·have:=ih.len1 (by rw [hL];simp) h1;rw [h2];simpa using this
   ·have:=ih.len;rw [h2];exact this
  have hrp:dJ rest=true:=by
   rcases hcase with ⟨_,h2,_⟩ | ⟨u,r,hL,⟨h1,h2,_⟩ | ⟨h1,h2,_⟩⟩
   ·rw [h2];rfl
   ·rw [h2]
    simp only [dJ,List.all_cons,Bool.and_eq_true]
    exact ⟨by decide,ih.pl⟩
   ·rw [h2];exact ih.pl
  have hdr:(jL ⟨k,m,t,bl,aX (s.drop w)⟩++rest).drop (jL ⟨k,m,t,bl,aX (s.drop w)⟩).length=rest:=ur _ _
  have hsc:Sc bl (jL ⟨k,m,t,bl,aX (s.drop w)⟩++rest) (⟨k,m,t,bl,aX (s.drop w)⟩:: L):=by
   have:=Sc.tok bl (s:=jL ⟨k,m,t,bl,aX (s.drop w)⟩++rest) (L:=L) (fun b r e=>by
    have hh:hdD (jL ⟨k,m,t,bl,aX (s.drop w)⟩++rest)=hdD s:=(ES hne).trans g4
    rw [e] at hh
    have h2:=qK s
    rw [hnb,<-hh] at h2
    simpa [hdD] using h2.symm) htk (by rw [hdr];exact hsr)
   rw [hdr,hnext] at this
   exact this
  refine ⟨fun u r e=>?_,?_,fun _ hn=>?_,?_,fun t' ht'=>?_,fun e=>(by cases e),fun u r e=>?_,fun _ _=>?_⟩
  ·cases e;rw [hpr];exact hsc
  ·rw [hpr,List.length_append]
   have:=hrl
   rw [List.length_drop] at this
   omega
  ·rw [hnb] at hn;cases hn
  ·rw [hpr]
   simp only [dJ,List.all_append,Bool.and_eq_true] at g5 hrp ⊢
   exact ⟨g5,hrp⟩
  ·rcases List.mem_cons.1 ht' with e | e
   ·subst e;exact ⟨g1,g2⟩
   ·exact ih.ok t' e
  ·cases e;rw [hnb];simp
  ·rw [hpr,ES hne];exact g4
theorem v6 : ∀ (n:Nat) (s:List UInt8) (bl:Bool) (out:List ae) (at_:Nat) (R:List ae) (e:Int),out.length<=120->gP n s bl out at_=(R,e,0)->R.length<=120
 | n,[],bl,out,at_,R,e,ho,h=>by
  have:gP n [] bl out at_=(out,0,0):=by cases n<;>rfl
  rw [this] at h
  cases h
  exact ho
 | 0,b:: r,bl,out,at_,R,e,ho,h=>by
  rw [gP] at h
  cases h
  exact ho
 | n+1,b:: r,bl,out,at_,R,e,ho,h=>by
  rw [gP] at h
  split at h
  ·exact v6 n r true out _ R e ho h
  ·split at h
   ·cases h
   ·split at h
    ·cases h
    ·exact v6 n _ false _ _ R e (by simp;omega) h
theorem C3 {x:List UInt8} {L:List ae} {e:Int} (h:fu x=(L,e,0)):fu (prT L)=(L,0,0)/\(∀ t∈L,tOk t)/\L.length<=120/\(prT L).length<=4000:=by
 unfold fu at h
 split at h
 ·rename_i hx
  obtain ⟨L',h1,h2⟩:=ut _ _ _ _ _ _ _ (Nat.le_refl _) h
  have hc:=v6 _ _ _ _ _ _ _ (by simp) h
  rw [List.nil_append] at h2
  subst h2
  have hp:=KI h1 hx.2
  have hl:=hp.len
  refine ⟨?_,hp.ok,hc,by omega⟩
  unfold fu
  rw [if_pos ⟨by omega,hp.pl⟩]
  cases hL:L with
  | nil=>rfl
  | cons u r=>
   have hs:=hp.sc u r hL
   rw [hp.bf u r hL] at hs
   simp only [Bool.true_or] at hs
   rw [<-hL]
   have:=Gy hs (prT L).length [] 0 (Nat.le_refl _) (by simpa using hc)
   simpa using this
 ·cases h
end Go.Dv.U

namespace Go.Dv.U
open Go Go.Dv Go.Proofs
theorem Ce {t:ae} (h:tOk t):ke t=some true:=by
  obtain ⟨⟨k1,k2⟩,h⟩:=h
  rw [vV]
  simp only [pU,qF,jB,mc,Option.bind_some]
  rcases h with ⟨a,b,c⟩ | ⟨a,b,c,d⟩ | ⟨a,b,c⟩ | ⟨a,b,x,c,d⟩ | ⟨a,b,c⟩
  · simp [a,b,c]
  · simp [a,b,c,d]
  · simp [a,b,c]
  · have hop:nn t.fText=some true:=by
      rw [vW,c]
      have e:(len [x]==(1:Int))=true:=rfl
      rw [if_pos e,jb (by decide) x]
      simp only [Option.bind_some,Option.some.injEq]
      have all:∀ x:UInt8,nO (ib x)=true->hasB (ib x) [43,45,42,47,124,46,36,64,61]=true:=ew (by decide +kernel)
      exact all x d
    simp [a,b,hop]
  · have e1:¬ t.fKind=1:=by omega
    have e2:¬ t.fKind=2:=by omega
    have e3:¬ t.fKind=3:=by omega
    have e4:¬ t.fKind=4:=by omega
    simp [e1,e2,e3,e4,b,c,a,k2]
end Go.Dv.U

namespace Go.Dv.U
open Go Go.Dv Go.Proofs
mutual
def ab.n : ab->Nat
 | ⟨_,_,_,ks⟩=>1+ab.ns ks
def ab.ns : List ab->Nat
 | []=>0
 | y:: r=>ab.n y+ab.ns r
end
theorem ab.ns_eq : ∀ l,ab.ns l=aG ab.n l
 | []=>rfl
 | y:: r=>by simp only [ab.ns,aG,ab.ns_eq r]
theorem ab.n_eq (x:ab):x.n=1+aG ab.n x.fKids:=by
 rw [<-ab.ns_eq];cases x;rfl
mutual
def ab.all (p:ab->Bool):ab->Bool
 | ⟨a,b,c,ks⟩=>p ⟨a,b,c,ks⟩&&ab.alls p ks
def ab.alls (p:ab->Bool):List ab->Bool
 | []=>true
 | y:: r=>ab.all p y&&ab.alls p r
end
theorem ab.alls_eq (p:ab->Bool):∀ l,ab.alls p l=l.all (ab.all p)
 | []=>rfl
 | y:: r=>by simp only [ab.alls,List.all_cons,ab.alls_eq p r]
theorem ab.all_eq (p:ab->Bool) (x:ab):x.all p=(p x&&x.fKids.all (ab.all p)):=by
 rw [<-ab.alls_eq];cases x;rfl
def t7 (x:ab):Bool:=
 if x.fKind=1 then x.fKids.length==0&&x.fNum==0&&wo x.fText
 else if x.fKind=2 then x.fKids.length==0&&x.fText==[]&&(decide (0<=x.fNum)&&decide (x.fNum<=1000000000000))
 else if x.fKind=3\/x.fKind=16\/x.fKind=17\/x.fKind=18 then x.fKids.length==0&&x.fNum==0&&bi x.fText
 else if x.fKind=4 then decide (x.fKids.length<=6)&&x.fNum==0&&bi x.fText
 else x.fNum==0&&x.fText==[]&&(if x.fKind=12\/x.fKind=13 then (match x.fKids with | [_,y]=>y.fKind==3 | _=>false)
  else if x.fKind=14\/x.fKind=15 then x.fKids.length==1
  else if 5<=x.fKind/\x.fKind<=11 then x.fKids.length==2 else false)
def ab.good (x:ab):Bool:=x.all t7
def ab.valid (x:ab):Bool:=x.good&&decide (x.n<=60)
theorem ab.good_eq (x:ab):x.good=(t7 x&&x.fKids.all ab.good):=ab.all_eq _ _
theorem yB (n:Int):oq n=some (decide (0<=n)&&decide (n<=1000000000000)):=by
 rw [qF,jB];rfl
theorem ey (k:Int):nc k=some (decide (16<=k)&&decide (k<=18)):=by
 rw [zP,jB];rfl
theorem yC (k:Int):rD k=some (decide (6<=k)&&decide (k<=13)):=by
 rw [yv,jB];rfl
theorem Cf (k:Int):(k=1\/k=2\/k=3\/k=4\/k=5\/k=6\/k=7\/k=8\/k=9\/k=10\/k=11\/k=12\/k=13\/k=14\/k=15\/k=16\/k=17\/k=18)\/(∀ j:Int,1<=j->j<=18->¬ k=j):=by
 by_cases h:1<=k/\k<=18
 ·left;omega
 ·right;intro j h1 h2 e;omega
theorem pV (x:ab):iw x=some (t7 x):=by
  obtain ⟨k,n,t,ks⟩:=x
  rw [pO]
  simp only [mc,yB,ey,yC,pU,lY,lZ,l0,l4,Option.bind_some,aj,pm,t7]
  rcases Cf k with hk | hk
  · rcases hk with rfl | rfl | rfl | rfl | rfl | rfl | rfl | rfl | rfl | rfl | rfl | rfl | rfl | rfl | rfl | rfl | rfl | rfl<;>rcases ks with _ | ⟨a,_ | ⟨b,_ | ⟨c,r⟩⟩⟩<;>simp<;>first | grind | (by_cases hn:n=0<;>by_cases hm:bi t=true<;>by_cases hr:r.length<=3<;>simp [hn,hm,hr]<;>omega)
  · have hr:(decide (16<=k)&&decide (k<=18))=false:=by
      by_cases h1:16<=k
      · have:=hk 16 (by omega) (by omega);have:=hk 17 (by omega) (by omega);have:=hk 18 (by omega) (by omega)
        have h2:¬ k<=18:=by omega
        simp [h2]
      · simp [h1]
    have hr2:(decide (6<=k)&&decide (k<=13))=false:=by
      by_cases h1:6<=k
      · have h2:¬ k<=13:=fun h2=>hk k (by omega) (by omega) rfl
        simp [h2]
      · simp [h1]
    have hr3:¬ (5<=k/\k<=11):=fun h=>hk k (by omega) (by omega) rfl
    simp only [hk,hr,hr2,hr3,beq_iff_eq,Int.reduceLE,or_self,if_false,Bool.false_eq_true,not_false_eq_true,Bool.and_false,ite_self]
theorem yD (x:ab):rC x.fKind x.fNum x.fText x.fKids=some (t7 x):=by
 obtain ⟨k,n,t,ks⟩:=x
 rw [yu]
 simp only [qI,C0,vX,rX,rY,r5,r6,r7,r4,Option.bind_some,aj,pm,t7]
 rcases Cf k with hk | hk
 ·rcases hk with rfl | rfl | rfl | rfl | rfl | rfl | rfl | rfl | rfl | rfl | rfl | rfl | rfl | rfl | rfl | rfl | rfl | rfl<;>rcases ks with _ | ⟨a,_ | ⟨b,_ | ⟨c,r⟩⟩⟩<;>simp<;>first | grind | (by_cases hn:n=0<;>by_cases hm:bi t=true<;>by_cases hr:r.length<=3<;>simp [hn,hm,hr]<;>omega)
 ·have hr3:¬ (5<=k/\k<=11):=fun h=>hk k (by omega) (by omega) rfl
  simp only [hk,hr3,beq_iff_eq,Int.reduceLE,or_self,if_false,Bool.false_eq_true,not_false_eq_true,Bool.and_false,ite_self]
theorem ab.n_le_m : ∀ x:ab,x.n<=x.m+1:=by
 intro x
 induction x using ab.ind with
 | h x ih=>
  rw [x.n_eq,x.m_eq]
  have:∀ l:List ab,(∀ y∈l,y.n<=y.m+1)->aG ab.n l<=l.length+aG ab.m l:=by
   intro l
   induction l with
   | nil=>intro _;simp [aG]
   | cons y r ihr=>
    intro h
    have h1:=h y (by simp)
    have h2:=ihr fun z hz=>h z (by simp [hz])
    simp only [aG,List.length_cons];omega
  have:=this x.fKids ih
  omega
theorem v7 : ∀ x:ab,x.m<=1048576->∀ c:Int,0<=c->c<=60->jY x c=some (if x.good=true/\c+x.n<=60 then c+x.n else 61):=by
 intro x
 induction x using ab.ind with
 | h x ih=>
  intro hm c h0 h1
  have hmq:=x.m_eq
  have hn:=x.n_eq
  have loop:∀ c:Int,0<=c->c<=60->eu c x.fKids (len x.fKids) ((0:Nat):Int)=some (if x.fKids.all ab.good=true/\c+aG ab.n x.fKids<=60 then c+aG ab.n x.fKids else 61):=by
   refine bL (xs:=x.fKids) (by omega) (P:=fun i l=>∀ c:Int,0<=c->c<=60->eu c x.fKids (len x.fKids) i=some (if l.all ab.good=true/\c+aG ab.n l<=60 then c+aG ab.n l else 61)) ?_ ?_
   ·intro c h0 h1
    rw [kj]
    simp [aj,aG,h1]
   ·intro i y l _ hlt hy hi hw ih2 c h0 h1
    rw [kj,hi,hw,if_pos (by simp [aj,hlt])]
    have hmy:=ab.m_kid hy
    simp only [Option.bind_some,ab.re_eq,ih y hy (by omega) c h0 h1]
    have e:aG ab.n (y:: l)=y.n+aG ab.n l:=rfl
    rw [e,List.all_cons]
    by_cases hc:y.good=true/\c+y.n<=60
    ·rw [if_pos hc,if_neg (by simp;omega),ih2 _ (by omega) hc.2]
     congr 1
     by_cases hd:l.all ab.good=true/\c+y.n+aG ab.n l<=60
     ·rw [if_pos hd,if_pos ⟨Bool.and_eq_true_iff.2 ⟨hc.1,hd.1⟩,by omega⟩];omega
     ·rw [if_neg hd,if_neg fun h=>hd ⟨(Bool.and_eq_true_iff.1 h.1).2,by omega⟩]
    ·rw [if_neg hc,if_pos (by simp),if_neg fun h=>hc ⟨(Bool.and_eq_true_iff.1 h.1).1,by omega⟩]
  have hg:=x.good_eq
  rw [vP,aR (by omega) (by omega)]
  by_cases c1:c+1>60
  ·rw [if_pos (by simpa using c1),if_neg (by omega)]
  rw [if_neg (by simpa using c1),ab.re_eq,pV]
  have:=loop (c+1) (by omega) (by omega)
  simp only [Int.natCast_zero] at this
  rw [this,hg]
  simp only [Option.bind_some]
  cases ha:t7 x
  ·simp
  ·simp only [Bool.not_true,Bool.false_eq_true,if_false,Bool.true_and]
   congr 1
   by_cases hd:x.fKids.all ab.good=true/\c+1+aG ab.n x.fKids<=60
   ·rw [if_pos hd,if_pos ⟨hd.1,by omega⟩];omega
   ·rw [if_neg hd,if_neg fun h=>hd ⟨h.1,by omega⟩]
theorem o8 {x:ab} (hm:x.m<=1048576):lN x=some x.valid:=by
 rw [wG,ab.re_eq,v7 x hm 0 (by omega) (by omega)]
 simp only [Option.bind_some,ab.valid]
 congr 1
 by_cases h:x.good=true/\(0:Int)+x.n<=60
 ·rw [if_pos h,h.1];simp;omega
 ·rw [if_neg h]
  cases hg:x.good
  ·simp
  ·simp only [hg,true_and] at h;simp;omega
theorem z1 : ∀ x:ab,x.m<=1048576->∃ v:Int,qv x.fKind x.fNum x.fText x.fKids=some v/\1<=v/\v<=x.n/\(v<=60->v=x.n):=by
 intro x
 induction x using ab.ind with
 | h x ih=>
  intro hm
  have hmq:=x.m_eq
  have hn:=x.n_eq
  have hnm:=x.n_le_m
  have loop:∀ acc:Int,1<=acc->acc+aG ab.n x.fKids<=1048577->∃ v:Int,ic x.fKind x.fNum x.fText x.fKids acc ((0:Nat):Int)=some v/\acc<=v/\v<=acc+aG ab.n x.fKids/\(v<=60->v=acc+aG ab.n x.fKids):=by
   refine bL (xs:=x.fKids) (by omega) (P:=fun i l=>∀ acc:Int,1<=acc->acc+aG ab.n l<=1048577->∃ v:Int,ic x.fKind x.fNum x.fText x.fKids acc i=some v/\acc<=v/\v<=acc+aG ab.n l/\(v<=60->v=acc+aG ab.n l)) ?_ ?_
   ·intro acc h1 h2
    refine ⟨acc,?_,Int.le_refl _,by simp [aG],by simp [aG]⟩
    rw [jz]
    simp [aj]
   ·intro i y l _ hlt hy hi hw ih2 acc h1 h2
    have hmy:=ab.m_kid hy
    have hyn:=y.n_eq
    have e:aG ab.n (y:: l)=y.n+aG ab.n l:=rfl
    rw [e] at h2 ⊢
    by_cases hc:acc<=60
    ·obtain ⟨v,hv,v1,v2,v3⟩:=ih y hy (by omega)
     obtain ⟨u,hu,u1,u2,u3⟩:=ih2 (acc+v) (by omega) (by omega)
     refine ⟨u,?_,by omega,by omega,by omega⟩
     rw [jz,hi,hw,if_pos (by simp [aj,hlt]),if_pos (by simpa using hc)]
     simp only [Option.bind_some,hv]
     rw [aR (by omega) (by omega)]
     exact hu
    ·refine ⟨acc,?_,Int.le_refl _,by omega,by omega⟩
     rw [jz,if_pos (by simp [aj,hlt]),if_neg (by simpa using hc)]
  obtain ⟨v,hv,v1,v2,v3⟩:=loop 1 (Int.le_refl _) (by omega)
  refine ⟨v,?_,v1,by omega,by omega⟩
  rw [zS]
  exact hv
theorem yE : ∀ x:ab,x.m<=1048576->k9 x.fKind x.fNum x.fText x.fKids=some x.good:=by
 intro x
 induction x using ab.ind with
 | h x ih=>
  intro hm
  have hmq:=x.m_eq
  rw [yq,yD,x.good_eq]
  have:=qo (xs:=x.fKids) (by omega) (F:=fun y=>k9 y.fKind y.fNum y.fText y.fKids) (p:=ab.good) (J:=iZ x.fKind x.fNum x.fText x.fKids) (fun i=>by rw [tU]) (fun y hy=>ih y hy (by have:=ab.m_kid hy;omega))
  rw [this]
  simp only [Option.bind_some]
  cases t7 x<;>simp
theorem C4 {x:ab} (hm:x.m<=1048576):A0 x.fKind x.fNum x.fText x.fKids=some x.valid:=by
 rw [CX]
 obtain ⟨v,hv,v1,v2,v3⟩:=z1 x hm
 rw [hv,yE x hm]
 simp only [Option.bind_some,ab.valid]
 by_cases h:v<=60
 ·have:=v3 h
  rw [if_pos (by simpa using h)]
  have h2:x.n<=60:=by omega
  simp [h2]
 ·rw [if_neg (by simpa using h)]
  have h2:¬ x.n<=60:=by omega
  simp [h2]
def aI (k:Int):Int:=if k=6 then 1 else if k=7 then 2 else if k=8\/k=9 then 3 else if k=10\/k=11 then 4 else if k=12\/k=13 then 5 else if 14<=k/\k<=18 then 6 else 7
def uu (k:Int):List UInt8:=if k=6 then [124] else if k=8 then [43] else if k=9 then [45] else if k=10 then [42] else if k=11 then [47] else if k=12 then [46] else if k=13 then [36] else if k=14 then [45] else if k=15 then [36] else if k=16 then [46] else if k=17 then [42] else if k=18 then [64] else []
theorem cv (k:Int):1<=aI k/\aI k<=7:=by unfold aI;grind (splits:=60)
theorem yF (k:Int):(uu k).length<=1:=by unfold uu;grind (splits:=60)
theorem sB (k:Int):vo k=some (aI k):=by
 rw [CW,wH,wI,wL,wM];unfold aI;grind (splits:=60)
theorem qL (k n:Int) (t:List UInt8) (ks:List ab):om k n t ks=some (aI k):=by
 rw [yi,rT,rU,rV,rW];unfold aI;grind (splits:=60)
theorem dS {k:Int} (h0:0<=k) (h1:k<=18):lL k=some (uu k):=by
 rw [A4,G9 h0]
 have:k=0\/k=1\/k=2\/k=3\/k=4\/k=5\/k=6\/k=7\/k=8\/k=9\/k=10\/k=11\/k=12\/k=13\/k=14\/k=15\/k=16\/k=17\/k=18:=by omega
 rcases this with rfl | rfl | rfl | rfl | rfl | rfl | rfl | rfl | rfl | rfl | rfl | rfl | rfl | rfl | rfl | rfl | rfl | rfl | rfl<;>rfl
theorem z6 {k:Int} (h0:6<=k) (h1:k<=13):vq k=some (if k=7 then [32] else 32:: uu k++[32]):=by
 rw [zQ]
 have:k=6\/k=7\/k=8\/k=9\/k=10\/k=11\/k=12\/k=13:=by omega
 rcases this with rfl | rfl | rfl | rfl | rfl | rfl | rfl | rfl<;>rfl
def qU (l:Int) (p:Int×List UInt8):List UInt8:=if p.1<l then 40:: (p.2++[41]) else p.2
theorem gW (l:Int) (p:Int×List UInt8):(qU l p).length<=p.2.length+2:=by
 unfold qU;split<;>simp
def eY (k n:Int) (t:List UInt8) (ps:List (Int×List UInt8)):List UInt8:=
 if k=1 then qH t else if k=2 then Lib.itoa n else if k=3 then t
 else if k=4 then t++[40]++Lib.join (ps.map (·.2)) [44]++[41]
 else if k=16\/k=17\/k=18 then uu k++t
 else match ps with
  | [a]=>uu k++qU 6 a
  | [a,b]=>if k=5 then qU 7 a++[60]++b.2++[62] else if k=7 then qU 2 a++[32]++qU 3 b else qU (aI k) a++[32]++uu k++[32]++qU (aI k+1) b
  | _=>[]
mutual
def ab.text : ab->List UInt8
 | ⟨k,n,t,ks⟩=>eY k n t (ab.ptexts ks)
def ab.ptexts : List ab->List (Int×List UInt8)
 | []=>[]
 | y:: r=>(aI y.fKind,ab.text y):: ab.ptexts r
end
theorem ab.ptexts_eq : ∀ l,ab.ptexts l=l.map fun y=>(aI y.fKind,ab.text y)
 | []=>rfl
 | y:: r=>by simp only [ab.ptexts,List.map_cons,ab.ptexts_eq r]
theorem ab.text_eq (x:ab):x.text=eY x.fKind x.fNum x.fText (x.fKids.map fun y=>(aI y.fKind,ab.text y)):=by
 rw [<-ab.ptexts_eq];cases x;rfl
theorem gS {s:List UInt8} (h:bi s=true):s.length<=12:=by
 cases s with
 | nil=>simp
 | cons b r=>
  simp only [bi,Bool.and_eq_true_iff,decide_eq_true_eq] at h
  exact h.1.1
theorem yG (l:List ab) (C:Nat) (h:∀ y∈l,y.text.length<=C*y.n):Lib.lens (l.map ab.text)<=C*aG ab.n l:=by
 induction l with
 | nil=>simp [Lib.lens,aG]
 | cons y r ih=>
  have h1:=h y (by simp)
  have h2:=ih fun z hz=>h z (by simp [hz])
  have:Lib.lens ((y:: r).map ab.text)=y.text.length+Lib.lens (r.map ab.text):=by simp [Lib.lens]
  rw [this]
  simp only [aG,Nat.mul_add];omega
theorem v8 (xs:List (List UInt8)):(Lib.join xs [44]).length<=xs.length+Lib.lens xs:=by
 cases xs with
 | nil=>simp [Lib.join_nil]
 | cons x r=>rw [Lib.join_length];simp
theorem pW {x:ab} (h:t7 x=true):(x.fKind=1/\x.fKids=[]/\wo x.fText=true)\/(x.fKind=2/\x.fKids=[]/\0<=x.fNum/\x.fNum<=1000000000000) \/
  ((x.fKind=3\/x.fKind=16\/x.fKind=17\/x.fKind=18)/\x.fKids=[]/\bi x.fText=true)\/(x.fKind=4/\x.fKids.length<=6/\bi x.fText=true) \/
  ((x.fKind=14\/x.fKind=15)/\∃ a,x.fKids=[a])\/((5<=x.fKind/\x.fKind<=13)/\∃ a b,x.fKids=[a,b]):=by
 obtain ⟨k,n,t,ks⟩:=x
 unfold t7 at h
 rcases ks with _ | ⟨a,_ | ⟨b,_ | ⟨c,r⟩⟩⟩<;>grind (splits:=60)
theorem ab.text_len : ∀ x:ab,x.good=true->x.text.length<=250*x.n:=by
 intro x
 induction x using ab.ind with
 | h x ih=>
  intro hg
  have hn:=x.n_eq
  rw [x.good_eq,Bool.and_eq_true_iff] at hg
  obtain ⟨hnode,hk⟩:=hg
  rw [List.all_eq_true] at hk
  have ih:=fun y hy=>ih y hy (hk y hy)
  rw [x.text_eq,hn]
  have hs:=yF x.fKind
  have l1:∀ l a,(qU l a).length<=a.2.length+2:=gW
  rcases pW hnode with ⟨h1,h2,h3⟩ | ⟨h1,h2,h3,h4⟩ | ⟨h1,h2,h3⟩ | ⟨h1,h2,h3⟩ | ⟨h1,a,h2⟩ | ⟨h1,a,b,h2⟩
  ·have:=EN x.fText
   simp only [eY,h1,if_true];omega
  ·have:=Gx h3 h4
   simp only [eY,h1,if_true];simp;omega
  ·have:=gS h3
   unfold eY
   rcases h1 with h1 | h1 | h1 | h1<;>rw [h1] at hs ⊢<;>simp<;>omega
  ·have:=gS h3
   have hj:=v8 (x.fKids.map ab.text)
   have hl:=yG x.fKids 250 ih
   rw [List.length_map] at hj
   have e:((x.fKids.map fun y=>(aI y.fKind,ab.text y)).map (·.2))=x.fKids.map ab.text:=by rw [List.map_map];rfl
   simp only [eY,h1,e]
   simp only [List.length_append,List.length_cons,List.length_nil,show ¬ ((4:Int)=1) by decide,show ¬ ((4:Int)=2) by decide,show ¬ ((4:Int)=3) by decide,if_false,if_true]
   omega
  ·have ha:=ih a (by simp [h2])
   have hl:=l1 6 (aI a.fKind,a.text)
   rw [h2]
   simp only [List.map_cons,List.map_nil,aG]
   unfold eY
   rcases h1 with h1 | h1<;>rw [h1] at hs ⊢<;>simp<;>simp at hl<;>omega
  ·have ha:=ih a (by simp [h2])
   have hb:=ih b (by simp [h2])
   have p1:=fun l=>l1 l (aI a.fKind,a.text)
   have p2:=fun l=>l1 l (aI b.fKind,b.text)
   have q1:=p1 7
   have q2:=p1 2
   have q3:=p2 3
   have q4:=p1 (aI x.fKind)
   have q5:=p2 (aI x.fKind+1)
   rw [h2]
   simp only [List.map_cons,List.map_nil,aG]
   unfold eY
   rw [if_neg (by omega),if_neg (by omega),if_neg (by omega),if_neg (by omega),if_neg (by omega)]
   simp only at q1 q2 q3 q4 q5 ⊢
   split
   ·simp only [List.length_append,List.length_cons,List.length_nil];omega
   ·split
    ·simp only [List.length_append,List.length_cons,List.length_nil];omega
    ·simp only [List.length_append,List.length_cons,List.length_nil];omega
theorem kn {y:ab} (l:Int) (h:cy y=some y.text) (hl:y.text.length<=1000000000):f7 y l=some (qU l (aI y.fKind,y.text)):=by
 rw [zI,sB,ab.re_eq,h]
 simp only [Option.bind_some,qU]
 rw [av (by simp;omega)]
 simp only [Option.bind_some]
 rw [av (by simp;omega)]
 by_cases hc:aI y.fKind<l
 ·rw [if_pos (by simpa using hc),if_pos hc];simp
 ·rw [if_neg (by simpa using hc),if_neg hc]
theorem ox {y:ab} (l:Int) (h:cO y.fKind y.fNum y.fText y.fKids=some y.text) (hl:y.text.length<=1000000000):nb y.fKind y.fNum y.fText y.fKids l=some (qU l (aI y.fKind,y.text)):=by
 rw [CV,qL,h]
 simp only [Option.bind_some,qU]
 rw [av (by simp;omega)]
 simp only [Option.bind_some]
 rw [av (by simp;omega)]
 by_cases hc:aI y.fKind<l
 ·rw [if_pos (by simpa using hc),if_pos hc];simp
 ·rw [if_neg (by simpa using hc),if_neg hc]
theorem wR : ∀ x:ab,x.good=true->x.n<=1000000->cy x=some x.text:=by
 intro x
 induction x using ab.ind with
 | h x ih=>
  intro hg hn60
  have hlen:=x.text_len hg
  have hn:=x.n_eq
  have hg':=hg
  rw [x.good_eq,Bool.and_eq_true_iff] at hg
  obtain ⟨hnode,hk⟩:=hg
  rw [List.all_eq_true] at hk
  have kid:∀ y∈x.fKids,cy y=some y.text/\y.text.length<=250000000:=fun y hy=>by
   have h1:=jl (m:=ab.n) hy
   have h2:=y.text_len (hk y hy)
   exact ⟨ih y hy (hk y hy) (by omega),by omega⟩
  rw [wC,sB]
  simp only [Option.bind_some,ey]
  have hs:=yF x.fKind
  rw [x.text_eq]
  rcases pW hnode with ⟨h1,h2,h3⟩ | ⟨h1,h2,h3,h4⟩ | ⟨h1,h2,h3⟩ | ⟨h1,h2,h3⟩ | ⟨h1,a,h2⟩ | ⟨h1,a,b,h2⟩
  ·simp [h1,eY,tX]
  ·simp [h1,eY,zZ (show -9223372036854775808<=x.fNum by omega) (show x.fNum<=9223372036854775807 by omega)]
  ·have:=gS h3
   rcases h1 with h1 | h1 | h1 | h1
   ·simp [h1,eY]
   all_goals
    rw [h1] at hs ⊢
    simp [eY,dS]
    rw [av (by omega)]
  ·have hnl:=gS h3
   have fin:∀ acc:List (List UInt8),acc.length<=6->Lib.lens acc<=250000000->dA x.fKids (len x.fKids) (len x.fKids) x.fKind x.fNum x.fText x.fKids acc=some (x.fText++[40]++Lib.join acc [44]++[41]):=by
    intro acc h1 h2
    have hj:=v8 acc
    rw [kg,if_neg (by simp)]
    rw [av (by simp;omega)]
    unfold CO
    rw [if_pos (by unfold big;omega)]
    simp only [Option.bind_some]
    rw [av (by simp;omega)]
    simp only [Option.bind_some]
    rw [av (by simp;omega)]
    rfl
   have loop:∀ acc:List (List UInt8),acc.length+x.fKids.length<=6->Lib.lens acc+Lib.lens (x.fKids.map ab.text)<=250000000->dA x.fKids (len x.fKids) ((0:Nat):Int) x.fKind x.fNum x.fText x.fKids acc=some (x.fText++[40]++Lib.join (acc++x.fKids.map ab.text) [44]++[41]):=by
    refine bL (xs:=x.fKids) (by omega) (P:=fun i l=>∀ acc:List (List UInt8),acc.length+l.length<=6->Lib.lens acc+Lib.lens (l.map ab.text)<=250000000->dA x.fKids (len x.fKids) i x.fKind x.fNum x.fText x.fKids acc=some (x.fText++[40]++Lib.join (acc++l.map ab.text) [44]++[41])) ?_ ?_
    ·intro acc h1 h2
     have:=fin acc (by simpa using h1) (by omega)
     rw [aj] at this ⊢
     simpa using this
    ·intro i y l _ hlt hy hi hw ih2 acc h1 h2
     rw [kg,hi,hw,if_pos (by simp [aj,hlt])]
     simp only [Option.bind_some,ab.re_eq,(kid y hy).1]
     simp only [List.length_cons] at h1
     rw [av (by simp;omega)]
     simp only [Option.bind_some]
     have e1:Lib.lens (acc++[y.text])=Lib.lens acc+y.text.length:=by simp [Lib.lens]
     have e2:Lib.lens ((y:: l).map ab.text)=y.text.length+Lib.lens (l.map ab.text):=by simp [Lib.lens]
     rw [e2] at h2
     rw [ih2 (acc++[y.text]) (by simp;omega) (by rw [e1];omega)]
     simp
   have hl:=yG x.fKids 250 (fun y hy=>y.text_len (hk y hy))
   have:=loop [] (by simpa using h2) (by simp [Lib.lens] at hl ⊢;omega)
   have e:((x.fKids.map fun y=>(aI y.fKind,ab.text y)).map (·.2))=x.fKids.map ab.text:=by rw [List.map_map];rfl
   simp only [Int.natCast_zero,List.nil_append] at this
   rw [h1] at this ⊢
   simp only [eY,e]
   simpa using this
  ·obtain ⟨ka,la⟩:=kid a (by simp [h2])
   have hl:=gW 6 (aI a.fKind,a.text)
   simp only at hl
   rw [h2]
   simp only [jQ,List.getElem?_cons_zero,Option.bind_some,ab.re_eq]
   rw [kn 6 ka (by omega)]
   rcases h1 with h1 | h1
   all_goals
    rw [h1] at hs ⊢
    simp [eY,dS,show aI 14=6 by decide,show aI 15=6 by decide]
    rw [av (by omega)]
  ·obtain ⟨ka,la⟩:=kid a (by simp [h2])
   obtain ⟨kb,lb⟩:=kid b (by simp [h2])
   have p1:=fun l=>gW l (aI a.fKind,a.text)
   have p2:=fun l=>gW l (aI b.fKind,b.text)
   simp only at p1 p2
   have hr:=cv x.fKind
   rw [h2]
   simp only [jQ,pm,List.getElem?_cons_zero,List.getElem?_cons_succ,Option.bind_some,ab.re_eq]
   rw [aR (by omega) (by omega)]
   simp only [fun l=>kn l ka (by omega),fun l=>kn l kb (by omega),kb,Option.bind_some]
   have q1:=p1 7
   have q2:=p1 2
   have q3:=p2 3
   have q4:=p1 (aI x.fKind)
   have q5:=p2 (aI x.fKind+1)
   have hsy:=dS (k:=x.fKind) (by omega) (by omega)
   have n1:¬ x.fKind=1:=by omega
   have n2:¬ x.fKind=2:=by omega
   have n3:¬ x.fKind=3:=by omega
   have n4:¬ x.fKind=4:=by omega
   have n5:¬ (x.fKind=16\/x.fKind=17\/x.fKind=18):=by omega
   have n6:(decide (16<=x.fKind)&&decide (x.fKind<=18))=false:=by simp;omega
   simp only [List.map_cons,List.map_nil,eY,n1,n2,n3,n4,n5,n6,if_false,beq_iff_eq,hsy,Option.bind_some,Bool.false_eq_true]
   by_cases c5:x.fKind=5
   ·rw [if_pos c5,if_pos c5]
    rw [av (by simp;omega)]
    simp only [Option.bind_some]
    rw [av (by simp;omega)]
    simp only [Option.bind_some]
    rw [av (by simp;omega)]
    rfl
   ·have l6:¬ aI x.fKind=6:=by unfold aI;grind (splits:=60)
    rw [if_neg c5,if_neg c5,if_neg l6]
    by_cases c7:x.fKind=7
    ·have l7:aI x.fKind=2:=by unfold aI;simp [c7]
     rw [if_pos c7,if_pos c7]
     rw [l7] at q4 q5 ⊢
     rw [av (by simp;omega)]
     simp only [Option.bind_some]
     rw [av (by simp;omega)]
     rfl
    ·rw [if_neg c7,if_neg c7]
     rw [av (by simp;omega)]
     simp only [Option.bind_some]
     rw [av (by simp;omega)]
     simp only [Option.bind_some]
     rw [av (by simp;omega)]
     simp only [Option.bind_some]
     rw [av (by simp;omega)]
     rfl
theorem yH : ∀ x:ab,x.good=true->x.n<=1000000->cO x.fKind x.fNum x.fText x.fKids=some x.text:=by
 intro x
 induction x using ab.ind with
 | h x ih=>
  intro hg hn60
  have hlen:=x.text_len hg
  have hn:=x.n_eq
  have hg':=hg
  rw [x.good_eq,Bool.and_eq_true_iff] at hg
  obtain ⟨hnode,hk⟩:=hg
  rw [List.all_eq_true] at hk
  have kid:∀ y∈x.fKids,cO y.fKind y.fNum y.fText y.fKids=some y.text/\y.text.length<=250000000:=fun y hy=>by
   have h1:=jl (m:=ab.n) hy
   have h2:=y.text_len (hk y hy)
   exact ⟨ih y hy (hk y hy) (by omega),by omega⟩
  rw [yh]
  have hs:=yF x.fKind
  rw [x.text_eq]
  rcases pW hnode with ⟨h1,h2,h3⟩ | ⟨h1,h2,h3,h4⟩ | ⟨h1,h2,h3⟩ | ⟨h1,h2,h3⟩ | ⟨h1,a,h2⟩ | ⟨h1,a,b,h2⟩
  ·simp [h1,eY,tY]
  ·simp [h1,eY,Ba (show 0<=x.fNum by omega) (show x.fNum<9223372036854775808 by omega)]
  ·have:=gS h3
   rcases h1 with h1 | h1 | h1 | h1
   ·simp [h1,eY]
   all_goals
    rw [h1] at hs ⊢
    simp [eY,uu]
    rw [av (by simp;omega)]
    simp
  ·have hnl:=gS h3
   have loop:∀ acc:List UInt8,acc.length<=1000->(((0:Nat):Int)=0->True)->dn x.fKind x.fNum x.fText x.fKids acc ((0:Nat):Int)=some (acc++Lib.join (x.fKids.map ab.text) [44]++[41]):=by
    have key:∀ acc:List UInt8,acc.length+Lib.lens (x.fKids.map ab.text)+x.fKids.length<=1000000000->dn x.fKind x.fNum x.fText x.fKids acc ((0:Nat):Int)=some (acc++(if (0:Nat)=0 then Lib.join (x.fKids.map ab.text) [44] else Lib.joinTail [44] (x.fKids.map ab.text))++[41]):=by
     refine bL (xs:=x.fKids) (by omega) (P:=fun i l=>∀ acc:List UInt8,acc.length+Lib.lens (l.map ab.text)+l.length<=1000000000->dn x.fKind x.fNum x.fText x.fKids acc i=some (acc++(if i=0 then Lib.join (l.map ab.text) [44] else Lib.joinTail [44] (l.map ab.text))++[41])) ?_ ?_
     ·intro acc h1
      rw [lh,if_neg (by simp [aj])]
      simp only [List.length_nil,Lib.lens,List.map_nil,List.sum_nil] at h1
      rw [av (by simp;omega)]
      have:Lib.joinTail [44] []=[]:=rfl
      simp [Lib.join_nil,this]
     ·intro i y l _ hlt hy hi hw ih2 acc h1
      have e2:Lib.lens ((y:: l).map ab.text)=y.text.length+Lib.lens (l.map ab.text):=by simp [Lib.lens]
      rw [e2,List.length_cons] at h1
      rw [lh,hi,hw,if_pos (by simp [aj,hlt])]
      simp only [Option.bind_some,(kid y hy).1]
      by_cases h0:i=0
      ·subst h0
       rw [if_neg (by simp),av (by omega)]
       simp only [Option.bind_some]
       rw [ih2 _ (by simp;omega)]
       simp only [Nat.zero_add,Nat.one_ne_zero,if_false,if_true,List.map_cons,Lib.join_cons,List.append_assoc]
      ·rw [if_pos (by simp;omega),av (by simp;omega)]
       simp only [Option.bind_some]
       rw [av (by simp;omega)]
       simp only [Option.bind_some]
       rw [ih2 _ (by simp;omega)]
       have:Lib.joinTail [44] (y.text:: l.map ab.text)=[44]++y.text++Lib.joinTail [44] (l.map ab.text):=rfl
       simp only [h0,Nat.add_eq_zero_iff,Nat.one_ne_zero,and_false,if_false,List.map_cons,this,List.append_assoc]
    intro acc h1 _
    have hl:=yG x.fKids 250 (fun y hy=>y.text_len (hk y hy))
    have:=key acc (by omega)
    simpa using this
   have e:((x.fKids.map fun y=>(aI y.fKind,ab.text y)).map (·.2))=x.fKids.map ab.text:=by rw [List.map_map];rfl
   have:=loop (x.fText++[40]) (by simp;omega) (fun _=>trivial)
   simp only [Int.natCast_zero] at this
   rw [h1] at this ⊢
   simp only [eY,e]
   simp
   rw [av (by simp;omega)]
   simpa using this
  ·obtain ⟨ka,la⟩:=kid a (by simp [h2])
   have hl:=gW 6 (aI a.fKind,a.text)
   simp only at hl
   rw [h2]
   simp only [jQ,List.getElem?_cons_zero,Option.bind_some]
   rw [ox 6 ka (by omega)]
   rcases h1 with h1 | h1
   all_goals
    rw [h1] at hs ⊢
    simp [eY,uu]
    rw [av (by simp;omega)]
    simp
  ·obtain ⟨ka,la⟩:=kid a (by simp [h2])
   obtain ⟨kb,lb⟩:=kid b (by simp [h2])
   have p1:=fun l=>gW l (aI a.fKind,a.text)
   have p2:=fun l=>gW l (aI b.fKind,b.text)
   simp only at p1 p2
   have hr:=cv x.fKind
   rw [h2]
   simp only [jQ,pm,List.getElem?_cons_zero,List.getElem?_cons_succ,Option.bind_some,qL]
   rw [aR (by omega) (by omega)]
   simp only [fun l=>ox l ka (by omega),fun l=>ox l kb (by omega),kb,Option.bind_some]
   have q1:=p1 7
   have q2:=p1 2
   have q3:=p2 3
   have q4:=p1 (aI x.fKind)
   have q5:=p2 (aI x.fKind+1)
   have n1:¬ x.fKind=1:=by omega
   have n2:¬ x.fKind=2:=by omega
   have n3:¬ x.fKind=3:=by omega
   have n4:¬ x.fKind=4:=by omega
   have n5:¬ (x.fKind=16\/x.fKind=17\/x.fKind=18):=by omega
   have m1:¬ x.fKind=16:=by omega
   have m2:¬ x.fKind=17:=by omega
   have m3:¬ x.fKind=18:=by omega
   have m4:¬ x.fKind=14:=by omega
   have m5:¬ x.fKind=15:=by omega
   simp only [List.map_cons,List.map_nil,eY,n1,n2,n3,n4,n5,m1,m2,m3,m4,m5,if_false,beq_iff_eq]
   by_cases c5:x.fKind=5
   ·rw [if_pos c5,if_pos c5]
    rw [av (by simp;omega)]
    simp only [Option.bind_some]
    rw [av (by simp;omega)]
    simp only [Option.bind_some]
    rw [av (by simp;omega)]
    rfl
   ·rw [if_neg c5,if_neg c5,z6 (by omega) (by omega)]
    by_cases c7:x.fKind=7
    ·have l7:aI x.fKind=2:=by unfold aI;simp [c7]
     rw [if_pos c7,if_pos c7]
     rw [l7] at q4 q5 ⊢
     simp only [Option.bind_some]
     rw [av (by simp;omega)]
     simp only [Option.bind_some]
     rw [av (by simp;omega)]
     rfl
    ·rw [if_neg c7,if_neg c7]
     simp only [Option.bind_some]
     rw [av (by simp;omega)]
     simp only [Option.bind_some]
     rw [av (by simp;omega)]
     simp
end Go.Dv.U

namespace Go.Dv.U
open Go Go.Dv Go.Proofs
def nmB (s:List UInt8):Bool:=s==[]||bi s
def gOk (g:az):Bool:=(g.fAlways==[]||(g.fSuccess==[]&&g.fFailure==[]))&&(nmB g.fAlways&&nmB g.fSuccess&&nmB g.fFailure)
def eK (g:az):Bool:=g.fAlways==[]&&g.fSuccess==[]&&g.fFailure==[]
def zE (e:ab):Bool:=e.fKind==0&&e.fNum==0&&e.fText==[]&&decide (e.fKids.length=0)
def fJ (b:Bool) (e:ab):Bool:=if b=true then e.valid else zE e
def gm (s:aa):Bool:=nmB s.fLabel&&gOk s.fGoto&&(s.fHasSubject||(!s.fHasPattern&&!s.fHasReplace))&&(fJ s.fHasSubject s.fSubject&&fJ s.fHasPattern s.fPattern&&fJ s.fHasReplace s.fReplace)&&!(s.fLabel==[]&&!s.fHasSubject&&eK s.fGoto)
def jc (c:UInt8) (s:List UInt8):List UInt8:=if s=[] then [] else [c,40]++s++[41]
def cV (g:az):List UInt8:=if g.fAlways≠[] then [58,40]++g.fAlways++[41] else if jc 83 g.fSuccess++jc 70 g.fFailure=[] then [] else 58:: (jc 83 g.fSuccess++jc 70 g.fFailure)
def t8 (s:aa):List UInt8:=(if s.fHasReplace=true then [32,61,32]++s.fReplace.text else [])++(if cV s.fGoto=[] then [] else [32]++cV s.fGoto)
def lr (s:aa):List UInt8:=(if s.fHasSubject=true then [32]++qU 6 (aI s.fSubject.fKind,s.fSubject.text) else [])++(if s.fHasPattern=true then [32]++s.fPattern.text else [])++t8 s
def cd (s:aa):List UInt8:=s.fLabel++lr s
def cw (s:aa):Bool:=gm s&&(decide ((cd s).length<=4000)&&(fu (lr s)).2.2==0)
theorem sC {s:List UInt8} (h:nmB s=true):s.length<=12:=by
 unfold nmB at h
 rw [Bool.or_eq_true_iff] at h
 rcases h with h | h
 ·have:s=[]:=by simpa using h
  rw [this];simp
 ·exact gS h
theorem Hf (s:List UInt8):nmB s=if s=[] then true else bi s:=by
 unfold nmB
 by_cases h:s=[]
 ·simp [h]
 ·have:(s==[])=false:=by simpa using h
  simp [h]
theorem s9 (s:List UInt8):kX s=some (nmB s):=by
 rw [zJ,vX,Hf]
 simp only [Option.bind_some,beq_iff_eq]
 split<;>rfl
theorem o9 (g:az):lG g=some (gOk g):=by
 rw [wD,rM,rN]
 simp only [s9,Option.bind_some,ol]
 congr 1
 unfold gOk
 cases g.fAlways==[]<;>cases g.fSuccess==[]<;>cases g.fFailure==[]<;>cases nmB g.fAlways<;>cases nmB g.fSuccess<;>cases nmB g.fFailure<;>rfl
theorem nR (s:List UInt8):kW s=some (bi s):=by
 rw [zG,pU];rfl
theorem wS (g:az):lF g=some (gOk g):=by
 have hlab:lJ g=some ([g.fAlways,g.fSuccess,g.fFailure].filter fun s=>!(s==[])):=by
  rw [tG]
  generalize g.fAlways=A
  generalize g.fSuccess=B
  generalize g.fFailure=D
  have t3:len [A,B,D]=3:=rfl
  have w1:w64 (0+1)=1:=by decide
  have w2:w64 (1+1)=2:=by decide
  have w3:w64 (2+1)=3:=by decide
  have step:∀ (i:Int) (acc:List (List UInt8)) (y:List UInt8),idx [A,B,D] i=some y->([A,B,D]:List (List UInt8))[i.toNat]?=some y->i<3->acc.length<=10->db 3 i acc [A,B,D]=db 3 (w64 (i+1)) (acc++[y].filter fun s=>!(s==[])) [A,B,D]:=by
   intro i acc y h1 h2 h3 h4
   rw [jx,if_pos (by simpa using h3),h1,h2]
   simp only [Option.bind_some]
   by_cases hy:y=[]
   ·rw [if_neg (by simp [hy])];simp [hy]
   ·have:(y==[])=false:=by simpa using hy
    have hf:([y].filter fun s=>!(s==[]))=[y]:=by
     rw [List.filter_cons,if_pos (by rw [this];rfl)]
     rfl
    rw [if_pos (by simp [hy]),av (by simp;omega),hf]
    rfl
  have fl:∀ y:List UInt8,([y].filter fun s=>!(s==[])).length<=1:=fun y=>by
   have:=List.length_filter_le (fun s:List UInt8=>!(s==[])) [y]
   simpa using this
  have f1:=fl A
  have f2:=fl B
  rw [t3,step 0 [] A rfl rfl (by decide) (by simp),w1,step 1 _ B rfl rfl (by decide) (by simp at f1 ⊢;omega),w2,step 2 _ D rfl rfl (by decide) (by simp at f1 f2 ⊢;omega),w3,jx,if_neg (by decide)]
  congr 1
  rw [show [A,B,D]=[A]++[B]++[D] from rfl,List.filter_append,List.filter_append]
  simp
 have hall:∀ l:List (List UInt8),l.length<=10->cY l=some (l.all bi):=by
  intro l hl
  rw [iz]
  exact qo (xs:=l) (by omega) (F:=kW) (p:=bi) (J:=bQ l (len l)) (fun i=>by rw [gp]) (fun y _=>nR y)
 rw [wB]
 try simp only [az.re_eq]
 rw [hlab]
 simp only [Option.bind_some]
 rw [hall _ (by
  have:=List.length_filter_le (fun s:List UInt8=>!(s==[])) [g.fAlways,g.fSuccess,g.fFailure]
  simp at this ⊢;omega)]
 simp only [Option.bind_some,ol]
 congr 1
 unfold gOk nmB
 have hf:∀ s:List UInt8,(s==[])=true\/(s==[])=false:=fun s=>by cases s==[]<;>simp
 rcases hf g.fAlways with h1 | h1<;>rcases hf g.fSuccess with h2 | h2<;>rcases hf g.fFailure with h3 | h3<;>simp only [List.filter_cons,List.filter_nil,h1,h2,h3,Bool.not_true,Bool.not_false,Bool.false_eq_true,if_false,if_true,List.all_nil,List.all_cons,Bool.and_true,Bool.true_or,Bool.false_or,Bool.true_and,Bool.and_self,Bool.and_false,Bool.false_and,ite_self]<;>(try split)<;>simp_all
theorem pX (b:Bool) {e:ab} (hm:e.m<=1048576):qq b e=some (fJ b e):=by
 rw [A3]
 unfold fJ
 cases b
 ·simp only [Bool.false_eq_true,if_false]
  have z0:(Int.ofNat 0)=0:=rfl
  simp only [ab.re_eq,z0]
  rw [yl]
  unfold zE
  have hk:aM e.fKids []=some (decide (e.fKids.length=0)):=by
   rw [bV]
   by_cases h:e.fKids.length=0
   ·rw [if_neg (by simp [aj,h]),bS,if_neg (by simp [aj,h])]
    simp [h]
   ·rw [if_pos (by simp [aj];intro e;exact h (by rw [e];rfl))]
    simp [h]
  rw [hk]
  simp only [Option.bind_some,ol]
  cases e.fKind==0<;>cases e.fNum==0<;>cases e.fText==[]<;>simp
 ·simp only [if_true,ab.re_eq,o8 hm,Option.bind_some]
theorem nT (b:Bool) {e:ab} (hm:e.m<=1048576):na b e=some (fJ b e):=by
 rw [zK]
 unfold fJ
 cases b
 ·simp only [Bool.false_eq_true,if_false]
  have z0:(Int.ofNat 0)=0:=rfl
  simp only [ab.re_eq,z0]
  rw [qA,s8,vN]
  unfold zE
  by_cases h1:e.fKind=0
  ·rw [if_neg (by simp [h1])]
   by_cases h2:e.fNum=0
   ·rw [if_neg (by simp [h2])]
    by_cases h3:e.fText=[]
    ·rw [if_neg (by simp [h3])]
     by_cases h4:e.fKids.length=0
     ·rw [if_neg (by simp [aj,h4]),nD,jy,if_neg (by simp [aj,h4])]
      simp [h1,h2,h3,h4]
     ·rw [if_pos (by simp [aj];intro e;exact h4 (by rw [e];rfl))]
      simp [h4]
    ·rw [if_pos (by simp [h3])]
     simp [h3]
   ·rw [if_pos (by simp [h2])]
    simp [h2]
  ·rw [if_pos (by simp [h1])]
   simp [h1]
 ·simp only [if_true,ab.re_eq,wF,C4 hm,Option.bind_some]
theorem z7 {s:aa} (h1:s.fSubject.m<=1048576) (h2:s.fPattern.m<=1048576) (h3:s.fReplace.m<=1048576):vj s=some (gm s):=by
 rw [zF,vB,vC,vI,vJ]
 simp only [ab.re_eq,az.re_eq,s9,o9,nT _ h1,nT _ h2,nT _ h3,Option.bind_some,ol]
 congr 1
 unfold gm eK
 cases nmB s.fLabel<;>cases gOk s.fGoto<;>cases fJ s.fHasSubject s.fSubject<;>cases fJ s.fHasPattern s.fPattern<;>cases fJ s.fHasReplace s.fReplace<;>cases s.fHasSubject<;>cases s.fHasPattern<;>cases s.fHasReplace<;>cases (s.fLabel==[])<;>cases s.fGoto.fAlways==[]<;>cases s.fGoto.fSuccess==[]<;>cases s.fGoto.fFailure==[]<;>rfl
theorem Be {g:az} (h:gOk g=true):g.fAlways.length<=12/\g.fSuccess.length<=12/\g.fFailure.length<=12:=by
 unfold gOk at h
 simp only [Bool.and_eq_true_iff] at h
 exact ⟨sC h.2.1.1,sC h.2.1.2,sC h.2.2⟩
theorem fD {c:UInt8} {s:List UInt8} (h:s≠[]):jc c s=[c,40]++s++[41]:=by unfold jc;rw [if_neg h]
theorem jC (c:UInt8):jc c []=[]:=rfl
theorem qM (c:UInt8) (s:List UInt8):(jc c s).length<=s.length+3:=by unfold jc;split<;>simp
theorem wT {g:az} (h:gOk g=true):jq g=some (cV g):=by
 obtain ⟨l1,l2,l3⟩:=Be h
 have L8:∀ o:List UInt8,o.length<=100->d7 o=some (if o=[] then [] else 58:: o):=by
  intro o ho
  rw [rS]
  by_cases h:o=[]
  ·rw [if_pos (by simp [h]),if_pos h]
  ·rw [if_neg (by simpa using h),if_neg h,av (by simp;omega)]
   rfl
 rw [wE]
 have w1:=qM 83 g.fSuccess
 have w2:=qM 70 g.fFailure
 by_cases hA:g.fAlways=[]
 ·have hG:cV g=if jc 83 g.fSuccess++jc 70 g.fFailure=[] then [] else 58:: (jc 83 g.fSuccess++jc 70 g.fFailure):=by unfold cV;rw [if_neg (fun h=>h hA)]
  rw [if_neg (by simp [hA]),hG]
  by_cases hS:g.fSuccess=[]
  ·rw [if_neg (by simp [hS]),hS,jC,List.nil_append]
   by_cases hF:g.fFailure=[]
   ·rw [if_neg (by simp [hF]),hF,jC,L8 [] (by simp)]
   ·rw [if_pos (by simp [hF]),av (by simp;omega)]
    simp only [Option.bind_some]
    rw [av (by simp;omega)]
    simp only [Option.bind_some]
    rw [av (by simp;omega)]
    simp only [Option.bind_some]
    rw [L8 _ (by simp;omega),fD hF]
    simp
  ·rw [if_pos (by simp [hS]),av (by simp;omega)]
   simp only [Option.bind_some]
   rw [av (by simp;omega)]
   simp only [Option.bind_some]
   rw [av (by simp;omega)]
   simp only [Option.bind_some]
   by_cases hF:g.fFailure=[]
   ·rw [if_neg (by simp [hF]),hF,jC,L8 _ (by simp;omega),fD hS]
    simp
   ·rw [if_pos (by simp [hF]),av (by simp;omega)]
    simp only [Option.bind_some]
    rw [av (by simp;omega)]
    simp only [Option.bind_some]
    rw [av (by simp;omega)]
    simp only [Option.bind_some]
    rw [L8 _ (by simp;omega),fD hF,fD hS]
    simp
 ·have hG:cV g=[58,40]++g.fAlways++[41]:=by unfold cV;rw [if_pos hA]
  rw [if_pos (by simp [hA]),hG,av (by simp;omega)]
  simp only [Option.bind_some]
  rw [av (by simp;omega)]
  rfl
theorem yI {g:az} (h:gOk g=true):kY g=some (cV g):=by
 obtain ⟨l1,l2,l3⟩:=Be h
 rw [yj]
 try simp only [az.re_eq]
 rw [o9,h]
 simp only [Option.bind_some,Bool.not_true,Bool.false_eq_true,if_false]
 have L8:∀ (o A B D:List UInt8),o.length<=100->D.length<=12->iW o A B D=some (o++jc 70 D):=by
  intro o A B D ho hD
  rw [tM]
  by_cases h:D=[]
  ·rw [if_neg (by simp [h]),h,jC];simp
  ·rw [if_pos (by simp [h]),av (by simp;omega)]
   simp only [Option.bind_some]
   rw [av (by simp;omega)]
   simp only [Option.bind_some]
   rw [av (by simp;omega),fD h]
   simp
 by_cases hA:g.fAlways=[]
 ·have hG:cV g=if jc 83 g.fSuccess++jc 70 g.fFailure=[] then [] else 58:: (jc 83 g.fSuccess++jc 70 g.fFailure):=by unfold cV;rw [if_neg (fun h=>h hA)]
  rw [hG]
  by_cases hS:g.fSuccess=[]
  ·by_cases hF:g.fFailure=[]
   ·rw [if_pos (by simp [hA,hS,hF]),hS,hF]
    rfl
   ·rw [if_neg (by simp [hF]),if_neg (by simp [hA]),if_neg (by simp [hS]),L8 _ _ _ _ (by simp) l3,hS,jC,fD hF]
    simp
  ·rw [if_neg (by simp [hS]),if_neg (by simp [hA]),if_pos (by simp [hS]),av (by simp;omega)]
   simp only [Option.bind_some]
   rw [av (by simp;omega)]
   simp only [Option.bind_some]
   rw [av (by simp;omega)]
   simp only [Option.bind_some]
   rw [L8 _ _ _ _ (by simp;omega) l3,fD hS]
   simp
 ·have hG:cV g=[58,40]++g.fAlways++[41]:=by unfold cV;rw [if_pos hA]
  rw [if_neg (by simp [hA]),if_pos (by simp [hA]),hG,av (by simp;omega)]
  simp only [Option.bind_some]
  rw [av (by simp;omega)]
  rfl
theorem wa {g:az} (h:gOk g=true):(cV g).length<=100:=by
 obtain ⟨l1,l2,l3⟩:=Be h
 have w1:=qM 83 g.fSuccess
 have w2:=qM 70 g.fFailure
 unfold cV
 repeat' split
 all_goals simp<;>omega
theorem nU (g:az):cV g=[]↔eK g=true:=by
 unfold cV eK jc
 by_cases hA:g.fAlways=[]<;>by_cases hS:g.fSuccess=[]<;>by_cases hF:g.fFailure=[]<;>simp [hA,hS,hF]
theorem eA {b:Bool} {e:ab} (h:fJ b e=true) (hb:b=true):cy e=some e.text/\cO e.fKind e.fNum e.fText e.fKids=some e.text/\e.text.length<=15000:=by
 unfold fJ at h
 rw [if_pos hb] at h
 unfold ab.valid at h
 rw [Bool.and_eq_true_iff,decide_eq_true_eq] at h
 have:=e.text_len h.1
 exact ⟨wR e h.1 (by omega),yH e h.1 (by omega),by omega⟩
theorem fK {s:aa} (h:gm s=true):nmB s.fLabel=true/\gOk s.fGoto=true/\fJ s.fHasSubject s.fSubject=true/\fJ s.fHasPattern s.fPattern=true/\fJ s.fHasReplace s.fReplace=true:=by
 unfold gm at h
 simp only [Bool.and_eq_true_iff] at h
 obtain ⟨⟨⟨⟨h1,h2⟩,h3⟩,⟨h4,h5⟩,h6⟩,h7⟩:=h
 exact ⟨h1,h2,h4,h5,h6⟩
theorem fL {s:aa} (h:gm s=true):dW s=some (cd s):=by
 obtain ⟨hl,hg,hs,hp,hr⟩:=fK h
 have ll:=sC hl
 have lg:=wa hg
 have hgt:jq (az.mk s.fGoto.fAlways s.fGoto.fSuccess s.fGoto.fFailure)=some (cV s.fGoto):=wT hg
 have L6:∀ acc:List UInt8,acc.length<=100000->ce acc s.fLabel s.fHasSubject s.fSubject.fKind s.fSubject.fNum s.fSubject.fText s.fSubject.fKids s.fHasPattern s.fPattern.fKind s.fPattern.fNum s.fPattern.fText s.fPattern.fKids s.fHasReplace s.fReplace.fKind s.fReplace.fNum s.fReplace.fText s.fReplace.fKids s.fGoto.fAlways s.fGoto.fSuccess s.fGoto.fFailure=some (acc++t8 s):=by
  intro acc ha
  rw [mF]
  simp only [lU,hgt,Option.bind_some]
  unfold t8
  have er:ab.mk s.fReplace.fKind s.fReplace.fNum s.fReplace.fText s.fReplace.fKids=s.fReplace:=by cases s.fReplace;rfl
  rw [er]
  have fin:∀ o:List UInt8,o.length<=200000->(if (!cV s.fGoto==[])=true then (app [32] (cV s.fGoto)).bind fun y194=>(app o y194).bind fun y193=>some y193 else some o)=some (o++(if cV s.fGoto=[] then [] else [32]++cV s.fGoto)):=by
   intro o ho
   by_cases hz:cV s.fGoto=[]
   ·rw [if_neg (by simp [hz]),if_pos hz];simp
   ·rw [if_pos (by simp [hz]),if_neg hz,av (by simp;omega)]
    simp only [Option.bind_some]
    rw [av (by simp;omega)]
    rfl
  cases hR:s.fHasReplace
  ·simp only [Bool.false_eq_true,if_false,List.nil_append]
   exact fin acc (by omega)
  ·obtain ⟨t1,_,t3⟩:=eA hr hR
   simp only [if_true,t1,Option.bind_some]
   rw [av (by simp;omega)]
   simp only [Option.bind_some]
   rw [av (by simp;omega)]
   simp only [Option.bind_some]
   rw [fin _ (by simp;omega)]
   simp
 rw [pA]
 try simp only [ab.re_eq,az.re_eq]
 unfold cd lr
 cases hS:s.fHasSubject
 ·cases hP:s.fHasPattern
  ·rw [hS,hP] at L6
   simp only [Bool.false_eq_true,if_false,List.nil_append]
   exact L6 s.fLabel (by omega)
  ·obtain ⟨t1,_,t3⟩:=eA hp hP
   rw [hS,hP] at L6
   simp only [Bool.false_eq_true,if_false,if_true,List.nil_append,t1,Option.bind_some]
   rw [av (by simp;omega)]
   simp only [Option.bind_some]
   rw [av (by simp;omega)]
   simp only [Option.bind_some]
   rw [L6 _ (by simp;omega)]
   simp
 ·obtain ⟨u1,_,u3⟩:=eA hs hS
  have lo:=gW 6 (aI s.fSubject.fKind,s.fSubject.text)
  simp only at lo
  have uo:=kn 6 u1 (by omega)
  cases hP:s.fHasPattern
  ·rw [hS,hP] at L6
   simp only [Bool.false_eq_true,if_false,if_true,uo,Option.bind_some]
   rw [av (by simp;omega)]
   simp only [Option.bind_some]
   rw [av (by simp;omega)]
   simp only [Option.bind_some]
   rw [L6 _ (by simp;omega)]
   simp
  ·obtain ⟨t1,_,t3⟩:=eA hp hP
   rw [hS,hP] at L6
   simp only [if_true,uo,t1,Option.bind_some]
   rw [av (xs:=[32]) (ys:=qU 6 (aI s.fSubject.fKind,s.fSubject.text)) (by simp;omega)]
   simp only [Option.bind_some]
   rw [av (xs:=s.fLabel) (by simp;omega)]
   simp only [Option.bind_some]
   rw [av (xs:=[32]) (by simp;omega)]
   simp only [Option.bind_some]
   rw [av (by simp;omega)]
   simp only [Option.bind_some]
   rw [L6 _ (by simp;omega)]
   simp
theorem me {s:aa} (h:gm s=true):kV s=some (cd s):=by
  obtain ⟨hl,hg,hs,hp,hr⟩:=fK h
  have ll:=sC hl
  have lg:=wa hg
  have hgt:kY (az.mk s.fGoto.fAlways s.fGoto.fSuccess s.fGoto.fFailure)=some (cV s.fGoto):=yI hg
  have hz2:(s.fGoto.fAlways==[]&&(s.fGoto.fSuccess==[]&&(s.fGoto.fFailure==[]&&true)))=eK s.fGoto:=by
    unfold eK;simp only [Bool.and_true,Bool.and_assoc]
  have L6 : ∀ acc:List UInt8,acc.length<=100000->eE acc s.fLabel s.fHasSubject s.fSubject.fKind s.fSubject.fNum s.fSubject.fText s.fSubject.fKids s.fHasPattern s.fPattern.fKind s.fPattern.fNum s.fPattern.fText s.fPattern.fKids s.fHasReplace s.fReplace.fKind s.fReplace.fNum s.fReplace.fText s.fReplace.fKids s.fGoto.fAlways s.fGoto.fSuccess s.fGoto.fFailure=some (acc++t8 s):=by
    intro acc ha
    rw [tA]
    simp only [rO,hgt,hz2,Option.bind_some]
    unfold t8
    have fin:∀ o:List UInt8,o.length<=200000->(if (!eK s.fGoto)=true then (app [32] (cV s.fGoto)).bind fun y194=>(app o y194).bind fun y193=>some y193 else some o)=some (o++(if cV s.fGoto=[] then [] else [32]++cV s.fGoto)):=by
      intro o ho
      by_cases hz:cV s.fGoto=[]
      · rw [if_neg (by rw [(nU _).1 hz];simp),if_pos hz];simp
      · have hzf:eK s.fGoto=false:=by
          cases hq:eK s.fGoto
          · rfl
          · exact absurd ((nU _).2 hq) hz
        rw [if_pos (by rw [hzf];rfl),if_neg hz,av (by simp;omega)]
        simp only [Option.bind_some]
        rw [av (by simp;omega)]
        rfl
    cases hR:s.fHasReplace
    · simp only [Bool.false_eq_true,if_false,List.nil_append]
      exact fin acc (by omega)
    · obtain ⟨_,t1,t3⟩:=eA hr hR
      simp only [if_true,t1,Option.bind_some]
      rw [av (by simp;omega)]
      simp only [Option.bind_some]
      rw [av (by simp;omega)]
      simp only [Option.bind_some]
      rw [fin _ (by simp;omega)]
      simp
  rw [yg]
  try simp only [ab.re_eq,az.re_eq]
  unfold cd lr
  cases hS:s.fHasSubject
  · cases hP:s.fHasPattern
    · rw [hS,hP] at L6
      simp only [Bool.false_eq_true,if_false,List.nil_append]
      exact L6 s.fLabel (by omega)
    · obtain ⟨_,t1,t3⟩:=eA hp hP
      rw [hS,hP] at L6
      simp only [Bool.false_eq_true,if_false,if_true,List.nil_append,t1,Option.bind_some]
      rw [av (by simp;omega)]
      simp only [Option.bind_some]
      rw [av (by simp;omega)]
      simp only [Option.bind_some]
      rw [L6 _ (by simp;omega)]
      simp
  · obtain ⟨_,u1,u3⟩:=eA hs hS
    have lo:=gW 6 (aI s.fSubject.fKind,s.fSubject.text)
    simp only at lo
    have uo:=ox 6 u1 (by omega)
    cases hP:s.fHasPattern
    · rw [hS,hP] at L6
      simp only [Bool.false_eq_true,if_false,if_true,uo,Option.bind_some]
      rw [av (by simp;omega)]
      simp only [Option.bind_some]
      rw [av (by simp;omega)]
      simp only [Option.bind_some]
      rw [L6 _ (by simp;omega)]
      simp
    · obtain ⟨_,t1,t3⟩:=eA hp hP
      rw [hS,hP] at L6
      simp only [if_true,uo,t1,Option.bind_some]
      rw [av (xs:=[32]) (ys:=qU 6 (aI s.fSubject.fKind,s.fSubject.text)) (by simp;omega)]
      simp only [Option.bind_some]
      rw [av (xs:=s.fLabel) (by simp;omega)]
      simp only [Option.bind_some]
      rw [av (xs:=[32]) (by simp;omega)]
      simp only [Option.bind_some]
      rw [av (by simp;omega)]
      simp only [Option.bind_some]
      rw [L6 _ (by simp;omega)]
      simp
theorem wb {s:aa} (h:gm s=true):(cd s).length<=100000:=by
 obtain ⟨hl,hg,hs,hp,hr⟩:=fK h
 have ll:=sC hl
 have lg:=wa hg
 have lo:=gW 6 (aI s.fSubject.fKind,s.fSubject.text)
 simp only at lo
 unfold cd lr t8
 have a1:(if s.fHasSubject=true then [32]++qU 6 (aI s.fSubject.fKind,s.fSubject.text) else []).length<=15003:=by
  split
  ·rename_i hS
   obtain ⟨_,_,u3⟩:=eA hs hS
   simp;omega
  ·simp
 have a2:(if s.fHasPattern=true then [32]++s.fPattern.text else []).length<=15003:=by
  split
  ·rename_i hS
   obtain ⟨_,_,u3⟩:=eA hp hS
   simp;omega
  ·simp
 have a3:(if s.fHasReplace=true then [32,61,32]++s.fReplace.text else []).length<=15003:=by
  split
  ·rename_i hS
   obtain ⟨_,_,u3⟩:=eA hr hS
   simp;omega
  ·simp
 have a4:(if cV s.fGoto=[] then [] else [32]++cV s.fGoto).length<=101:=by
  split
  ·simp
  ·simp;omega
 simp only [List.length_append]
 omega
theorem Il {p r:List UInt8} (h:(p++r).length<=1000000):ee (p++r) p=some r:=by
 have hh:bM (p++r) p=some true:=by
  rw [dm,if_pos (by simp [aj];omega)]
  have:=kU (xs:=p++r) (a:=0) (b:=p.length) (by omega) (by simp)
  rw [Option.getD_some,aj,show (0:Int)=((0:Nat):Int) from rfl,this]
  simp
 rw [nE,fU,hh]
 simp only [Option.bind_some,if_true]
 have:=kU (xs:=p++r) (a:=p.length) (b:=(p++r).length) (by simp) (Nat.le_refl _)
 rw [Option.getD_none,aj,aj,this,List.take_length,List.drop_left]
 rfl
theorem fM {s:aa} (h1:s.fSubject.m<=1048576) (h2:s.fPattern.m<=1048576) (h3:s.fReplace.m<=1048576):dU s=some (cw s):=by
 have es:aa.mk s.fLabel s.fHasSubject s.fSubject s.fHasPattern s.fPattern s.fHasReplace s.fReplace s.fGoto=s:=rfl
 rw [pw]
 try simp only [aa.re_eq,ab.re_eq,az.re_eq]
 rw [es,z7 h1 h2 h3]
 simp only [Option.bind_some]
 unfold cw
 cases hf:gm s
 ·simp
 ·have hl:=wb hf
  rw [me hf]
  simp only [Option.bind_some,Bool.not_true,Bool.false_eq_true,if_false,Bool.true_and]
  by_cases h4:(cd s).length<=4000
  ·rw [if_neg (by simp [aj];omega)]
   have hc:cut (cd s) (len s.fLabel) (Option.getD none (len (cd s)))=some (lr s):=by
    have:=kU (xs:=cd s) (a:=s.fLabel.length) (b:=(cd s).length) (by unfold cd;simp) (Nat.le_refl _)
    rw [Option.getD_none,aj,aj,this,List.take_length]
    unfold cd
    rw [List.drop_left]
   have hr:(lr s).length<=(cd s).length:=by unfold cd;simp
   rw [hc]
   simp only [Option.bind_some]
   rw [vZ (by omega)]
   simp only [Option.bind_some,h4,decide_true,Bool.true_and]
  ·rw [if_pos (by simp [aj];omega)]
   simp [h4]
theorem jD {s:aa} (h1:s.fSubject.m<=1048576) (h2:s.fPattern.m<=1048576) (h3:s.fReplace.m<=1048576):dV s=some (cw s):=by
 have es:aa.mk s.fLabel s.fHasSubject s.fSubject s.fHasPattern s.fPattern s.fHasReplace s.fReplace s.fGoto=s:=rfl
 have ea:ab.mk s.fSubject.fKind s.fSubject.fNum s.fSubject.fText s.fSubject.fKids=s.fSubject:=by cases s.fSubject;rfl
 have eb:ab.mk s.fPattern.fKind s.fPattern.fNum s.fPattern.fText s.fPattern.fKids=s.fPattern:=by cases s.fPattern;rfl
 have ec:ab.mk s.fReplace.fKind s.fReplace.fNum s.fReplace.fText s.fReplace.fKids=s.fReplace:=by cases s.fReplace;rfl
 have eg:az.mk s.fGoto.fAlways s.fGoto.fSuccess s.fGoto.fFailure=s.fGoto:=rfl
 have L7:gm s=true->cf s.fLabel s.fHasSubject s.fSubject.fKind s.fSubject.fNum s.fSubject.fText s.fSubject.fKids s.fHasPattern s.fPattern.fKind s.fPattern.fNum s.fPattern.fText s.fPattern.fKids s.fHasReplace s.fReplace.fKind s.fReplace.fNum s.fReplace.fText s.fReplace.fKids s.fGoto.fAlways s.fGoto.fSuccess s.fGoto.fFailure=some (cw s):=by
  intro hf
  have hl:=wb hf
  have hr:(lr s).length<=(cd s).length:=by unfold cd;simp
  rw [mJ,ea,eb,ec,eg,es,fL hf]
  simp only [Option.bind_some]
  have ht:ee (cd s) s.fLabel=some (lr s):=Il (by unfold cd at hl;omega)
  rw [ht]
  simp only [Option.bind_some]
  rw [nQ (by omega)]
  simp only [Option.bind_some]
  unfold cw
  rw [hf]
  by_cases h4:(cd s).length<=4000
  ·rw [if_pos (by simp [aj];omega)]
   simp [h4]
  ·rw [if_neg (by simp [aj];omega)]
   simp [h4]
 have bad:gm s=false->cw s=false:=fun h=>by unfold cw;rw [h];rfl
 have hz2:(s.fGoto.fAlways==[]&&(s.fGoto.fSuccess==[]&&(s.fGoto.fFailure==[]&&true)))=eK s.fGoto:=by
  unfold eK;simp only [Bool.and_true,Bool.and_assoc]
 have hform:gm s=(nmB s.fLabel&&gOk s.fGoto&&(s.fHasSubject||(!s.fHasPattern&&!s.fHasReplace))&&(fJ s.fHasSubject s.fSubject&&fJ s.fHasPattern s.fPattern&&fJ s.fHasReplace s.fReplace)&&!(s.fLabel==[]&&!s.fHasSubject&&eK s.fGoto)):=rfl
 have hnm:nmB s.fLabel=(s.fLabel==[]||bi s.fLabel):=rfl
 rw [pz]
 try simp only [aa.re_eq,ab.re_eq,az.re_eq]
 rw [nR,wS]
 simp only [mD,mE,mG,mH,mI,ea,eb,ec,pX _ h1,pX _ h2,pX _ h3,Option.bind_some,hz2]
 generalize cf s.fLabel s.fHasSubject s.fSubject.fKind s.fSubject.fNum s.fSubject.fText s.fSubject.fKids s.fHasPattern s.fPattern.fKind s.fPattern.fNum s.fPattern.fText s.fPattern.fKids s.fHasReplace s.fReplace.fKind s.fReplace.fNum s.fReplace.fText s.fReplace.fKids s.fGoto.fAlways s.fGoto.fSuccess s.fGoto.fFailure=Z at L7
 cases hF:gm s
 ·rw [bad hF]
  rw [hform,hnm] at hF
  revert hF
  cases (s.fLabel==[])<;>cases bi s.fLabel<;>cases gOk s.fGoto<;>cases fJ s.fHasSubject s.fSubject<;>cases fJ s.fHasPattern s.fPattern<;>cases fJ s.fHasReplace s.fReplace<;>cases s.fHasSubject<;>cases s.fHasPattern<;>cases s.fHasReplace<;>cases eK s.fGoto<;>intro hF<;>first | rfl | (cases hF)
 ·have hZ:=L7 hF
  rw [<-hZ]
  rw [hform,hnm] at hF
  revert hF
  cases (s.fLabel==[])<;>cases bi s.fLabel<;>cases gOk s.fGoto<;>cases fJ s.fHasSubject s.fSubject<;>cases fJ s.fHasPattern s.fPattern<;>cases fJ s.fHasReplace s.fReplace<;>cases s.fHasSubject<;>cases s.fHasPattern<;>cases s.fHasReplace<;>cases eK s.fGoto<;>intro hF<;>first | rfl | (cases hF)
theorem jE {s:aa} (h:cw s=true):gm s=true:=by
 unfold cw at h
 exact (Bool.and_eq_true_iff.1 h).1
end Go.Dv.U

namespace Go.Dv.U
open Go Go.Dv Go.Proofs
def FA (l:List UInt8):Bool:=l==[82,69,84,85,82,78]||l==[70,82,69,84,85,82,78]
def ixP (xs:List aa) (l:List UInt8):Int:=ixF (fun s:aa=>s.fLabel==l) xs 0
def z8 (xs:List aa) (s:aa) (i:Nat):Bool:=s.fLabel==[]||(!(FA s.fLabel)&&ixP xs s.fLabel==(i:Int))
def mN (xs:List aa):List UInt8:=xs.flatMap fun s=>cd s++[10]
def Hg (xs:List aa):Bool:=xs.all cw&&yw (z8 xs) xs 0
def iM (p:ak):Bool:=decide (p.fStatements.length<=80)&&Hg p.fStatements&&decide ((mN p.fStatements).length<=4000)
theorem sMk (s:aa):aa.mk s.fLabel s.fHasSubject s.fSubject s.fHasPattern s.fPattern s.fHasReplace s.fReplace s.fGoto=s:=rfl
theorem sM {y:aa} (hy:y.m<=1048576):y.fSubject.m<=1048576/\y.fPattern.m<=1048576/\y.fReplace.m<=1048576:=by
 have he:=y.m_eq
 omega
theorem my (l:List UInt8):iS l=some (FA l):=by
 rw [tD];unfold FA
 cases l==[82,69,84,85,82,78]<;>simp
theorem nV (l:List UInt8):jV l=some (FA l):=by
 rw [vE];unfold FA
 cases l==[82,69,84,85,82,78]<;>simp
theorem qN {p:ak} (hp:p.fStatements.length<=80) {l:List UInt8} (hl:(l==[])=false):jf p l=some (ixP p.fStatements l):=by
 rw [qB]
 refine A9 (xs:=p.fStatements) (by omega) (J:=fun i=>cj l i p.fStatements) ?_ ?_
 ·intro i y hlt hy hi hw
  show cj l (i:Int) p.fStatements=_
  rw [fB,if_pos (by simpa [aj] using hlt),if_pos (by simp [hl]),hi]
  simp only [Option.bind_some,hw]
 ·show cj l _ p.fStatements=_
  rw [fB,if_neg (by simp [aj])]
theorem wU {p:ak} (hp:p.fStatements.length<=80):jf p []=some (-1):=by
 rw [qB]
 have:=A9 (xs:=p.fStatements) (by omega) (p:=fun _=>false) (J:=fun i=>cj [] i p.fStatements) (by
  intro i y hlt hy hi hw
  show cj [] (i:Int) p.fStatements=_
  rw [fB,if_pos (by simpa [aj] using hlt),if_neg (by simp),hw]
  simp) (by
  show cj [] _ p.fStatements=_
  rw [fB,if_neg (by simp [aj])])
 refine Eq.trans this ?_
 have:∀ (l:List aa) (i:Nat),ixF (fun _=>false) l i = -1:=by
  intro l
  induction l with
  | nil=>intro i;rfl
  | cons a r ih=>intro i;simp [ixF,ih]
 rw [this]
theorem nW {p:ak} (hp:p.fStatements.length<=80) (l:List UInt8):dt p l=some (ixP p.fStatements l):=by
 rw [lT,bK]
 have:=A9 (xs:=p.fStatements) (by omega) (p:=fun s:aa=>s.fLabel==l) (J:=fun i=>ap p.fStatements l (len p.fStatements) i) (by
  intro i y hlt hy hi hw
  show ap p.fStatements l (len p.fStatements) (i:Int)=_
  rw [aQ,if_pos (by simpa [aj] using hlt),hi]
  simp only [Option.bind_some,jJ,hw]) (by
  show ap p.fStatements l (len p.fStatements) _=_
  rw [aQ,if_neg (by simp [aj])])
 try simp only at this
 rw [this];rfl
theorem Cg {α β:Type} {f:α->List β} {B:Nat}:∀ {l:List α},(∀ y∈l,(f y).length<=B)->(l.flatMap f).length<=l.length*B
 | [],_=>by simp
 | y:: r,h=>by
  have h1:=h y (by simp)
  have h2:=Cg (l:=r) fun z hz=>h z (by simp [hz])
  simp only [List.flatMap_cons,List.length_append,List.length_cons,Nat.add_mul]
  omega
theorem Aa {xs:List aa} (hp:xs.length<=80) (hv:∀ y∈xs,gm y=true):(mN xs).length<=8000080:=by
 have:=Cg (f:=fun s:aa=>cd s++[10]) (B:=100001) (l:=xs) fun y hy=>by
  have:=wb (hv y hy)
  simp;omega
 have h2:xs.length*100001<=80*100001:=Nat.mul_le_mul_right _ hp
 unfold mN
 omega
theorem Ab {p:ak} (hp:p.fStatements.length<=80) (hv:∀ y∈p.fStatements,gm y=true):vk p=some (mN p.fStatements):=by
 rw [zM]
 have hl:=Aa hp hv
 have:=uq (xs:=p.fStatements) (by omega) (f:=fun s:aa=>cd s++[10]) (B:=8000080) (J:=fun i a=>hC a i p.fStatements) (by
  intro i y a hlt hy hi hw hb
  show hC a (i:Int) p.fStatements=_
  simp only [List.length_append,List.length_cons,List.length_nil] at hb
  rw [nA,if_pos (by simpa [aj] using hlt),hi]
  simp only [Option.bind_some]
  try simp only [aa.re_eq,ab.re_eq,az.re_eq]
  rw [sMk,me (hv y hy)]
  simp only [Option.bind_some]
  rw [av (by simp;omega)]
  simp only [Option.bind_some]
  rw [av (by simp;omega)]
  simp only [Option.bind_some,hw]) hl
 try simp only at this
 rw [this,nA,if_neg (by simp [aj])]
 rfl
theorem Ac {p:ak} (hv:∀ y∈p.fStatements,gm y=true) (xs:List aa) (hxs:xs=p.fStatements):
  ∀ (i:Nat) (y:aa) (a:List UInt8),i<xs.length->y∈xs->idx xs (i:Int)=some y->w64 ((i:Int)+1)=((i+1:Nat):Int)->a.length+(cd y++[10]).length<=8000080 ->
   (a8 xs (len xs) (i:Int) (a.map ib)=a8 xs (len xs) ((i+1:Nat):Int) ((a++(cd y++[10])).map ib))/\(eF xs (len xs) (i:Int) (a.map ib)=a8 xs (len xs) ((i+1:Nat):Int) ((a++(cd y++[10])).map ib)):=by
 intro i y a hlt hy hi hw hb
 subst hxs
 simp only [List.length_append,List.length_cons,List.length_nil] at hb
 have hc:decide ((i:Int)<len p.fStatements)=true:=by simpa [aj] using hlt
 constructor
 ·rw [dR,if_pos hc,hi]
  simp only [Option.bind_some]
  try simp only [aa.re_eq,ab.re_eq,az.re_eq]
  rw [sMk,fL (hv y hy)]
  simp only [Option.bind_some]
  rw [av (by simp;omega)]
  simp only [Option.bind_some]
  rw [av (by simp;omega)]
  simp only [Option.bind_some,hw,List.map_append]
 ·rw [iI,if_pos hc,hi]
  simp only [Option.bind_some]
  try simp only [aa.re_eq,ab.re_eq,az.re_eq]
  rw [sMk,fL (hv y hy)]
  simp only [Option.bind_some]
  rw [av (by simp;omega)]
  simp only [Option.bind_some]
  rw [av (by simp;omega)]
  simp only [Option.bind_some,hw,List.map_append]
theorem gT {p:ak} (hp:p.fStatements.length<=80) (hv:∀ y∈p.fStatements,gm y=true):ff p=some (mN p.fStatements):=by
 rw [rI]
 have hl:=Aa hp hv
 have st:=Ac hv p.fStatements rfl
 have key:=uq (xs:=p.fStatements) (by omega) (f:=fun s:aa=>cd s++[10]) (B:=8000080) (J:=fun i a=>a8 p.fStatements (len p.fStatements) i (a.map ib)) (fun i y a h1 h2 h3 h4 h5=>(st i y a h1 h2 h3 h4 h5).1) hl
 simp only [List.map_nil] at key
 have fin:a8 p.fStatements (len p.fStatements) (p.fStatements.length:Int) ((p.fStatements.flatMap fun s=>cd s++[10]).map ib)=some (mN p.fStatements):=by
  rw [dR,if_neg (by simp [aj]),CZ]
  rfl
 have same:eF p.fStatements (len p.fStatements) 0 []=a8 p.fStatements (len p.fStatements) 0 []:=by
  rw [iI,dR]
 rw [same,key,fin]
def PB (p:ak):Prop:=p.fStatements.length<=1048576/\∀ y∈p.fStatements,y.fSubject.m<=1048576/\y.fPattern.m<=1048576/\y.fReplace.m<=1048576
theorem PB.of {p:ak} (hm:p.m<=1048576):PB p:=by
 have hq:=p.m_eq
 exact ⟨by omega,fun y hy=>sM (by have:=jl (m:=aa.m) hy;omega)⟩
theorem ko {p:ak} (hb:PB p):fc p=some (iM p):=by
  have hq:=hb.1
  rw [rF]
  unfold iM
  by_cases hp:p.fStatements.length<=80
  · rw [if_neg (by simp [aj];omega)]
    have hkey:=zW (xs:=p.fStatements) (by omega) (c:=fun y i=>cw y&&z8 p.fStatements y i) (J:=fun i=>dy i p.fStatements) (by
      intro i y hlt hy hi hw
      show dy (i:Int) p.fStatements=_
      obtain ⟨h1,h2,h3⟩:=hb.2 y hy
      rw [iF,if_pos (by simpa [aj] using hlt),hi]
      simp only [Option.bind_some,oD,oE,hw]
      try simp only [aa.re_eq,ab.re_eq,az.re_eq]
      rw [sMk,fM h1 h2 h3]
      simp only [Option.bind_some,my]
      cases hsv:cw y
      · simp
      · unfold z8
        cases hlab:(y.fLabel==[])
        · rw [qN (p:=ak.mk p.fStatements) hp hlab]
          cases FA y.fLabel<;>by_cases hix:ixP p.fStatements y.fLabel=(i:Int)<;>simp [hix]
        · have:y.fLabel=[]:=by simpa using hlab
          have hr:FA y.fLabel=false:=by rw [this];rfl
          simp [hr])
    try simp only at hkey
    rw [hkey,Ca]
    show (if Hg p.fStatements=true then _ else _)=_
    cases hc:Hg p.fStatements
    · simp
    · have hv:∀ y∈p.fStatements,gm y=true:=fun y hy=>by
        unfold Hg at hc
        rw [Bool.and_eq_true] at hc
        exact jE (List.all_eq_true.mp hc.1 y hy)
      have ht:=Ab (p:=ak.mk p.fStatements) hp hv
      simp only [if_true]
      rw [iF,if_neg (by simp [aj]),ht]
      simp [aj,hp]
      try omega
  · rw [if_pos (by simp [aj];omega)]
    simp [hp]
theorem sD {p:ak} (hm:p.m<=1048576):fc p=some (iM p):=ko (PB.of hm)
theorem qO {p:ak} (hb:PB p):kw p=some (iM p):=by
 have hq:=hb.1
 rw [rH]
 unfold iM
 by_cases hp:p.fStatements.length<=80
 ·rw [if_neg (by simp [aj];omega)]
  have hall:bn p.fStatements=some (p.fStatements.all cw):=by
   rw [dI]
   refine qo (xs:=p.fStatements) (by omega) (F:=dV) (p:=cw) (J:=aS p.fStatements (len p.fStatements)) (fun i=>by rw [dp];try simp only [aa.re_eq,ab.re_eq,az.re_eq,sMk]) (fun y hy=>?_)
   obtain ⟨h1,h2,h3⟩:=hb.2 y hy
   exact jD h1 h2 h3
  rw [hall]
  simp only [Option.bind_some]
  unfold Hg
  cases hv:p.fStatements.all cw
  ·simp
  have hkey:=zW (xs:=p.fStatements) (by omega) (c:=z8 p.fStatements) (J:=fun i=>dz p.fStatements (len p.fStatements) i p.fStatements) (by
   intro i y hlt hy hi hw
   show dz p.fStatements (len p.fStatements) (i:Int) p.fStatements=_
   rw [iH,if_pos (by simpa [aj] using hlt),hi]
   simp only [Option.bind_some,oF,oG,hw,nV]
   unfold z8
   cases hlab:(y.fLabel==[])
   ·rw [nW (p:=ak.mk p.fStatements) hp]
    cases FA y.fLabel<;>by_cases hix:ixP p.fStatements y.fLabel=(i:Int)<;>simp [hix]
   ·simp)
  try simp only at hkey
  simp only [Bool.not_true,Bool.false_eq_true,if_false,Bool.true_and]
  rw [hkey]
  cases hc:yw (z8 p.fStatements) p.fStatements 0
  ·simp
  ·have hvf:∀ y∈p.fStatements,gm y=true:=fun y hy=>jE (List.all_eq_true.mp hv y hy)
   have ht:=gT (p:=ak.mk p.fStatements) hp hvf
   simp only [if_true]
   rw [iH,if_neg (by simp [aj]),ht]
   simp [aj,hp]
   try omega
 ·rw [if_pos (by simp [aj];omega)]
  simp [hp]
theorem Ad {p:ak} (h:iM p=true):p.fStatements.length<=80/\∀ y∈p.fStatements,gm y=true:=by
 unfold iM Hg at h
 simp only [Bool.and_eq_true,decide_eq_true_eq] at h
 exact ⟨h.1.1,fun y hy=>jE (List.all_eq_true.mp h.1.2.1 y hy)⟩
theorem kp {p:ak} (hb:PB p):fb p=some (if iM p=true then mN p.fStatements else []):=by
 rw [rE,qO hb]
 simp only [Option.bind_some]
 cases h:iM p
 ·simp
 ·obtain ⟨h1,h2⟩:=Ad h
  rw [gT h1 h2];simp
theorem sE {p:ak} (hm:p.m<=1048576):fb p=some (if iM p=true then mN p.fStatements else []):=kp (PB.of hm)
end Go.Dv.U

namespace Go.Dv
open Go
def spl (c:UInt8):List UInt8->List (List UInt8)
 | []=>[[]]
 | b:: l=>if b==c then []:: spl c l else match spl c l with
  | []=>[[b]]
  | x:: r=>(b:: x):: r
theorem Hh (c:UInt8):∀ s,spl c s≠[]
 | []=>by simp [spl]
 | b:: l=>by
  simp only [spl]
  split
  ·simp
  ·split<;>simp
theorem Ae (c:UInt8):∀ s:List UInt8,Lib.splitK [c] 0 (s.count c) s=spl c s
 | []=>by simp [Lib.splitK,spl]
 | b :: l=>by
  have ih:=Ae c l
  by_cases h:b=c
  ·subst h
   have hix:Lib.index (b:: l) [b]=0:=by rw [Lib.index];simp [List.isPrefixOf]
   rw [List.count_cons_self,Lib.splitK,hix]
   simp [spl,ih]
  ·have hp:([c]:List UInt8).isPrefixOf (b:: l)=false:=by simp [List.isPrefixOf,Ne.symm h]
   have hix:Lib.index (b:: l) [c]=if Lib.index l [c] == -1 then -1 else Lib.index l [c]+1:=by rw [Lib.index,hp];simp
   rw [List.count_cons_of_ne (by simpa using h)]
   simp only [spl,beq_iff_eq,h,if_false]
   rw [<-ih]
   cases hk:l.count c with
   | zero=>simp [Lib.splitK]
   | succ k=>
    have hm:¬ Lib.index l [c] = -1:=by
     intro e
     have:=Lib.count_miss e
     rw [Lib.count_one,hk] at this
     omega
    have hge:=Lib.index_ge l [c]
    obtain ⟨j,hj⟩:∃ j:Nat,Lib.index l [c]=j:=⟨(Lib.index l [c]).toNat,by omega⟩
    have e1:(Lib.index l [c] == -1)=false:=by simpa using hm
    have e2:(Lib.index (b:: l) [c] == -1)=false:=by rw [hix,e1];simp;omega
    have e3:Lib.index (b:: l) [c]=((j+1:Nat):Int):=by rw [hix,e1,hj];simp
    have e4:((j:Int) == -1)=false:=by simp
    have e5:(((j+1:Nat):Int) == -1)=false:=by simp;omega
    simp only [Lib.splitK,e3,hj,e4,e5,Bool.false_eq_true,if_false,Int.toNat_natCast]
    simp
theorem ET {s:List UInt8} (h:s.length<4294967281) (c:UInt8):zx s [c]=some (spl c s):=by
 unfold zx
 rw [if_pos ⟨h,by simp⟩,Lib.split,Lib.count_one,Ae]
end Go.Dv
namespace Go.Dv.U
open Go Go.Dv Go.Proofs
def mz (s:List UInt8):List UInt8:=if s.drop (s.length-1)=[10] then s.take (s.length-1) else s
theorem wc {s:List UInt8} (h:s.length<4294967281):g8 s=some (if s==[] then [] else spl 10 (mz s)):=by
 rw [vF]
 by_cases hn:s=[]
 ·subst hn;rfl
 ·have hl:1<=s.length:=by cases s with | nil=>exact absurd rfl hn | cons _ _=>simp
  have e:w64 (len s-len ([10]:List UInt8))=((s.length-1:Nat):Int):=by
   rw [aR]<;>simp only [aj,List.length_singleton]<;>omega
  have et:ga s [10]=some (mz s):=by
   rw [nC,fT,gi]
   have g1:decide (len s>=len ([10]:List UInt8))=true:=by simp only [aj,List.length_singleton,decide_eq_true_eq];omega
   simp only [g1,if_true,e,Option.getD_none,Option.getD_some]
   rw [show len s=((s.length:Nat):Int) from aj s,kU (by omega) (by omega)]
   simp only [Option.bind_some,List.take_length]
   unfold mz
   by_cases c:s.drop (s.length-1)=[10]
   ·simp only [c,beq_self_eq_true,if_true]
    have:=kU (xs:=s) (a:=0) (b:=s.length-1) (by omega) (by omega)
    simp only [Int.natCast_zero] at this
    rw [this]
    simp
   ·have c':(s.drop (s.length-1)==[10])=false:=by simpa using c
    simp only [c',Bool.false_eq_true,if_false,c,Option.bind_some]
  have hs:(s==[])=false:=by simpa using hn
  simp only [hs,Bool.false_eq_true,if_false,et,Option.bind_some]
  rw [ET]
  ·rfl
  ·unfold mz;split
   ·simp only [List.length_take];omega
   ·exact h
end Go.Dv.U

namespace Go.Dv
open Go
def Im (cur:List UInt8):List (List UInt8)->List (List UInt8)
 | []=>[cur]
 | x:: r=>(cur++x):: r
theorem qP (c b:UInt8) (l:List UInt8):spl c (b:: l)=if b=c then []:: spl c l else Im [b] (spl c l):=by
 simp only [spl,beq_iff_eq]
 split
 ·rfl
 ·cases spl c l<;>rfl
theorem Ci (c:UInt8):∀ s:List UInt8,(∀ b∈s,b≠c)->spl c s=[s]
 | [],_=>rfl
 | b:: s,h=>by
  rw [qP,if_neg (h b (by simp)),Ci c s fun x hx=>h x (by simp [hx])]
  rfl
theorem EU (c:UInt8):∀ (p r:List UInt8),(∀ b∈p,b≠c)->spl c (p++c:: r)=p:: spl c r
 | [],r,_=>by rw [List.nil_append,qP,if_pos rfl]
 | b:: p,r,h=>by
  rw [List.cons_append,qP,if_neg (h b (by simp)),EU c p r fun x hx=>h x (by simp [hx])]
  rfl
theorem yJ (c:UInt8):∀ (s:List UInt8),∀ p∈spl c s,∀ b∈p,b≠c/\b∈s
 | [],p,hp,b,hb=>by simp [spl] at hp;subst hp;cases hb
 | a :: s,p,hp,b,hb=>by
  rw [qP] at hp
  split at hp
  ·rcases List.mem_cons.1 hp with e | e
   ·subst e;cases hb
   ·have:=yJ c s p e b hb;exact ⟨this.1,by simp [this.2]⟩
  ·rename_i hne
   cases hs:spl c s with
   | nil=>exact absurd hs (Hh c s)
   | cons x r=>
    rw [hs] at hp
    simp only [Im,List.mem_cons] at hp
    rcases hp with e | e
    ·subst e
     rcases List.mem_append.1 hb with h | h
     ·have:b=a:=by simpa using h
      subst this;exact ⟨hne,by simp⟩
     ·have:=yJ c s x (by rw [hs];simp) b h;exact ⟨this.1,by simp [this.2]⟩
    ·have:=yJ c s p (by rw [hs];simp [e]) b hb;exact ⟨this.1,by simp [this.2]⟩
theorem uv (c:UInt8):∀ s:List UInt8,∀ p∈spl c s,p.length<=s.length
 | [],p,hp=>by simp [spl] at hp;subst hp;simp
 | b:: s,p,hp=>by
  rw [qP] at hp
  split at hp
  ·rcases List.mem_cons.1 hp with e | e
   ·subst e;simp
   ·have:=uv c s p e;simp;omega
  ·cases hs:spl c s with
   | nil=>exact absurd hs (Hh c s)
   | cons x r=>
    rw [hs] at hp
    simp only [Im,List.mem_cons] at hp
    rcases hp with e | e
    ·subst e;have:=uv c s x (by rw [hs];simp);simp;omega
    ·have:=uv c s p (by rw [hs];simp [e]);simp;omega
end Go.Dv
namespace Go.Dv.U
open Go Go.Dv Go.Proofs
def Gz (s:List UInt8):List UInt8:=s.filter fun b=>!(b==10)
theorem wd : ∀ s:List UInt8,hasB 10 s=false->Gz s=s:=by
 intro s h
 unfold Gz
 rw [List.filter_eq_self]
 intro b hb
 have:ib b≠10:=fun e=>by
  have:hasB 10 s=true:=List.any_eq_true.2 ⟨b,hb,by simpa using e⟩
  rw [h] at this;cases this
 simp only [Bool.not_eq_true',beq_eq_false_iff_ne,ne_eq]
 intro e;subst e;exact this (by decide)
theorem Bg : ∀ (s:List UInt8),hasB 10 s=true->∃ a r,s=a++10:: r/\hasB 10 a=false
  | [],h=>by simp [hasB] at h
  | b :: s,h=>by
    by_cases hb:ib b=10
    · have:b=10:=vd.1 (hb.trans (by decide))
      subst this
      exact ⟨[],s,rfl,rfl⟩
    · have h2:hasB 10 s=true:=by
        simp only [hasB,List.any_cons,Bool.or_eq_true] at h
        rcases h with h | h
        · exact absurd (by simpa using h) hb
        · exact h
      obtain ⟨a,r,e,h3⟩:=Bg s h2
      refine ⟨b:: a,r,by rw [e];rfl,?_⟩
      simp only [hasB,List.any_cons,Bool.or_eq_false_iff]
      exact ⟨by simpa using hb,h3⟩
theorem Af {s:List UInt8} (h:hasB 10 s=false):Lib.index s [10] = -1:=by
 have h1:=vY 10 s
 have e:ib 10=10:=by decide
 rw [e,h] at h1
 have:=Lib.index_ge s [10]
 simp only [decide_eq_false_iff_not] at h1
 omega
theorem tc {a r:List UInt8} (h:hasB 10 a=false):Lib.index (a++10:: r) [10]=(a.length:Int):=by
 refine Lib.index_first (by simp) ?_ ?_
 ·simp [Lib.occAt]
 ·intro j hj
  simp only [Lib.occAt]
  rw [List.drop_append_of_le_length (by omega),List.drop_eq_getElem_cons hj]
  simp only [List.cons_append,List.isPrefixOf,Bool.and_true]
  rw [beq_eq_false_iff_ne]
  intro e
  have:hasB 10 a=true:=by
   simp only [hasB,List.any_eq_true]
   exact ⟨a[j],List.getElem_mem hj,by rw [<-e];decide⟩
  rw [h] at this;cases this
theorem xv : ∀ (k:Nat) (s:List UInt8),Lib.count s [10]<=k->Lib.replaceK [10] [] k s=Gz s
 | 0,s,h=>by
  cases hb:hasB 10 s with
  | false=>rw [wd s hb];rfl
  | true=>
   obtain ⟨a,r,rfl,h3⟩:=Bg s hb
   have:=Lib.count_hit (sub:=[10]) (by simp) (tc (r:=r) h3)
   omega
 | k+1,s,h=>by
  cases hb:hasB 10 s with
  | false=>rw [wd s hb,Lib.replaceK,Af hb];rfl
  | true=>
   obtain ⟨a,r,rfl,h3⟩:=Bg s hb
   have hi:=tc (r:=r) h3
   have hc:=Lib.count_hit (sub:=[10]) (by simp) hi
   rw [Lib.replaceK_hit _ _ _ _ _ hi]
   have e1:(a++10:: r).take a.length=a:=by simp
   have e2:(a++10:: r).drop (a.length+([10]:List UInt8).length)=r:=by simp [List.drop_append]
   rw [e2] at hc
   rw [e1,e2,xv k r (by omega)]
   have e3:Gz a=a:=wd a h3
   unfold Gz at e3 ⊢
   rw [List.filter_append,e3]
   simp
theorem Ag (s:List UInt8):Lib.replaceAll s [10] []=Gz s:=by
 unfold Lib.replaceAll Lib.replace
 rw [if_neg (by decide)]
 exact xv _ s (by unfold Lib.replaceNum;rw [if_pos (by left;decide)];exact Nat.le_refl _)
def cA (s:List UInt8):List (List UInt8):=if s=[] then [] else spl 10 (mz s)
theorem xw {s:List UInt8} (h:s.length<4294967281):g8 s=some (cA s):=by
 rw [wc h]
 congr 1
 unfold cA
 by_cases e:s=[]<;>simp [e]
theorem Bh (s:List UInt8):mz (s++[10])=s:=by
 unfold mz
 have e:(s++[10]).length-1=s.length:=by simp
 rw [e]
 simp
theorem Ah (s:List UInt8):cA (s++[10])=spl 10 s:=by
 unfold cA
 rw [if_neg (by simp),Bh]
def GA (s:List UInt8):Bool:=decide (s.length<=4000)&&s.all (Fz true)&&decide ((cA s).length<=120)
theorem ua {s:List UInt8} (h:s.length<=1000000):lI s=some (GA s):=by
  rw [tE]
  unfold GA
  by_cases c1:s.length<=4000
  · have e1:decide (len s<=4000)=true:=by simp [aj];omega
    have e2:dJ (Gz s)=s.all (Fz true):=by
      unfold dJ Gz
      rw [List.all_filter]
      congr 1
      funext b
      simp only [Fz,Bool.true_and,Bool.not_not]
      by_cases hb:b=10
      · subst hb;decide
      · have q:(ib b==(10:Int))=false:=by
          rw [beq_eq_false_iff_ne];intro e;exact hb (vd.1 (e.trans (by decide)))
        have q2:(b==10)=false:=by simpa using hb
        simp [q,q2]
    have hn:(Gz s).length<=s.length:=List.length_filter_le _ _
    simp only [e1,if_true]
    unfold um
    rw [if_pos ⟨by omega,by decide,by decide⟩,Ag]
    simp only [Option.bind_some]
    rw [fC (by omega),e2]
    simp only [Option.bind_some]
    rw [xw (by omega)]
    simp only [Option.bind_some,aj,c1,decide_true,Bool.true_and]
    cases s.all (Fz true)<;>simp
    constructor<;>(intro;omega)
  · have e1:decide (len s<=4000)=false:=by simp [aj];omega
    simp [e1,c1]
def dq (s:List UInt8):Bool:=s.all fun b=>b==32
def Io (s:List UInt8):Bool:=match s with | []=>false | b:: _=>b==42
def Hi (s:List UInt8):Bool:=match s with | []=>false | b:: _=>b==43
theorem jd {α:Type} (p:α->Bool):∀ l:List α,l.dropWhile p=[]↔l.all p=true
 | []=>by simp
 | x:: l=>by
  rw [List.dropWhile_cons]
  cases h:p x<;>simp [h,jd p l]
theorem pa {α:Type} (p:α->Bool):∀ (l:List α) {x:α} {r:List α},l.dropWhile p=x:: r->p x=false
 | [],x,r,h=>by simp at h
 | y:: l,x,r,h=>by
  rw [List.dropWhile_cons] at h
  cases hy:p y with
  | true=>rw [hy] at h;exact pa p l (by simpa using h)
  | false=>rw [hy] at h;simp at h;rw [<-h.1];exact hy
theorem C5 (s:List UInt8):(Lib.trimB s 32==[])=dq s:=by
 unfold Lib.trimB Lib.trimLeftB Lib.trimRightB dq
 rw [Bool.eq_iff_iff,beq_iff_eq,jd]
 constructor
 ·intro h
  cases hd:s.reverse.dropWhile (·==(32:UInt8)) with
  | nil=>
   have:=(jd _ _).1 hd
   rwa [List.all_reverse] at this
  | cons x r=>
   have h1:=pa _ _ hd
   rw [hd] at h
   have:=List.all_eq_true.1 h x (by simp)
   rw [h1] at this;cases this
 ·intro h
  have:s.reverse.dropWhile (·==(32:UInt8))=[]:=(jd _ _).2 (by rw [List.all_reverse];exact h)
  rw [this];rfl
theorem mA {s:List UInt8} (h:s.length<=1000000):iX s=some (dq s):=by
 rw [tO]
 unfold Gp
 simp only
 rw [if_pos ⟨by decide,by omega⟩]
 simp only [Option.bind_some,C5]
theorem ub {s:List UInt8} (h:s.length<=1000000):lR s=some (dq s):=by
  rw [tT]
  refine bL (xs:=s) (by omega) (P:=fun i l=>fy s i=some (dq l)) ?_ ?_
  · rw [jA];simp [aj,dq]
  · intro i y l _ hlt hy hi hw ih
    rw [jA,hi,if_pos (by simp [aj,hlt])]
    simp only [Option.bind_some,hw,ih]
    by_cases hb:y=32
    · subst hb
      have:(ib 32 !=(32:Int))=false:=by decide
      simp [this,dq]
    · have:(ib y !=(32:Int))=true:=by
        rw [bne_iff_ne];intro e;exact hb (vd.1 (e.trans (by decide)))
      simp [this,dq,hb]
theorem mf (s:List UInt8) (c:UInt8):cM s [c]=some (match s with | []=>false | b:: _=>b==c):=by
 rw [oC,dm]
 cases s with
 | nil=>rfl
 | cons b r=>
  have e:decide (len (b:: r)>=len [c])=true:=by simp [aj];omega
  have:=kU (xs:=b:: r) (a:=0) (b:=1) (by omega) (by simp)
  simp only [Int.natCast_zero,Int.natCast_one] at this
  rw [if_pos e]
  simp only [Option.getD_some,show len [c]=(1:Int) from rfl,this,Option.bind_some]
  congr 1
  simp
theorem wV (s:List UInt8):pq s=some (Io s):=by
 rw [wK,mf];rfl
theorem pY (s:List UInt8):iv s=some (Hi s):=by
 rw [pN,mf];rfl
end Go.Dv.U

namespace Go.Dv.U
open Go Go.Dv Go.Proofs
def Jq (a:List aP) (t:List UInt8):List aP:=match a[a.length-1]? with
 | some y=>a.set (a.length-1) ⟨y.fNumber,y.fText++([32]++t.drop 1)⟩
 | none=>a
def cmb : List (List UInt8)->Nat->List aP->List aP×Int
 | [],_,a=>(a,0)
 | t:: r,i,a=>if (dq t||Io t)=true then cmb r (i+1) a
  else if Hi t=true then (if a=[] then ([],((i+1:Nat):Int)) else cmb r (i+1) (Jq a t))
  else cmb r (i+1) (a++[⟨((i+1:Nat):Int),t⟩])
def BdL (i:Nat) (a:List aP):Prop:=a.length<=i/\∀ y∈a,y.fText.length<=5000*(i+1)
theorem BdL.mono {i:Nat} {a:List aP} (h:BdL i a):BdL (i+1) a:=⟨by have:=h.1;omega,fun y hy=>by have:=h.2 y hy;omega⟩
theorem BdL.app {i:Nat} {a:List aP} (h:BdL i a) {n:Int} {t:List UInt8} (ht:t.length<=4000):BdL (i+1) (a++[⟨n,t⟩]):=by
 refine ⟨by have:=h.1;simp;omega,fun y hy=>?_⟩
 rcases List.mem_append.1 hy with e | e
 ·have:=h.2 y e;omega
 ·have:y=⟨n,t⟩:=by simpa using e
  subst this;simp;omega
theorem BdL.ext {i:Nat} {a:List aP} (h:BdL i a) {t:List UInt8} (ht:t.length<=4000):BdL (i+1) (Jq a t):=by
 unfold Jq
 cases hq:a[a.length-1]? with
 | none=>exact h.mono
 | some y=>
  have hy:=h.2 y (List.mem_of_getElem? hq)
  refine ⟨by have:=h.1;simp;omega,fun z hz=>?_⟩
  rcases List.mem_or_eq_of_mem_set hz with e | e
  ·have:=h.2 z e;omega
  ·subst e;simp;omega
theorem Hj : ∀ (l:List (List UInt8)) (i:Nat) (a:List aP),(∀ t∈l,t.length<=4000)->BdL i a->BdL (i+l.length) (cmb l i a).1
 | [],i,a,_,h=>h
 | t:: r,i,a,ht,h=>by
  have hr:=Hj r (i+1)
  have e:i+(t:: r).length=i+1+r.length:=by simp;omega
  rw [e]
  have ht0:=ht t (by simp)
  have htr:∀ t∈r,t.length<=4000:=fun x hx=>ht x (by simp [hx])
  simp only [cmb]
  split
  ·exact hr a htr h.mono
  ·split
   ·split
    ·exact ⟨by simp,fun y hy=>by cases hy⟩
    ·exact hr _ htr (h.ext ht0)
   ·exact hr _ htr (h.app ht0)
theorem GB {a:List aP} {t:List UInt8} {i:Nat} (hi:i<=1000) (h:BdL i a) (ha:a≠[]) (ht:t.length<=4000) (h1:1<=t.length) {β:Type} (k:List aP->Option β):
  ((idx a (w64 (len a-1))).bind fun _=>(a[Int.toNat (w64 (len a-1))]?).bind fun y190=>(cut t 1 (len t)).bind fun y189=>(app [32] y189).bind fun y188=>(app y190.fText y188).bind fun y187=>(idx a (w64 (len a-1))).bind fun _=>(a[Int.toNat (w64 (len a-1))]?).bind fun y185=>k (upd a (Int.toNat (w64 (len a-1))) (aP.mk y185.fNumber y187)))=k (Jq a t):=by
 have hl:1<=a.length:=by cases a with | nil=>exact absurd rfl ha | cons=>simp
 have hla:=h.1
 have e1:w64 (len a-1)=((a.length-1:Nat):Int):=by rw [aj,aR (by omega) (by omega)];omega
 have hlt:a.length-1<a.length:=by omega
 have e2:=kU (xs:=t) (a:=1) (b:=t.length) h1 (Nat.le_refl _)
 rw [List.take_length] at e2
 simp only [Int.natCast_one] at e2
 have hy:=h.2 _ (List.getElem_mem hlt)
 rw [e1]
 simp only [cp,Int.toNat_natCast,List.getElem?_eq_getElem hlt,Option.bind_some,show len t=((t.length:Nat):Int) from aj t,e2]
 rw [av (by simp;omega)]
 simp only [Option.bind_some]
 rw [av (by simp;omega)]
 simp only [Option.bind_some,B7,Jq,List.getElem?_eq_getElem hlt]
theorem Ip {t:List UInt8} (h:Hi t=true):1<=t.length:=by cases t with | nil=>cases h | cons=>simp
theorem Ai {s:List UInt8} (hs:s.length<=4000) (hc:(cA s).length<=200) (ht:∀ t∈cA s,t.length<=4000):vm s=some (cmb (cA s) 0 []):=by
  rw [zN,xw (by omega)]
  simp only [Option.bind_some]
  generalize cA s=ls at hc ht
  refine bL (xs:=ls) (by omega) (P:=fun i l=>(∀ t∈l,t.length<=4000)->i<=ls.length->∀ a,BdL i a->hH ls (len ls) (i:Int) a=some (cmb l i a)) ?_ ?_ ht (by omega) [] ⟨by simp,fun y hy=>by cases hy⟩
  · intro _ _ a _
    rw [nB]
    simp [aj,cmb]
  · intro i t l _ hlt hy hi hw ih htl hle a hb
    have ht0:=htl t (by simp)
    have ih:=ih (fun x hx=>htl x (by simp [hx])) (by omega)
    rw [nB]
    have hc:decide ((i:Int)<len ls)=true:=by simp [aj,hlt]
    rw [if_pos hc,hi]
    simp only [Option.bind_some,mA (s:=t) (by omega),wV,pY,tP,hw,Option.getD_none,cmb]
    cases h1:dq t with
    | true=>simp only [if_true,Bool.true_or];exact ih a hb.mono
    | false =>
      simp only [Bool.false_eq_true,if_false,Bool.false_or]
      cases h2:Io t with
      | true=>simp only [if_true];exact ih a hb.mono
      | false =>
        simp only [Bool.false_eq_true,if_false]
        cases h3:Hi t with
        | false=>
          simp only [Bool.not_false,if_true,Bool.false_eq_true,if_false]
          rw [av (by have:=hb.1;simp;omega)]
          simp only [Option.bind_some]
          exact ih _ (hb.app ht0)
        | true=>
          simp only [Bool.not_true,Bool.false_eq_true,if_false,if_true]
          by_cases ha:a=[]
          · subst ha
            simp [aj]
          · have e:(len a==0)=false:=by
              rw [beq_eq_false_iff_ne,aj];intro e
              exact ha (List.eq_nil_of_length_eq_zero (by omega))
            simp only [e,Bool.false_eq_true,if_false,ha]
            rw [GB (i:=i) (by omega) hb ha ht0 (Ip h3) (fun u=>hH ls (len ls) ((i+1:Nat):Int) u)]
            exact ih _ (hb.ext ht0)
def sst : Int->List UInt8->List UInt8->List (List UInt8)
 | _,cur,[]=>[cur]
 | q,cur,b:: r=>if q≠0 then sst (if ib b=q then 0 else q) (cur++[b]) r
  else if ib b=39 then sst 39 (cur++[b]) r else if ib b=34 then sst 34 (cur++[b]) r
  else if ib b=59 then cur:: sst 0 [] r else sst 0 (cur++[b]) r
theorem yK : ∀ (l:List UInt8) (q:Int) (cur:List UInt8),(sst q cur l).length<=l.length+1
 | [],q,cur=>by simp [sst]
 | b :: r,q,cur=>by
  have h:=yK r
  simp only [sst,List.length_cons]
  split
  ·have:=h (if ib b=q then 0 else q) (cur++[b]);omega
  ·split
   ·have:=h 39 (cur++[b]);omega
   ·split
    ·have:=h 34 (cur++[b]);omega
    ·split
     ·have:=h 0 [];simp;omega
     ·have:=h 0 (cur++[b]);omega
theorem xx {s:List UInt8} (hs:s.length<=1000000):gK s=some (sst 0 [] s)/\gN s=some (sst 0 [] s):=by
  rw [oH,oP]
  have key:=bL (xs:=s) (by omega) (P:=fun i l=>s.drop i=l->i<=s.length->∀ (q:Int) (f:Nat) (o:List (List UInt8)),f<=i->o.length<=i ->
      cD s (f:Int) q (len s) (i:Int) o=some (o++sst q ((s.take i).drop f) l)/\cE s (f:Int) q (i:Int) o=some (o++sst q ((s.take i).drop f) l)) (by
    intro _ _ q f o hf ho
    rw [gh,gj]
    have hc:decide ((s.length:Int)<len s)=false:=by simp [aj]
    simp only [hc,Bool.false_eq_true,if_false,Option.getD_none]
    rw [show len s=((s.length:Nat):Int) from aj s,kU (by omega) (by omega)]
    simp only [Option.bind_some]
    rw [av (by simp;omega)]
    exact ⟨rfl,rfl⟩) (by
    intro i y l hd hlt hy hi hw ih _ hle q f o hf ho
    have hd2:s.drop (i+1)=l:=by
      have:=List.drop_eq_getElem_cons hlt
      rw [hd] at this
      exact (List.cons.inj this).2.symm
    have hy2:s[i]=y:=by
      have:=List.drop_eq_getElem_cons hlt
      rw [hd] at this
      exact (List.cons.inj this).1.symm
    have ih:=ih hd2 (by omega)
    have e2:(s.take (i+1)).drop f=(s.take i).drop f++[y]:=by
      rw [List.take_succ_eq_append_getElem hlt,hy2,List.drop_append_of_le_length (by simp;omega)]
    have go:∀ q',cD s (f:Int) q' (len s) ((i+1:Nat):Int) o=some (o++sst q' ((s.take i).drop f++[y]) l)/\cE s (f:Int) q' ((i+1:Nat):Int) o=some (o++sst q' ((s.take i).drop f++[y]) l):=fun q'=>by
      rw [<-e2];exact ih q' f o (by omega) (by omega)
    rw [gh,gj]
    have hc:decide ((i:Int)<len s)=true:=by simp [aj,hlt]
    simp only [hc,if_true,hi,Option.bind_some,lj,l8,hw,Option.getD_some,sst]
    by_cases hq:q=0
    · subst hq
      simp only [bne_self_eq_false,Bool.false_eq_true,if_false,ne_eq,not_true_eq_false]
      by_cases h1:ib y=39
      · simp only [h1,beq_self_eq_true,if_true];exact go 39
      · have h1':(ib y==(39:Int))=false:=by simpa using h1
        simp only [h1',h1,Bool.false_eq_true,if_false]
        by_cases h2:ib y=34
        · simp only [h2,beq_self_eq_true,if_true];exact go 34
        · have h2':(ib y==(34:Int))=false:=by simpa using h2
          simp only [h2',h2,Bool.false_eq_true,if_false]
          by_cases h3:ib y=59
          · simp only [h3,beq_self_eq_true,if_true]
            rw [kU (by omega) (by omega)]
            simp only [Option.bind_some]
            rw [av (by simp;omega)]
            simp only [Option.bind_some]
            have:=ih 0 (i+1) (o++[(s.take i).drop f]) (Nat.le_refl _) (by simp;omega)
            have e3:(s.take (i+1)).drop (i+1)=[]:=by simp
            rw [e3] at this
            rw [this.1,this.2]
            simp
          · have h3':(ib y==(59:Int))=false:=by simpa using h3
            simp only [h3',h3,Bool.false_eq_true,if_false]
            exact go 0
    · have hq':(q !=0)=true:=by simpa using hq
      simp only [hq',if_true,ne_eq,hq,not_false_eq_true]
      by_cases h1:ib y=q
      · simp only [h1,beq_self_eq_true,if_true];exact go 0
      · have:(ib y==q)=false:=by simpa using h1
        simp only [this,h1,Bool.false_eq_true,if_false];exact go q) (by simp) (by omega) 0 0 [] (by omega) (by simp)
  simpa using key
def lgF (y:aP):List aP:=(sst 0 [] y.fText).flatMap fun p=>if dq p=true then [] else [⟨y.fNumber,p⟩]
theorem yL {α β:Type} {f:α->List β} {B:Nat}:∀ {l:List α},(∀ y∈l,(f y).length<=B)->(l.flatMap f).length<=l.length*B
 | [],_=>by simp
 | y:: l,h=>by
  have h1:=h y (by simp)
  have h2:=yL (l:=l) fun z hz=>h z (by simp [hz])
  rw [List.flatMap_cons,List.length_append,List.length_cons,Nat.succ_mul];omega
theorem EV (y:aP):(lgF y).length<=y.fText.length+1:=by
 have h1:=yL (f:=fun p=>if dq p=true then ([]:List aP) else [⟨y.fNumber,p⟩]) (B:=1) (l:=sst 0 [] y.fText) (fun p _=>by split<;>simp)
 have h2:=yK y.fText 0 []
 unfold lgF;omega
theorem Iq {c:List aP} (hb:BdL 150 c) (hp:∀ y∈c,∀ p∈sst 0 [] y.fText,p.length<=1000000):bH c (len c) 0 []=some (c.flatMap lgF,0,0)/\bO 0 c []=some (c.flatMap lgF,0,0):=by
  have hlen:=yL (f:=lgF) (B:=755001) (l:=c) (fun y hy=>by have:=EV y;have:=hb.2 y hy;omega)
  have hcl:=hb.1
  have hB:(c.flatMap lgF).length<=68719476736:=by
    refine Nat.le_trans hlen ?_
    have:c.length*755001<=150*755001:=Nat.mul_le_mul_right _ hcl
    omega
  constructor
  · have:=uq (xs:=c) (by omega) (f:=lgF) (J:=fun i a=>bH c (len c) i a) (B:=68719476736) (by
      intro i y a hlt hy hi hw hbd
      show bH _ _ _ _=bH _ _ _ _
      rw [iJ]
      have hc:decide ((i:Int)<len c)=true:=by simp [aj,hlt]
      have hty:=hb.2 y hy
      rw [if_pos hc,hi]
      simp only [Option.bind_some,(xx (s:=y.fText) (by omega)).1]
      have hpp:=hp y hy
      have hsl:=yK y.fText 0 []
      have e:lgF y=(sst 0 [] y.fText).flatMap fun p=>if dq p=true then [] else [⟨y.fNumber,p⟩]:=rfl
      rw [e] at hbd ⊢
      generalize sst 0 [] y.fText=ps at hpp hsl hbd
      refine bL (xs:=ps) (by omega) (P:=fun j l=>(∀ p∈l,p.length<=1000000)->∀ a:List aP,a.length+(l.flatMap fun p=>if dq p=true then ([]:List aP) else [⟨y.fNumber,p⟩]).length<=68719476736->dj c (len c) (i:Int) ps (len ps) (j:Int) a y.fNumber y.fText=bH c (len c) ((i+1:Nat):Int) (a++l.flatMap fun p=>if dq p=true then [] else [⟨y.fNumber,p⟩])) ?_ ?_ hpp a hbd
      · intro _ a _
        rw [ik]
        simp [aj,hw]
      · intro j p l _ hlt2 hy2 hi2 hw2 ih hl a ha
        rw [ik]
        have hc2:decide ((j:Int)<len ps)=true:=by simp [aj,hlt2]
        rw [if_pos hc2,hi2]
        have hp0:=hl p (by simp)
        rw [List.flatMap_cons] at ha ⊢
        simp only [Option.bind_some,mA hp0,hw2]
        cases hbp:dq p with
        | true=>
          simp only [hbp,if_true,List.nil_append] at ha
          simp only [Bool.not_true,Bool.false_eq_true,if_false,if_true,List.nil_append]
          exact ih (fun x hx=>hl x (by simp [hx])) a ha
        | false=>
          simp only [hbp,Bool.false_eq_true,if_false,List.length_append,List.length_singleton] at ha
          simp only [Bool.not_false,if_true,Bool.false_eq_true,if_false]
          rw [av (by simp;omega)]
          simp only [Option.bind_some]
          rw [ih (fun x hx=>hl x (by simp [hx])) _ (by simp only [List.length_append,List.length_singleton];omega)]
          simp) hB
    rw [show bH c (len c) 0 []=_ from this,iJ]
    simp [aj]
  · have:=uq (xs:=c) (by omega) (f:=lgF) (J:=fun i a=>bO i c a) (B:=68719476736) (by
      intro i y a hlt hy hi hw hbd
      show bO _ _ _=bO _ _ _
      rw [il]
      have hc:decide ((i:Int)<len c)=true:=by simp [aj,hlt]
      have hty:=hb.2 y hy
      have hg:c[i]?=some y:=by rw [<-cp];exact hi
      rw [if_pos hc,hi]
      simp only [Option.bind_some,Int.toNat_natCast,hg,(xx (s:=y.fText) (by omega)).2]
      have hpp:=hp y hy
      have hsl:=yK y.fText 0 []
      have e:lgF y=(sst 0 [] y.fText).flatMap fun p=>if dq p=true then [] else [⟨y.fNumber,p⟩]:=rfl
      rw [e] at hbd ⊢
      generalize sst 0 [] y.fText=ps at hpp hsl hbd
      refine bL (xs:=ps) (by omega) (P:=fun j l=>(∀ p∈l,p.length<=1000000)->∀ a:List aP,a.length+(l.flatMap fun p=>if dq p=true then ([]:List aP) else [⟨y.fNumber,p⟩]).length<=68719476736->dl (i:Int) ps (j:Int) c a=bO ((i+1:Nat):Int) c (a++l.flatMap fun p=>if dq p=true then [] else [⟨y.fNumber,p⟩])) ?_ ?_ hpp a hbd
      · intro _ a _
        rw [io]
        simp [aj,hw]
      · intro j p l _ hlt2 hy2 hi2 hw2 ih hl a ha
        rw [io]
        have hc2:decide ((j:Int)<len ps)=true:=by simp [aj,hlt2]
        rw [if_pos hc2,hi2]
        have hp0:=hl p (by simp)
        rw [List.flatMap_cons] at ha ⊢
        simp only [Option.bind_some,ub hp0,hw2,hi,Int.toNat_natCast,hg]
        cases hbp:dq p with
        | true=>
          simp only [hbp,if_true,List.nil_append] at ha
          simp only [Bool.not_true,Bool.false_eq_true,if_false,if_true,List.nil_append]
          exact ih (fun x hx=>hl x (by simp [hx])) a ha
        | false=>
          simp only [hbp,Bool.false_eq_true,if_false,List.length_append,List.length_singleton] at ha
          simp only [Bool.not_false,if_true,Bool.false_eq_true,if_false]
          rw [av (by simp;omega)]
          simp only [Option.bind_some]
          rw [ih (fun x hx=>hl x (by simp [hx])) _ (by simp only [List.length_append,List.length_singleton];omega)]
          simp) hB
    rw [show bO 0 c []=_ from this,il]
    simp [aj]
end Go.Dv.U

namespace Go.Dv.U
open Go Go.Dv Go.Proofs
theorem Cj : ∀ (l:List UInt8) (q:Int) (cur:List UInt8),∀ p∈sst q cur l,p.length<=cur.length+l.length
 | [],q,cur,p,hp=>by simp [sst] at hp;subst hp;simp
 | b :: r,q,cur,p,hp=>by
  have h:=Cj r
  have e:(cur++[b]).length=cur.length+1:=by simp
  simp only [sst] at hp
  simp only [List.length_cons]
  split at hp
  ·have:=h _ _ p hp;omega
  ·split at hp
   ·have:=h _ _ p hp;omega
   ·split at hp
    ·have:=h _ _ p hp;omega
    ·split at hp
     ·rcases List.mem_cons.1 hp with e | e
      ·subst e;omega
      ·have:=h _ _ p e;simp at this;omega
     ·have:=h _ _ p hp;omega
theorem C6 (s:List UInt8):(∀ b∈mz s,b∈s)/\(mz s).length<=s.length:=by
 unfold mz
 split
 ·exact ⟨fun b hb=>List.mem_of_mem_take hb,by first | (simp;done) | (simp;omega)⟩
 ·exact ⟨fun b hb=>hb,Nat.le_refl _⟩
theorem xy {s:List UInt8} (h:GA s=true):s.length<=4000/\(cA s).length<=120/\(∀ t∈cA s,t.length<=4000)/\∀ t∈cA s,dJ t=true:=by
 unfold GA at h
 simp only [Bool.and_eq_true,decide_eq_true_eq] at h
 obtain ⟨⟨h1,h2⟩,h3⟩:=h
 have ht:=C6 s
 refine ⟨h1,h3,fun t htm=>?_,fun t htm=>?_⟩
 ·unfold cA at htm
  split at htm
  ·cases htm
  ·have:=uv 10 (mz s) t htm;omega
 ·unfold cA at htm
  split at htm
  ·cases htm
  ·refine List.all_eq_true.2 fun b hb=>?_
   obtain ⟨g1,g2⟩:=yJ 10 (mz s) t htm b hb
   have:=List.all_eq_true.1 h2 b (ht.1 b g2)
   simp only [Fz,Bool.true_and,Bool.or_eq_true] at this
   rcases this with g | g
   ·exact g
   ·exact absurd (vd.1 ((by simpa using g:ib b=10).trans (by decide))) g1
def LL (s:List UInt8):List aP×Int×Int:=if GA s=true then (if 0<(cmb (cA s) 0 []).2 then ([],(cmb (cA s) 0 []).2,2) else ((cmb (cA s) 0 []).1.flatMap lgF,0,0)) else ([],0,1)
theorem Jr {s:List UInt8} (h:GA s=true):BdL 150 (cmb (cA s) 0 []).1/\∀ y∈(cmb (cA s) 0 []).1,∀ p∈sst 0 [] y.fText,p.length<=1000000:=by
 obtain ⟨_,h2,h3,_⟩:=xy h
 have hb:=Hj (cA s) 0 [] h3 ⟨by simp,fun y hy=>by cases hy⟩
 have hb2:BdL 150 (cmb (cA s) 0 []).1:=⟨by have:=hb.1;omega,fun y hy=>by have:=hb.2 y hy;omega⟩
 exact ⟨hb2,fun y hy p hp=>by have:=Cj _ _ _ p hp;have:=hb2.2 y hy;simp at *;omega⟩
theorem sF {s:List UInt8} (h:s.length<=1000000):kz s=some (LL s):=by
 rw [rJ,ua h]
 simp only [Option.bind_some]
 unfold LL
 by_cases hv:GA s=true
 ·obtain ⟨h1,h2,h3,_⟩:=xy hv
  obtain ⟨b1,b2⟩:=Jr hv
  simp only [hv,Bool.not_true,Bool.false_eq_true,if_false,if_true]
  rw [Ai h1 (by omega) h3]
  simp only [Option.bind_some]
  by_cases c:0<(cmb (cA s) 0 []).2
  ·rw [if_pos (by simpa using c),if_pos c]
  ·rw [if_neg (by simpa using c),if_neg c]
   exact (Iq b1 b2).1
 ·simp [hv]
def Kf (y:aP):Prop:=dq y.fText=false/\dJ y.fText=true/\sst 0 [] y.fText=[y.fText]
def jn (L:List aP):List UInt8:=L.flatMap fun y=>y.fText++[10]
def enL : List aP->Nat->List aP
 | [],_=>[]
 | y:: r,i=>⟨((i+1:Nat):Int),y.fText⟩:: enL r (i+1)
theorem EW {t:List UInt8} (h:dJ t=true):∀ b∈t,b≠10:=by
 intro b hb e
 subst e
 have:=List.all_eq_true.1 h 10 hb
 exact absurd this (by decide)
theorem Hk : ∀ (M:List aP) (r:List UInt8),(∀ y∈M,dJ y.fText=true)->spl 10 (jn M++r)=M.map (·.fText)++spl 10 r
 | [],r,_=>rfl
 | y:: M,r,h=>by
  have e:jn (y:: M)++r=y.fText++10:: (jn M++r):=by simp [jn]
  rw [e,EU 10 _ _ (EW (h y (by simp))),Hk M r fun z hz=>h z (by simp [hz])]
  rfl
theorem C7 {L:List aP} (h:∀ y∈L,dJ y.fText=true):cA (jn L)=L.map (·.fText):=by
 cases hr:L.reverse with
 | nil=>
  have:L=[]:=by simpa using hr
  subst this;rfl
 | cons y M=>
  have e:L=M.reverse++[y]:=by rw [<-List.reverse_reverse L,hr];simp
  subst e
  have e2:jn (M.reverse++[y])=(jn M.reverse++y.fText)++[10]:=by simp [jn]
  rw [e2,Ah,Hk _ _ (fun z hz=>h z (by simp at hz ⊢;exact .inl hz)),Ci 10 _ (EW (h y (by simp)))]
  simp
theorem Aj : ∀ (L:List aP) (i:Nat) (a:List aP),(∀ y∈L,dq y.fText=false/\Io y.fText=false/\Hi y.fText=false)->cmb (L.map (·.fText)) i a=(a++enL L i,0)
 | [],i,a,_=>by simp [cmb,enL]
 | y:: L,i,a,h=>by
  obtain ⟨h1,h2,h3⟩:=h y (by simp)
  simp only [List.map_cons,cmb,h1,h2,h3,Bool.or_self,Bool.false_eq_true,if_false,enL]
  rw [Aj L (i+1) _ fun z hz=>h z (by simp [hz])]
  simp
theorem Ir {y:aP} {n:Int} (h:Kf y):lgF ⟨n,y.fText⟩=[⟨n,y.fText⟩]:=by
 unfold lgF
 simp only [h.2.2,List.flatMap_cons,h.1,Bool.false_eq_true,if_false,List.flatMap_nil,List.append_nil]
theorem EX : ∀ (L:List aP) (i:Nat),(∀ y∈L,Kf y)->(enL L i).flatMap lgF=enL L i
 | [],_,_=>rfl
 | y:: L,i,h=>by
  simp only [enL,List.flatMap_cons,Ir (h y (by simp)),EX L (i+1) fun z hz=>h z (by simp [hz])]
  rfl
theorem GC {L:List aP} (h:∀ y∈L,Kf y) (hc:∀ y∈L,Io y.fText=false/\Hi y.fText=false) (hl:L.length<=120) (hj:(jn L).length<=4000):LL (jn L)=(enL L 0,0,0):=by
 have hlines:=C7 fun y hy=>(h y hy).2.1
 have hv:GA (jn L)=true:=by
  unfold GA
  rw [hlines]
  simp only [Bool.and_eq_true,decide_eq_true_eq,List.length_map]
  refine ⟨⟨hj,?_⟩,hl⟩
  rw [List.all_eq_true]
  intro b hb
  obtain ⟨y,hy,hby⟩:=List.mem_flatMap.1 hb
  rcases List.mem_append.1 hby with e | e
  ·have:=List.all_eq_true.1 (h y hy).2.1 b e
   simp [Fz,this]
  ·have:b=10:=by simpa using e
   subst this;decide
 unfold LL
 rw [if_pos hv,hlines,Aj L 0 [] fun y hy=>⟨(h y hy).1,hc y hy⟩]
 simp only [Int.lt_irrefl,if_false,List.nil_append,EX L 0 h]
end Go.Dv.U

namespace Go.Dv.U
open Go Go.Dv Go.Proofs
def mO (t:ae):Bool:=t.fKind==4&&t.fBefore&&t.fAfter
def uc (s:List UInt8):Bool:=s==[45]||s==[42]||s==[36]||s==[46]||s==[64]
def FB (t:ae):Bool:=t.fBefore&&(t.fKind==1||t.fKind==2||t.fKind==3||t.fKind==5||(t.fKind==4&&!t.fAfter&&uc t.fText))
def opK (n:Nat) (s:List UInt8):Int:=if n=1/\s=[124] then 6 else if n=3/\s=[43] then 8 else if n=3/\s=[45] then 9 else if n=4/\s=[42] then 10 else if n=4/\s=[47] then 11 else if n=5/\s=[46] then 12 else if n=5/\s=[36] then 13 else 0
def inf (n:Nat):List ae->Option (Int×List ae)
 | []=>none
 | t:: r=>if n=2 then (if FB t=true then some (7,t:: r) else none) else if mO t=true/\opK n t.fText≠0 then some (opK n t.fText,r) else none
inductive Md | ex (n:Nat) | lp (n:Nat) (l:ab) | el | pr | ix (e:ab) | ar (acc:List ab)
def a6 (k:Int):List ae->Option (List ae)
 | []=>none
 | t:: r=>if t.fKind=k then some r else none
def eP : List ae->Option (List UInt8×List ae)
 | []=>none
 | t:: r=>if t.fKind=1 then some (t.fText,r) else none
def IU (s:List UInt8):Int:=if s=[46] then 16 else if s=[42] then 17 else 18
def pP : Nat->Md->List ae->Option (ab×List ae)
  | 0,_,_=>none
  | f+1,.ex n,ts=>if 6<=n then pP f .el ts else (pP f (.ex (n+1)) ts).bind fun p=>pP f (.lp n p.1) p.2
  | f + 1,.lp n l,ts=>match inf n ts with
    | none=>some (l,ts)
    | some (k,r)=>if n=5 then (eP r).bind fun p=>pP f (.lp n ⟨k,0,[],[l,⟨3,0,p.1,[]⟩]⟩) p.2
      else (pP f (.ex (n+1)) r).bind fun p=>pP f (.lp n ⟨k,0,[],[l,p.1]⟩) p.2
  | _+1,.el,[]=>none
  | f + 1,.el,t:: r=>if t.fKind=4 then (if t.fAfter=true then none else if t.fText=[45] then (pP f .el r).map fun p=>(⟨14,0,[],[p.1]⟩,p.2) else if t.fText=[36] then (pP f .el r).map fun p=>(⟨15,0,[],[p.1]⟩,p.2)
      else if uc t.fText=true then (eP r).map fun p=>(⟨IU t.fText,0,p.1,[]⟩,p.2) else none)
    else (pP f .pr (t:: r)).bind fun p=>pP f (.ix p.1) p.2
  | _+1,.ix e,[]=>some (e,[])
  | f+1,.ix e,t:: r=>if t.fKind=7/\t.fBefore=false then (pP f (.ex 1) r).bind fun p=>(a6 8 p.2).bind fun r2=>pP f (.ix ⟨5,0,[],[e,p.1]⟩) r2 else some (e,t:: r)
  | _+1,.pr,[]=>none
  | f + 1,.pr,t:: r=>if t.fKind=3 then some (⟨1,0,t.fText,[]⟩,r) else if t.fKind=2 then some (⟨2,t.fNum,[],[]⟩,r)
    else if t.fKind=1 then (match t.fAfter,a6 5 r with
      | false,some r2=>match a6 6 r2 with
        | some r3=>some (⟨4,0,t.fText,[]⟩,r3)
        | none=>(pP f (.ar []) r2).map fun p=>(⟨4,0,t.fText,p.1.fKids⟩,p.2)
      | _,_=>some (⟨3,0,t.fText,[]⟩,r))
    else if t.fKind=5 then (pP f (.ex 1) r).bind fun p=>(a6 6 p.2).map fun r2=>(p.1,r2)
    else none
  | f+1,.ar acc,ts=>(pP f (.ex 1) ts).bind fun p=>match a6 9 p.2 with
    | some r=>pP f (.ar (acc++[p.1])) r
    | none=>(a6 6 p.2).map fun r=>(⟨0,0,[],acc++[p.1]⟩,r)
def PR (md:Md) (ts:List ae) (res:ab×List ae):Prop:=∃ f,∀ g,f<=g->pP g md ts=some res
theorem PR.mk1 {md:Md} {ts:List ae} {res:ab×List ae} (h:∀ f,pP (f+1) md ts=some res):PR md ts res:=
 ⟨1,fun g hg=>by obtain ⟨f,rfl⟩:∃ f,g=f+1:=⟨g-1,by omega⟩;exact h f⟩
theorem PR.mk2 {md m1:Md} {ts t1:List ae} {res p:ab×List ae} (h1:PR m1 t1 p) (h:∀ f,pP f m1 t1=some p->pP (f+1) md ts=some res):PR md ts res:=by
 obtain ⟨f1,h1⟩:=h1
 exact ⟨f1+1,fun g hg=>by obtain ⟨f,rfl⟩:∃ f,g=f+1:=⟨g-1,by omega⟩;exact h f (h1 f (by omega))⟩
theorem PR.mk3 {md m1 m2:Md} {ts t1 t2:List ae} {res p q:ab×List ae} (h1:PR m1 t1 p) (h2:PR m2 t2 q) (h:∀ f,pP f m1 t1=some p->pP f m2 t2=some q->pP (f+1) md ts=some res):PR md ts res:=by
 obtain ⟨f1,h1⟩:=h1
 obtain ⟨f2,h2⟩:=h2
 exact ⟨f1+f2+1,fun g hg=>by obtain ⟨f,rfl⟩:∃ f,g=f+1:=⟨g-1,by omega⟩;exact h f (h1 f (by omega)) (h2 f (by omega))⟩
theorem PR.ex6 {ts:List ae} {res:ab×List ae} (h:PR .el ts res):PR (.ex 6) ts res:=PR.mk2 h fun f e=>by rw [pP,if_pos (by decide),e]
theorem PR.exn {n:Nat} (hn:n<=5) {ts r:List ae} {l:ab} {res:ab×List ae} (h1:PR (.ex (n+1)) ts (l,r)) (h2:PR (.lp n l) r res):PR (.ex n) ts res:=
 PR.mk3 h1 h2 fun f e1 e2=>by rw [pP,if_neg (by omega),e1];exact e2
theorem PR.stop {n:Nat} {ts:List ae} {l:ab} (h:inf n ts=none):PR (.lp n l) ts (l,ts):=PR.mk1 fun f=>by rw [pP,h]
theorem PR.go {n:Nat} (hn:n≠5) {k:Int} {ts r r2:List ae} {l y:ab} {res:ab×List ae} (h:inf n ts=some (k,r)) (h1:PR (.ex (n+1)) r (y,r2)) (h2:PR (.lp n ⟨k,0,[],[l,y]⟩) r2 res):PR (.lp n l) ts res:=
 PR.mk3 h1 h2 fun f e1 e2=>by rw [pP,h];simp only;rw [if_neg hn,e1];exact e2
theorem PR.go5 {k:Int} {ts r r2:List ae} {l:ab} {nm:List UInt8} {res:ab×List ae} (h:inf 5 ts=some (k,r)) (h1:eP r=some (nm,r2)) (h2:PR (.lp 5 ⟨k,0,[],[l,⟨3,0,nm,[]⟩]⟩) r2 res):PR (.lp 5 l) ts res:=
 PR.mk2 h2 fun f e=>by rw [pP,h];simp only;rw [if_pos trivial,h1];exact e
theorem PR.el {t:ae} {r r2:List ae} {y:ab} {res:ab×List ae} (hk:t.fKind≠4) (h1:PR .pr (t:: r) (y,r2)) (h2:PR (.ix y) r2 res):PR .el (t:: r) res:=
 PR.mk3 h1 h2 fun f e1 e2=>by rw [pP,if_neg hk,e1];exact e2
def yM (ts:List ae):Prop:=∀ t r,ts=t:: r->¬ (t.fKind=7/\t.fBefore=false)
theorem PR.ixStop {ts:List ae} {e:ab} (h:yM ts):PR (.ix e) ts (e,ts):=PR.mk1 fun f=>by
 cases ts with
 | nil=>rfl
 | cons t r=>rw [pP,if_neg (h t r rfl)]
theorem PR.down {ts r:List ae} {x:ab} {n:Nat} (hs:∀ j,n<=j->j<=5->inf j r=none):∀ m,n<=m->m<=6->PR (.ex m) ts (x,r)->PR (.ex n) ts (x,r):=by
  intro m
  induction m with
  | zero => intro h _ h1;have e:n=0:=by omega
            rw [e];exact h1
  | succ m ih=>
    intro h h6 h1
    by_cases e:n=m+1
    · subst e;exact h1
    · exact ih (by omega) (by omega) (PR.exn (by omega) h1 (PR.stop (hs m (by omega) (by omega))))
theorem wg {bl:Bool} {s:List UInt8} {L:List ae} {k m:Int} {t:List UInt8} {w:Nat} (hb:∀ b r,s=b:: r->¬ ib b=32) (ht:kK s=some (k,m,t,w)) (h:Sc bl s L):
  ∃ L',L=⟨k,m,t,bl,aX (s.drop w)⟩:: L'/\Sc false (s.drop w) L':=by
 cases h with
 | nil=>cases ht
 | bl _ h=>exact absurd (by decide) (hb 32 _ rfl)
 | tok _ hb' ht' h=>
  rw [ht] at ht'
  cases ht'
  exact ⟨_,rfl,h⟩
theorem eL {bl:Bool} {r:List UInt8} {L:List ae} (h:Sc bl (32:: r) L):Sc true r L:=by
 cases h with
 | bl _ h=>exact h
 | tok _ hb' ht' h=>exact absurd (by decide) (hb' 32 r rfl)
theorem Ak {b:UInt8} (h:iB (ib b)=true):¬ ib b=32/\bU (ib b)=true:=by
 refine ⟨?_,by unfold bU;rw [h];rfl⟩
 intro e;rw [e] at h;revert h;decide
theorem sG {bl:Bool} {t r:List UInt8} {L:List ae} (hn:bi t=true) (hr:∀ b q,r=b:: q->bU (ib b)=false) (h:Sc bl (t++r) L):
  ∃ L',L=⟨1,0,t,bl,aX r⟩:: L'/\Sc false r L':=by
 cases t with
 | nil=>simp [bi] at hn
 | cons b q=>
  simp only [bi,Bool.and_eq_true,decide_eq_true_eq] at hn
  obtain ⟨⟨hlen,hlet⟩,hall⟩:=hn
  have hf:=Ak hlet
  have hrun:aL bU (b:: q++r)=(b:: q).length:=gR _ _ hall hr
  have ht:kK (b:: q++r)=some (1,0,b:: q,(b:: q).length):=by
   show kK (b:: (q++r))=_
   rw [ci,if_pos hlet]
   rw [show aL bU (b:: (q++r))=(b:: q).length from hrun,if_pos hlen]
   rw [show b:: (q++r)=(b:: q)++r from rfl,ov]
  obtain ⟨L',e,h2⟩:=wg (fun b' r' e=>by cases e;exact hf.1) ht h
  rw [ur] at e h2
  exact ⟨L',e,h2⟩
theorem Js {bl:Bool} {n:Int} {r:List UInt8} {L:List ae} (h0:0<=n) (h1:n<=1000000000000) (hr:∀ b q,r=b:: q->bp (ib b)=false) (h:Sc bl (Lib.itoa n++r) L):
  ∃ L',L=⟨2,n,[],bl,aX r⟩:: L'/\Sc false r L':=by
 obtain ⟨u,rfl⟩:∃ u:Nat,n=u:=⟨n.toNat,by omega⟩
 rw [yz] at h
 obtain ⟨d1,d2,d3⟩:=EP u
 have hl:=Ik (u:=u) (by omega)
 have hrun:aL bp (Lib.decDigits u++r)=(Lib.decDigits u).length:=gR _ _ d1 hr
 cases hd:Lib.decDigits u with
 | nil=>exact absurd hd d3
 | cons b q=>
  have d4:=d1
  rw [hd,List.all_cons,Bool.and_eq_true] at d4
  have hb:=d4.1
  have hne:¬ ib b=32/\iB (ib b)=false:=by
   simp only [bp,Bool.and_eq_true,decide_eq_true_eq] at hb
   refine ⟨by omega,?_⟩
   simp only [iB,Bool.or_eq_false_iff,Bool.and_eq_false_iff,decide_eq_false_iff_not];omega
  have ht:kK (Lib.decDigits u++r)=some (2,(u:Int),[],(Lib.decDigits u).length):=by
   rw [hd] at hrun ⊢
   show kK (b:: (q++r))=_
   rw [ci,if_neg (by rw [hne.2];decide),if_pos hb]
   rw [show aL bp (b:: (q++r))=(b:: q).length from hrun,show b:: (q++r)=(b:: q)++r from rfl,ov,<-hd,d2,if_pos ⟨hl,by omega⟩]
  obtain ⟨L',e,h2⟩:=wg (fun b' r' e=>by rw [hd] at e;cases e;exact hne.1) ht h
  rw [ur] at e h2
  exact ⟨L',e,h2⟩
theorem GD {bl:Bool} {t r:List UInt8} {L:List ae} (hq:wo t=true) (h:Sc bl (qH t++r) L):∃ L',L=⟨3,0,t,bl,aX r⟩:: L'/\Sc false r L':=by
 have key:∀ c:UInt8,(ib c=39\/ib c=34)->hasB (ib c) t=false->Sc bl ((c:: t++[c])++r) L->∃ L',L=⟨3,0,t,bl,aX r⟩:: L'/\Sc false r L':=by
  intro c hc hn h
  have hl:t.length<=200:=by simp only [wo,Bool.and_eq_true,decide_eq_true_eq] at hq;exact hq.1.1
  obtain ⟨_,q2,q3,q4⟩:=EQ hc
  have hall:t.all (fun b=>(fun x=>x !=ib c) (ib b))=true:=by
   rw [List.all_eq_true];intro b hb;simpa using Cd hn b hb
  have hrun:aL (fun x=>x !=ib c) (t++([c]++r))=t.length:=gR _ _ hall fun b q e=>by cases e;simp
  have ht:kK ((c:: t++[c])++r)=some (3,0,t,t.length+2):=by
   rw [show (c:: t++[c])++r=c:: (t++([c]++r)) by simp,ci,if_neg (by rw [q4];decide),if_neg (by rw [q2];decide),if_pos hc,hrun,if_pos ⟨by simp,hl⟩,ov]
  obtain ⟨L',e,h2⟩:=wg (fun b' r' e=>by cases e;simpa using q3) ht h
  have e3:((c:: t++[c])++r).drop (t.length+2)=r:=by
   rw [show t.length+2=(c:: t++[c]).length by simp,ur]
  rw [e3] at e h2
  exact ⟨L',e,h2⟩
 unfold qH at h
 rw [if_pos hq] at h
 by_cases h39:hasB 39 t=true
 ·rw [if_pos h39] at h
  refine key 34 (.inr (by decide)) ?_ h
  simp only [wo,Bool.and_eq_true,Bool.not_eq_true',h39,Bool.true_and] at hq
  exact hq.2
 ·rw [if_neg h39] at h
  exact key 39 (.inl (by decide)) (by rw [show ib 39=39 from by decide];simpa using h39) h
theorem Al {bl:Bool} {b:UInt8} {r:List UInt8} {L:List ae} (hb:nO (ib b)=true) (h:Sc bl (b:: r) L):∃ L',L=⟨4,0,[b],bl,aX r⟩:: L'/\Sc false r L':=by
 have f:∀ b:UInt8,nO (ib b)=true->iB (ib b)=false/\bp (ib b)=false/\¬ (ib b=39\/ib b=34)/\¬ ib b=32:=ew (by decide +kernel)
 obtain ⟨f1,f2,f3,f4⟩:=f b hb
 have ht:kK (b:: r)=some (4,0,[b],1):=by
  rw [ci,if_neg (by rw [f1];decide),if_neg (by rw [f2];decide),if_neg f3,if_pos hb]
 exact wg (fun b' r' e=>by cases e;exact f4) ht h
theorem eZ {bl:Bool} {b:UInt8} {r:List UInt8} {L:List ae} (hb:cu (ib b)≠0) (h:Sc bl (b:: r) L):∃ L',L=⟨cu (ib b),0,[],bl,aX r⟩:: L'/\Sc false r L':=by
 have f:∀ b:UInt8,cu (ib b)≠0->iB (ib b)=false/\bp (ib b)=false/\¬ (ib b=39\/ib b=34)/\¬ ib b=32/\nO (ib b)=false:=ew (by decide +kernel)
 obtain ⟨f1,f2,f3,f4,f5⟩:=f b hb
 have ht:kK (b:: r)=some (cu (ib b),0,[],1):=by
  rw [ci,if_neg (by rw [f1];decide),if_neg (by rw [f2];decide),if_neg f3,if_neg (by rw [f5];decide),if_pos hb]
 exact wg (fun b' r' e=>by cases e;exact f4) ht h
def okR (r:List UInt8):Prop:=∀ b q,r=b:: q->ib b=32\/ib b=41\/ib b=44\/ib b=60\/ib b=62
theorem okR.nm {r:List UInt8} (h:okR r):∀ b q,r=b:: q->bU (ib b)=false:=by
 intro b q e
 rcases h b q e with h | h | h | h | h<;>rw [h]<;>decide
theorem okR.dg {r:List UInt8} (h:okR r):∀ b q,r=b:: q->bp (ib b)=false:=by
 intro b q e
 rcases h b q e with h | h | h | h | h<;>rw [h]<;>decide
def hdO (bl:Bool) (L:List ae):Prop:=∃ t q,L=t:: q/\t.fBefore=bl/\((t.fKind=1\/t.fKind=2\/t.fKind=3\/t.fKind=5)\/(t.fKind=4/\t.fAfter=false/\uc t.fText=true))
structure RT (m:Int) (x:ab) (bl:Bool) (L Lr:List ae):Prop where
 hd:hdO bl L
 e7:m=7->∀ res,PR (.ix x) Lr res->PR .el L res
 e6:6<=m->yM Lr->PR .el L (x,Lr)
 en:∀ n:Nat,1<=n->n<=5->(n:Int)<=m->yM Lr->(∀ j,n<j->j<=5->inf j Lr=none)->∀ res,PR (.lp n x) Lr res->PR (.ex n) L res
theorem RT.of6 {m:Int} {x:ab} {bl:Bool} {L Lr:List ae} (hd:hdO bl L) (h7:m=7->∀ res,PR (.ix x) Lr res->PR .el L res) (h6:yM Lr->PR .el L (x,Lr)):RT m x bl L Lr:=
 ⟨hd,h7,fun _=>h6,fun n h1 h5 _ hs hj res hr=>PR.exn h5 (PR.down (fun j a b=>hj j (by omega) b) 6 (by omega) (by omega) (PR.ex6 (h6 hs))) hr⟩
theorem RT.of7 {x:ab} {bl:Bool} {L Lr:List ae} (hd:hdO bl L) (h7:∀ res,PR (.ix x) Lr res->PR .el L res):RT 7 x bl L Lr:=
 RT.of6 hd (fun _=>h7) fun hs=>h7 _ (PR.ixStop hs)
theorem RT.fin {m:Int} {x:ab} {bl:Bool} {L Lr:List ae} (h:RT m x bl L Lr) {n:Nat} (h1:1<=n) (h6:n<=6) (hn:(n:Int)<=m) (hs:yM Lr) (hj:∀ j,n<=j->j<=5->inf j Lr=none):PR (.ex n) L (x,Lr):=by
 by_cases e:n=6
 ·subst e;exact PR.ex6 (h.e6 (by omega) hs)
 ·exact h.en n h1 (by omega) hn hs (fun j a b=>hj j (by omega) b) _ (PR.stop (hj n (Nat.le_refl _) (by omega)))
theorem uw {t:ae} {r:List ae} (h:t.fKind=6\/t.fKind=8\/t.fKind=9\/t.fKind=7) (j:Nat):inf j (t:: r)=none:=by
 have h1:FB t=false:=by
  unfold FB
  rcases h with h | h | h | h<;>rw [h]<;>cases t.fBefore<;>rfl
 have h2:mO t=false:=by
  unfold mO
  rcases h with h | h | h | h<;>rw [h]<;>rfl
 simp only [inf,h1,h2];simp
theorem kr {t:ae} {r:List ae} (h:t.fKind≠7):yM (t:: r):=by
 intro t' r' e;cases e;exact fun h2=>h h2.1
theorem RT.paren {m:Int} {x:ab} {bl b2 a1:Bool} {L Lr:List ae} {c:ae} (hm:1<=m) (hc:c.fKind=6) (h:RT m x b2 L (c:: Lr)):RT 7 x bl (⟨5,0,[],bl,a1⟩:: L) Lr:=by
 refine RT.of7 ⟨_,_,rfl,rfl,.inl (by simp)⟩ fun res hr=>?_
 refine PR.el (by simp) ?_ hr
 refine PR.mk2 (h.fin (n:=1) (by omega) (by omega) hm (kr (by rw [hc];decide)) fun j _ _=>uw (.inl hc) j) fun f e=>?_
 rw [pP]
 simp only [show ¬ (5:Int)=3 from by decide,show ¬ (5:Int)=2 from by decide,show ¬ (5:Int)=1 from by decide,if_false,if_true]
 rw [e]
 simp [a6,hc]
def RTo (x:ab):Prop:=∀ (bl:Bool) (r:List UInt8) (L:List ae),okR r->Sc bl (x.text++r) L->∃ Lr,Sc false r Lr/\RT (aI x.fKind) x bl L Lr
theorem Am (r:List UInt8):okR (41:: r):=by intro b q e;cases e;right;left;decide
theorem nX (r:List UInt8):okR (32:: r):=by intro b q e;cases e;left;decide
theorem EY (r:List UInt8):okR (44:: r):=by intro b q e;cases e;right;right;left;decide
theorem GE (r:List UInt8):okR (60:: r):=by intro b q e;cases e;right;right;right;left;decide
theorem EZ (r:List UInt8):okR (62:: r):=by intro b q e;cases e;right;right;right;right;decide
theorem qQ {x:ab} (hx:RTo x) (l:Int) {bl:Bool} {r:List UInt8} {L:List ae} (hr:okR r) (h:Sc bl (qU l (aI x.fKind,x.text)++r) L):∃ Lr,Sc false r Lr/\RT (if aI x.fKind<l then 7 else aI x.fKind) x bl L Lr:=by
 unfold qU at h
 simp only at h
 by_cases hl:aI x.fKind<l
 ·rw [if_pos hl] at h ⊢
  have e:40:: (x.text++[41])++r=40:: (x.text++41:: r):=by simp
  rw [e] at h
  obtain ⟨L1,rfl,h1⟩:=eZ (b:=40) (by decide) h
  obtain ⟨L2,h2,h3⟩:=hx false _ L1 (Am r) h1
  obtain ⟨Lr,rfl,h4⟩:=eZ (b:=41) (by decide) h2
  have em:cu (ib 40)=5:=by decide
  rw [em]
  exact ⟨Lr,h4,RT.paren (by have:=cv x.fKind;omega) (show cu (ib 41)=6 from by decide) h3⟩
 ·rw [if_neg hl] at h ⊢
  exact hx bl r L hr h
theorem xz {x:ab} (h:t7 x=true):(∃ t,x=⟨1,0,t,[]⟩/\wo t=true)\/(∃ n,x=⟨2,n,[],[]⟩/\0<=n/\n<=1000000000000)\/(∃ t,x=⟨3,0,t,[]⟩/\bi t=true)\/(∃ k t,x=⟨k,0,t,[]⟩/\(k=16\/k=17\/k=18)/\bi t=true) \/
  (∃ t ks,x=⟨4,0,t,ks⟩/\ks.length<=6/\bi t=true)\/(∃ k a,x=⟨k,0,[],[a]⟩/\(k=14\/k=15))\/(∃ a b,x=⟨5,0,[],[a,b]⟩)\/(∃ k a b,x=⟨k,0,[],[a,b]⟩/\6<=k/\k<=11)\/(∃ k a b,x=⟨k,0,[],[a,b]⟩/\(k=12\/k=13)/\b.fKind=3):=by
 obtain ⟨k,n,t,ks⟩:=x
 unfold t7 at h
 simp only at h
 have nil:∀ {l:List ab},(l.length==0)=true->l=[]:=fun h=>List.eq_nil_of_length_eq_zero (by simpa using h)
 split at h
 ·rename_i e;subst e
  simp only [Bool.and_eq_true] at h
  obtain ⟨⟨h1,h2⟩,h3⟩:=h
  have:=nil h1;subst this
  have:n=0:=by simpa using h2
  subst this
  exact .inl ⟨t,rfl,h3⟩
 split at h
 ·rename_i e;subst e
  simp only [Bool.and_eq_true,decide_eq_true_eq] at h
  obtain ⟨⟨h1,h2⟩,h3⟩:=h
  have:=nil h1;subst this
  have:t=[]:=by simpa using h2
  subst this
  exact .inr (.inl ⟨n,rfl,h3⟩)
 split at h
 ·rename_i e
  simp only [Bool.and_eq_true] at h
  obtain ⟨⟨h1,h2⟩,h3⟩:=h
  have:=nil h1;subst this
  have:n=0:=by simpa using h2
  subst this
  rcases e with rfl | e
  ·exact .inr (.inr (.inl ⟨t,rfl,h3⟩))
  ·exact .inr (.inr (.inr (.inl ⟨k,t,rfl,e,h3⟩)))
 split at h
 ·rename_i e;subst e
  simp only [Bool.and_eq_true,decide_eq_true_eq] at h
  obtain ⟨⟨h1,h2⟩,h3⟩:=h
  have:n=0:=by simpa using h2
  subst this
  exact .inr (.inr (.inr (.inr (.inl ⟨t,ks,rfl,h1,h3⟩))))
 simp only [Bool.and_eq_true] at h
 obtain ⟨⟨h1,h2⟩,h3⟩:=h
 have:n=0:=by simpa using h1
 subst this
 have:t=[]:=by simpa using h2
 subst this
 split at h3
 ·rename_i e
  rcases ks with _ | ⟨a,_ | ⟨b,_ | ⟨c,r⟩⟩⟩
  ·cases h3
  ·cases h3
  ·exact .inr (.inr (.inr (.inr (.inr (.inr (.inr (.inr ⟨k,a,b,rfl,e,by simpa using h3⟩)))))))
  ·cases h3
 split at h3
 ·rename_i e
  rcases ks with _ | ⟨a,_ | ⟨b,r⟩⟩
  ·simp at h3
  ·exact .inr (.inr (.inr (.inr (.inr (.inl ⟨k,a,rfl,e⟩)))))
  ·simp at h3
 split at h3
 ·rename_i e
  rcases ks with _ | ⟨a,_ | ⟨b,_ | ⟨c,r⟩⟩⟩
  ·simp at h3
  ·simp at h3
  ·by_cases e5:k=5
   ·subst e5;exact .inr (.inr (.inr (.inr (.inr (.inr (.inl ⟨a,b,rfl⟩))))))
   ·exact .inr (.inr (.inr (.inr (.inr (.inr (.inr (.inl ⟨k,a,b,rfl,by omega,by omega⟩)))))))
  ·simp at h3
 ·cases h3
theorem Hl {n:Nat} {s:UInt8} {r:List ae} (h:opK n [s]≠0) (h2:n≠2):inf n (⟨4,0,[s],true,true⟩:: r)=some (opK n [s],r):=by
 simp only [inf]
 rw [if_neg h2,if_pos ⟨rfl,h⟩]
theorem E0 {n:Nat} {s:List UInt8} {k:Int} (hk:s=uu k) (h6:6<=k) (h13:k<=13) (h7:k≠7):opK n s=if (n:Int)=aI k then k else 0:=by
 subst hk
 have:k=6\/k=8\/k=9\/k=10\/k=11\/k=12\/k=13:=by omega
 rcases this with rfl | rfl | rfl | rfl | rfl | rfl | rfl<;>simp [opK,uu,aI]<;>omega
theorem Ck {n:Nat} {s:UInt8} {a:Bool} {r:List ae} (h:opK n [s]=0):inf n (⟨4,0,[s],true,true⟩:: r)=none:=by
 simp only [inf,h,FB,mO];simp
end Go.Dv.U

namespace Go.Dv.U
open Go Go.Dv Go.Proofs
theorem E1 {bl:Bool} {s:List UInt8} {L:List ae} (h:Sc bl s L):bl=true->∀ t q,L=t:: q->t.fBefore=true:=by
 induction h with
 | nil bl=>intro _ t q e;cases e
 | bl bl h ih=>intro _;exact ih rfl
 | tok bl hb ht h ih=>intro e t q e2;cases e2;exact e
theorem E2 {s:List UInt8} {L:List ae} (h:Sc false s L) (hd:hdO false L):aX s=false:=by
 obtain ⟨t,q,rfl,hb,_⟩:=hd
 cases s with
 | nil=>cases h with | tok _ _ ht _=>cases ht
 | cons b r=>
  show (ib b==32)=false
  rw [beq_eq_false_iff_ne]
  intro e
  obtain rfl:=LG e
  have:=E1 (eL h) rfl t q rfl
  rw [hb] at this;cases this
theorem E3 {r:List UInt8} {L:List ae} (hr:okR r) (h:Sc false r L):aX r=true\/a6 5 L=none:=by
 cases r with
 | nil=>exact .inl rfl
 | cons b q=>
  have key:cu (ib b)≠0->cu (ib b)≠5->a6 5 L=none:=by
   intro h1 h2
   obtain ⟨L',rfl,_⟩:=eZ h1 h
   simp [a6,h2]
  rcases hr b q rfl with e | e | e | e | e
  ·exact .inl (by simp [aX,e])
  all_goals exact .inr (key (by rw [e];decide) (by rw [e];decide))
theorem RT.ofBin {m:Nat} {x:ab} {bl:Bool} {L Lr:List ae} (h5:m<=5) (hd:hdO bl L)
  (H:yM Lr->(∀ j,m<j->j<=5->inf j Lr=none)->∀ res,PR (.lp m x) Lr res->PR (.ex m) L res):RT (m:Int) x bl L Lr:=by
 refine ⟨hd,fun h=>by omega,fun h=>by omega,fun n h1 _ hn hs hj res hr=>?_⟩
 have h2:=H hs fun j a b=>hj j (by omega) b
 by_cases e:n=m
 ·subst e;exact h2 res hr
 ·have h3:=h2 (x,Lr) (PR.stop (hj m (by omega) h5))
  exact PR.exn (by omega) (PR.down (fun j a b=>hj j (by omega) b) m (by omega) (by omega) h3) hr
theorem Is : ∀ (ks:List ab),(∀ y∈ks,RTo y)->ks≠[]->∀ (bl:Bool) (r:List UInt8) (L:List ae) (acc:List ab),Sc bl (Lib.join (ks.map ab.text) [44]++41:: r) L ->
  ∃ Lr,Sc false r Lr/\a6 6 L=none/\PR (.ar acc) L (⟨0,0,[],acc++ks⟩,Lr):=by
 have hd6:∀ {bl:Bool} {L:List ae},hdO bl L->a6 6 L=none:=by
  rintro bl L ⟨t,q,rfl,_,h⟩
  have:t.fKind≠6:=by omega
  simp [a6,this]
 intro ks
 induction ks with
 | nil=>intro _ h;exact absurd rfl h
 | cons y ks ih=>
  intro hy _ bl r L acc h
  cases ks with
  | nil=>
   have e:Lib.join ([y].map ab.text) [44]=y.text:=by simp [Lib.join]
   rw [e] at h
   obtain ⟨L1,h1,h2⟩:=hy y (by simp) bl _ L (Am r) h
   obtain ⟨Lr,rfl,h3⟩:=eZ (b:=41) (by decide) h1
   have em:cu (ib 41)=6:=by decide
   rw [em] at h2
   refine ⟨Lr,h3,hd6 h2.hd,?_⟩
   refine PR.mk2 (h2.fin (n:=1) (by omega) (by omega) (cv _).1 (kr (by simp)) fun j _ _=>uw (.inl rfl) j) fun f e=>?_
   rw [pP,e]
   simp [a6]
  | cons z ks=>
   have e:Lib.join ((y:: z:: ks).map ab.text) [44]++41:: r=y.text++44:: (Lib.join ((z:: ks).map ab.text) [44]++41:: r):=by simp [Lib.join]
   rw [e] at h
   obtain ⟨L1,h1,h2⟩:=hy y (by simp) bl _ L (EY _) h
   obtain ⟨L2,rfl,h3⟩:=eZ (b:=44) (by decide) h1
   have em:cu (ib 44)=9:=by decide
   rw [em] at h2
   obtain ⟨Lr,h4,_,h5⟩:=ih (fun u hu=>hy u (by simp only [List.mem_cons] at hu ⊢;exact .inr hu)) (by simp) false r L2 (acc++[y]) h3
   refine ⟨Lr,h4,hd6 h2.hd,?_⟩
   refine PR.mk3 (h2.fin (n:=1) (by omega) (by omega) (cv _).1 (kr (by simp)) fun j _ _=>uw (.inr (.inr (.inl rfl))) j) h5 fun f e1 e2=>?_
   rw [pP,e1]
   simp only [Option.bind_some,a6,if_true]
   rw [e2];simp
theorem uy {k:Int} (h:k=6\/(8<=k/\k<=18)):∃ s:UInt8,uu k=[s]/\nO (ib s)=true:=by
 have:k=6\/k=8\/k=9\/k=10\/k=11\/k=12\/k=13\/k=14\/k=15\/k=16\/k=17\/k=18:=by omega
 rcases this with rfl | rfl | rfl | rfl | rfl | rfl | rfl | rfl | rfl | rfl | rfl | rfl<;>exact ⟨_,rfl,by decide⟩
set_option maxHeartbeats 1000000 in
theorem yN : ∀ x:ab,x.good=true->RTo x:=by
 intro x
 induction x using ab.ind with
 | h x ih=>
  intro hg
  rw [x.good_eq,Bool.and_eq_true,List.all_eq_true] at hg
  obtain ⟨hnode,hk⟩:=hg
  have ih:=fun y hy=>ih y hy (hk y hy)
  rcases xz hnode with ⟨t,rfl,h1⟩ | ⟨n,rfl,h1,h2⟩ | ⟨t,rfl,h1⟩ | ⟨k,t,rfl,h0,h1⟩ | ⟨t,ks,rfl,h1,h2⟩ | ⟨k,a,rfl,h1⟩ | ⟨a,b,rfl⟩ | ⟨k,a,b,rfl,h1,h2⟩ | ⟨k,a,b,rfl,h1,h2⟩
  ·intro bl r L hr h
   have e:(⟨1,0,t,[]⟩:ab).text=qH t:=by simp [ab.text,eY]
   rw [e] at h
   obtain ⟨L',rfl,h3⟩:=GD h1 h
   exact ⟨L',h3,RT.of7 ⟨_,_,rfl,rfl,.inl (by simp)⟩ fun res hr=>PR.el (by simp) (PR.mk1 fun f=>by rw [pP];simp) hr⟩
  ·intro bl r L hr h
   have e:(⟨2,n,[],[]⟩:ab).text=Lib.itoa n:=by simp [ab.text,eY]
   rw [e] at h
   obtain ⟨L',rfl,h3⟩:=Js h1 h2 hr.dg h
   exact ⟨L',h3,RT.of7 ⟨_,_,rfl,rfl,.inl (by simp)⟩ fun res hr=>PR.el (by simp) (PR.mk1 fun f=>by rw [pP];simp) hr⟩
  ·intro bl r L hr h
   have e:(⟨3,0,t,[]⟩:ab).text=t:=by simp [ab.text,eY]
   rw [e] at h
   obtain ⟨L',rfl,h3⟩:=sG h1 hr.nm h
   have hst:=E3 hr h3
   refine ⟨L',h3,RT.of7 ⟨_,_,rfl,rfl,.inl (by simp)⟩ fun res hr=>PR.el (by simp) (PR.mk1 fun f=>?_) hr⟩
   rw [pP]
   rcases hst with e | e
   ·simp [e]
   ·cases aX r<;>simp [e]
  ·intro bl r L hr h
   obtain ⟨s,hs,ho⟩:=uy (k:=k) (by omega)
   have e:(⟨k,0,t,[]⟩:ab).text++r=s:: (t++r):=by
    rcases h0 with rfl | rfl | rfl<;>simp [ab.text,eY,hs]
   rw [e] at h
   obtain ⟨L1,rfl,h3⟩:=Al ho h
   have hnb:aX (t++r)=false:=by
    cases t with
    | nil=>simp [bi] at h1
    | cons b q=>
     simp only [bi,Bool.and_eq_true] at h1
     have:=(Ak h1.1.2).1
     simpa [aX] using this
   obtain ⟨L',rfl,h4⟩:=sG h1 hr.nm h3
   have hpre:uc [s]=true/\IU [s]=k/\¬ [s]=[45]/\¬ [s]=[36]:=by
    rw [<-hs]
    rcases h0 with rfl | rfl | rfl<;>decide
   have hl:aI k=6:=by rcases h0 with rfl | rfl | rfl<;>decide
   refine ⟨L',h4,?_⟩
   rw [show aI (ab.fKind ⟨k,0,t,[]⟩)=6 from hl]
   refine RT.of6 ⟨_,_,rfl,rfl,.inr ⟨rfl,hnb,hpre.1⟩⟩ (fun h=>by omega) fun _=>PR.mk1 fun f=>?_
   rw [pP]
   simp only [if_true]
   rw [show aX (t++r)=false from hnb]
   simp only [Bool.false_eq_true,if_false]
   rw [if_neg hpre.2.2.1,if_neg hpre.2.2.2,if_pos hpre.1]
   simp [eP,hpre.2.1]
  ·intro bl r L hr h
   have e:(⟨4,0,t,ks⟩:ab).text++r=t++40:: (Lib.join (ks.map ab.text) [44]++41:: r):=by
    rw [ab.text_eq];simp [eY,Function.comp_def]
   rw [e] at h
   obtain ⟨L1,rfl,h3⟩:=sG h2 (fun b q e=>by cases e;decide) h
   obtain ⟨L2,rfl,h4⟩:=eZ (b:=40) (by decide) h3
   have em:cu (ib 40)=5:=by decide
   rw [em]
   have hnb:aX (40:: (Lib.join (ks.map ab.text) [44]++41:: r))=false:=by simp [aX];decide
   rw [hnb]
   by_cases hks:ks=[]
   ·subst hks
    have e2:Lib.join (([]:List ab).map ab.text) [44]++41:: r=41:: r:=by simp [Lib.join]
    rw [e2] at h4
    obtain ⟨Lr,rfl,h5⟩:=eZ (b:=41) (by decide) h4
    have em:cu (ib 41)=6:=by decide
    rw [em]
    refine ⟨Lr,h5,RT.of7 ⟨_,_,rfl,rfl,.inl (by simp)⟩ fun res hr=>PR.el (by simp) (PR.mk1 fun f=>?_) hr⟩
    rw [pP];simp [a6]
   ·obtain ⟨Lr,h5,h6,h7⟩:=Is ks ih hks _ r L2 [] h4
    refine ⟨Lr,h5,RT.of7 ⟨_,_,rfl,rfl,.inl (by simp)⟩ fun res hr=>PR.el (by simp) (PR.mk2 h7 fun f e=>?_) hr⟩
    rw [List.nil_append] at e
    rw [pP]
    have e5:a6 5 (⟨5,0,[],false,aX (Lib.join (ks.map ab.text) [44]++41:: r)⟩:: L2)=some L2:=by simp [a6]
    simp [e5,h6,e]
  ·intro bl r L hr h
   obtain ⟨s,hs,ho⟩:=uy (k:=k) (by omega)
   have e:(⟨k,0,[],[a]⟩:ab).text++r=s:: (qU 6 (aI a.fKind,a.text)++r):=by
    rw [ab.text_eq];rcases h1 with rfl | rfl<;>simp [eY,hs]
   rw [e] at h
   obtain ⟨L1,rfl,h3⟩:=Al ho h
   obtain ⟨Lr,h4,h5⟩:=qQ (ih a (by simp)) 6 hr h3
   have hnb:=E2 h3 h5.hd
   rw [hnb]
   have hl:aI k=6:=by rcases h1 with rfl | rfl<;>decide
   refine ⟨Lr,h4,?_⟩
   rw [show aI (ab.fKind ⟨k,0,[],[a]⟩)=6 from hl]
   have hpre:uc [s]=true:=by rw [<-hs];rcases h1 with rfl | rfl<;>decide
   refine RT.of6 ⟨_,_,rfl,rfl,.inr ⟨rfl,rfl,hpre⟩⟩ (fun h=>by omega) fun hst=>PR.mk2 (h5.e6 (by split<;>omega) hst) fun f e9=>?_
   rw [pP]
   simp only [if_true,Bool.false_eq_true,if_false]
   rw [<-hs]
   rcases h1 with rfl | rfl
   ·rw [if_pos (by decide),e9];rfl
   ·rw [if_neg (by decide),if_pos (by decide),e9];rfl
  ·intro bl r L hr h
   have e:(⟨5,0,[],[a,b]⟩:ab).text++r=qU 7 (aI a.fKind,a.text)++60:: (b.text++62:: r):=by
    rw [ab.text_eq];simp [eY]
   rw [e] at h
   obtain ⟨L1,h3,h4⟩:=qQ (ih a (by simp)) 7 (GE _) h
   obtain ⟨L2,rfl,h5⟩:=eZ (b:=60) (by decide) h3
   have em:cu (ib 60)=7:=by decide
   rw [em] at h4
   obtain ⟨L3,h6,h7⟩:=ih b (by simp) false _ L2 (EZ r) h5
   obtain ⟨Lr,rfl,h8⟩:=eZ (b:=62) (by decide) h6
   have em:cu (ib 62)=8:=by decide
   rw [em] at h7
   refine ⟨Lr,h8,RT.of7 h4.hd fun res hres=>h4.e7 ?_ res ?_⟩
   ·have:=cv a.fKind
    split<;>omega
   ·refine PR.mk3 (h7.fin (n:=1) (by omega) (by omega) (cv _).1 (kr (by simp)) fun j _ _=>uw (.inr (.inl rfl)) j) hres fun f e1 e2=>?_
    rw [pP,if_pos ⟨rfl,rfl⟩,e1]
    simp [a6,e2]
  ·intro bl r L hr h
   by_cases h7:k=7
   ·subst h7
    have e:(⟨7,0,[],[a,b]⟩:ab).text++r=qU 2 (aI a.fKind,a.text)++32:: (qU 3 (aI b.fKind,b.text)++r):=by
     rw [ab.text_eq];simp [eY]
    rw [e] at h
    obtain ⟨L1,h3,h4⟩:=qQ (ih a (by simp)) 2 (nX _) h
    obtain ⟨Lr,h5,h6⟩:=qQ (ih b (by simp)) 3 hr (eL h3)
    obtain ⟨t,q,rfl,hb,hkd⟩:=h6.hd
    have hO:FB t=true:=by
     unfold FB
     rw [hb]
     rcases hkd with (h | h | h | h) | ⟨h,h',h''⟩
     ·rw [h];rfl
     ·rw [h];rfl
     ·rw [h];rfl
     ·rw [h];rfl
     ·rw [h,h',h''];rfl
    have hI:mO t=false:=by
     unfold mO
     rcases hkd with (h | h | h | h) | ⟨h,h',h''⟩
     ·rw [h];rfl
     ·rw [h];rfl
     ·rw [h];rfl
     ·rw [h];rfl
     ·rw [h,h'];simp
    refine ⟨Lr,h5,RT.ofBin (m:=2) (by decide) h4.hd fun hst hj res hres=>?_⟩
    refine h4.en 2 (by decide) (by decide) ?_ ?_ ?_ res ?_
    ·have:=cv a.fKind
     split<;>omega
    ·intro t' q' e';cases e';rw [hb];simp
    ·intro j hj1 hj2
     simp only [inf,hI]
     rw [if_neg (by omega)];simp
    ·refine PR.go (by decide) (k:=7) (r:=t:: q) (by simp only [inf];rw [if_pos trivial,if_pos hO]) (h6.fin (n:=3) (by decide) (by decide) ?_ hst fun j a b=>hj j (by omega) b) hres
     have:=cv b.fKind
     split<;>omega
   ·obtain ⟨s,hs,ho⟩:=uy (k:=k) (by omega)
    obtain ⟨m,hm,m1,m4⟩:∃ m:Nat,aI k=m/\1<=m/\m<=4:=by
     have:k=6\/k=8\/k=9\/k=10\/k=11:=by omega
     rcases this with rfl | rfl | rfl | rfl | rfl
     ·exact ⟨1,by decide⟩
     ·exact ⟨3,by decide⟩
     ·exact ⟨3,by decide⟩
     ·exact ⟨4,by decide⟩
     ·exact ⟨4,by decide⟩
    have e:(⟨k,0,[],[a,b]⟩:ab).text++r=qU m (aI a.fKind,a.text)++32:: s:: 32:: (qU (m+1) (aI b.fKind,b.text)++r):=by
     rw [ab.text_eq]
     have:k=6\/k=8\/k=9\/k=10\/k=11:=by omega
     rw [<-hm]
     rcases this with rfl | rfl | rfl | rfl | rfl<;>simp [eY,hs]
    rw [e] at h
    obtain ⟨L1,h3,h4⟩:=qQ (ih a (by simp)) m (nX _) h
    obtain ⟨L2,rfl,h5⟩:=Al ho (eL h3)
    obtain ⟨Lr,h6,h8⟩:=qQ (ih b (by simp)) (m+1) hr (eL h5)
    have hbl:aX (32:: (qU (m+1) (aI b.fKind,b.text)++r))=true:=by simp [aX];decide
    rw [hbl] at h4
    have hop:=fun j=>E0 (n:=j) (k:=k) hs.symm (by omega) (by omega) h7
    refine ⟨Lr,h6,?_⟩
    rw [show aI (ab.fKind ⟨k,0,[],[a,b]⟩)=(m:Int) from hm]
    refine RT.ofBin (by omega) h4.hd fun hst hj res hres=>?_
    have hk0:opK m [s]=k:=by rw [hop,if_pos hm.symm]
    have m2:m≠2:=by
     intro e;subst e
     have:k=6\/k=8\/k=9\/k=10\/k=11:=by omega
     rcases this with rfl | rfl | rfl | rfl | rfl<;>revert hm<;>decide
    refine h4.en m m1 (by omega) ?_ (kr (by simp)) ?_ res ?_
    ·have:=cv a.fKind
     split<;>omega
    ·intro j hj1 hj2
     exact Ck (a:=true) (by rw [hop,if_neg (by omega)])
    ·refine PR.go (by omega) (k:=k) (r:=L2) (by rw [Hl (by omega) m2,hk0]) (h8.fin (n:=m+1) (by omega) (by omega) ?_ hst fun j a b=>hj j (by omega) b) hres
     have:=cv b.fKind
     split<;>omega
  ·intro bl r L hr h
   obtain ⟨s,hs,ho⟩:=uy (k:=k) (by omega)
   have hm:aI k=5:=by rcases h1 with rfl | rfl<;>decide
   obtain ⟨t,rfl,hn⟩:∃ t,b=⟨3,0,t,[]⟩/\bi t=true:=by
    have hb:=hk b (by simp)
    rw [b.good_eq,Bool.and_eq_true] at hb
    rcases xz hb.1 with ⟨t,rfl,_⟩ | ⟨n,rfl,_,_⟩ | ⟨t,rfl,h1⟩ | ⟨k,t,rfl,h0,_⟩ | ⟨t,ks,rfl,_,_⟩ | ⟨k,a,rfl,h0⟩ | ⟨a,b,rfl⟩ | ⟨k,a,b,rfl,h0,_⟩ | ⟨k,a,b,rfl,h0,_⟩
    ·simp at h2
    ·simp at h2
    ·exact ⟨t,rfl,h1⟩
    all_goals (simp only at h2;omega)
   have e:(⟨k,0,[],[a,⟨3,0,t,[]⟩]⟩:ab).text++r=qU 5 (aI a.fKind,a.text)++32:: s:: 32:: (t++r):=by
    rw [ab.text_eq]
    have e3:(⟨3,0,t,[]⟩:ab).text=t:=by simp [ab.text,eY]
    have e7:aI 3=7:=by decide
    rcases h1 with rfl | rfl<;>simp [eY,hs,e3,e7,hm,qU]
   rw [e] at h
   obtain ⟨L1,h3,h4⟩:=qQ (ih a (by simp)) 5 (nX _) h
   obtain ⟨L2,rfl,h5⟩:=Al ho (eL h3)
   obtain ⟨Lr,rfl,h6⟩:=sG hn hr.nm (eL h5)
   have hbl:aX (32:: (t++r))=true:=by simp [aX];decide
   rw [hbl] at h4
   have hop:=fun j=>E0 (n:=j) (k:=k) hs.symm (by omega) (by omega) (by omega)
   refine ⟨Lr,h6,?_⟩
   rw [show aI (ab.fKind ⟨k,0,[],[a,⟨3,0,t,[]⟩]⟩)=((5:Nat):Int) from hm]
   refine RT.ofBin (by omega) h4.hd fun hst hj res hres=>?_
   have hk0:opK 5 [s]=k:=by rw [hop];exact if_pos hm.symm
   refine h4.en 5 (by omega) (by omega) ?_ (kr (by simp)) ?_ res ?_
   ·have:=cv a.fKind
    split<;>omega
   ·intro j hj1 hj2;omega
   ·exact PR.go5 (k:=k) (r:=⟨1,0,t,true,aX r⟩:: Lr) (by rw [Hl (by omega) (by decide),hk0]) (by simp [eP]) hres
end Go.Dv.U

namespace Go.Dv.U
open Go Go.Dv Go.Proofs
def Md.w : Md->Nat
 | .lp _ _=>0
 | .ix _=>0
 | _=>1
theorem Bi {n:Nat} {ts r:List ae} {k:Int} (h:inf n ts=some (k,r)):r.length<=ts.length:=by
 cases ts with
 | nil=>cases h
 | cons t q=>
  simp only [inf] at h
  split at h
  ·split at h
   ·cases h;exact Nat.le_refl _
   ·cases h
  ·split at h
   ·cases h;simp
   ·cases h
theorem dd {k:Int} {ts r:List ae} (h:a6 k ts=some r):ts.length=r.length+1:=by
 cases ts with
 | nil=>cases h
 | cons t q=>
  simp only [a6] at h
  split at h
  ·cases h;rfl
  ·cases h
theorem oy {ts r:List ae} {s:List UInt8} (h:eP ts=some (s,r)):ts.length=r.length+1:=by
 cases ts with
 | nil=>cases h
 | cons t q=>
  simp only [eP] at h
  split at h
  ·cases h;rfl
  ·cases h
theorem E4 : ∀ (f:Nat) (md:Md) (ts:List ae) (e:ab) (r:List ae),pP f md ts=some (e,r)->r.length+md.w<=ts.length:=by
 intro f
 induction f with
 | zero=>intro md ts e r h;cases h
 | succ f ih=>
  intro md ts e r h
  have bnd:∀ {α:Type} {o:Option α} {g:α->Option (ab×List ae)},o.bind g=some (e,r)->∃ a,o=some a/\g a=some (e,r):=fun h=>Option.bind_eq_some_iff.1 h
  cases md with
  | ex n=>
   rw [pP] at h
   split at h
   ·exact ih .el ts e r h
   ·obtain ⟨⟨l,q⟩,h1,h2⟩:=bnd h
    have:=ih _ _ _ _ h1
    have:=ih _ _ _ _ h2
    simp only [Md.w] at *;omega
  | lp n l=>
   rw [pP] at h
   split at h
   ·cases h;exact Nat.le_refl _
   ·rename_i k q hi
    have hl:=Bi hi
    split at h
    ·obtain ⟨⟨s,q2⟩,h1,h2⟩:=bnd h
     have:=oy h1
     have:=ih _ _ _ _ h2
     simp only [Md.w] at *;omega
    ·obtain ⟨⟨y,q2⟩,h1,h2⟩:=bnd h
     have:=ih _ _ _ _ h1
     have:=ih _ _ _ _ h2
     simp only [Md.w] at *;omega
  | el=>
   cases ts with
   | nil=>cases h
   | cons t q=>
    rw [pP] at h
    split at h
    ·split at h
     ·cases h
     split at h
     ·obtain ⟨⟨y,q2⟩,h1,h2⟩:=Option.map_eq_some_iff.1 h
      have:=ih _ _ _ _ h1
      cases h2
      simp only [Md.w,List.length_cons] at *;omega
     split at h
     ·obtain ⟨⟨y,q2⟩,h1,h2⟩:=Option.map_eq_some_iff.1 h
      have:=ih _ _ _ _ h1
      cases h2
      simp only [Md.w,List.length_cons] at *;omega
     split at h
     ·obtain ⟨⟨y,q2⟩,h1,h2⟩:=Option.map_eq_some_iff.1 h
      have:=oy h1
      cases h2
      simp only [Md.w,List.length_cons] at *;omega
     ·cases h
    ·obtain ⟨⟨y,q2⟩,h1,h2⟩:=bnd h
     have:=ih _ _ _ _ h1
     have:=ih _ _ _ _ h2
     simp only [Md.w,List.length_cons] at *;omega
  | pr =>
   cases ts with
   | nil=>cases h
   | cons t q=>
    rw [pP] at h
    split at h
    ·cases h;simp [Md.w]
    split at h
    ·cases h;simp [Md.w]
    split at h
    ·split at h
     ·rename_i r2 _ h5
      have l5:=dd h5
      split at h
      ·rename_i r3 h6
       have l6:=dd h6
       cases h
       simp only [Md.w,List.length_cons] at *;omega
      ·obtain ⟨⟨y,q2⟩,h1,h2⟩:=Option.map_eq_some_iff.1 h
       have:=ih _ _ _ _ h1
       cases h2
       simp only [Md.w,List.length_cons] at *;omega
     ·cases h;simp [Md.w]
    split at h
    ·obtain ⟨⟨y,q2⟩,h1,h2⟩:=bnd h
     obtain ⟨q3,h3,h4⟩:=Option.map_eq_some_iff.1 h2
     have:=ih _ _ _ _ h1
     have:=dd h3
     cases h4
     simp only [Md.w,List.length_cons] at *;omega
    ·cases h
  | ix x=>
   cases ts with
   | nil=>cases h;exact Nat.le_refl _
   | cons t q=>
    rw [pP] at h
    split at h
    ·obtain ⟨⟨y,q2⟩,h1,h2⟩:=bnd h
     obtain ⟨q3,h3,h4⟩:=bnd h2
     have:=ih _ _ _ _ h1
     have:=dd h3
     have:=ih _ _ _ _ h4
     simp only [Md.w,List.length_cons] at *;omega
    ·cases h;exact Nat.le_refl _
  | ar acc=>
   rw [pP] at h
   obtain ⟨⟨y,q2⟩,h1,h2⟩:=bnd h
   have:=ih _ _ _ _ h1
   split at h2
   ·rename_i q3 h3
    have:=dd h3
    have:=ih _ _ _ _ h2
    simp only [Md.w] at *;omega
   ·obtain ⟨q3,h3,h4⟩:=Option.map_eq_some_iff.1 h2
    have:=dd h3
    cases h4
    simp only [Md.w] at *;omega
def Md.rk : Md->Nat
 | .ex n=>10-min n 6
 | .lp _ _=>12
 | .el=>3
 | .pr=>2
 | .ix _=>1
 | .ar _=>12
def Md.need (md:Md) (ts:List ae):Nat:=16*ts.length+md.rk
end Go.Dv.U

namespace Go.Dv.U
open Go Go.Dv Go.Proofs
def mg (ts:List ae):Option (List UInt8×List ae):=(a6 5 ts).bind fun r=>(eP r).bind fun p=>(a6 6 p.2).map fun r2=>(p.1,r2)
def pTg : Nat->List UInt8->List UInt8->Bool->List ae->Option (az×List ae)
 | 0,_,_,_,_=>none
 | f+1,s,x,ok,ts=>match eP ts with
  | none=>if ok=true then some (⟨[],s,x⟩,ts) else none
  | some (w,r)=>if w=[83]/\s=[] then (mg r).bind fun p=>pTg f p.1 x true p.2 else if w=[70]/\x=[] then (mg r).bind fun p=>pTg f s p.1 true p.2 else none
def pGo (f:Nat) (ts:List ae):Option (az×List ae):=match a6 5 ts with
 | some _=>(mg ts).map fun p=>(⟨p.1,[],[]⟩,p.2)
 | none=>pTg f [] [] false ts
def jM : List ae->Option (List ae)
 | []=>none
 | t:: r=>if mO t=true/\t.fText=[61] then some r else none
def gz : List ae->Bool
 | []=>true
 | t:: _=>t.fKind==10
theorem Ao {bl:Bool} {s r:List UInt8} {L:List ae} (hn:bi s=true) (h:Sc bl (40:: (s++41:: r)) L):∃ Lr,Sc false r Lr/\mg L=some (s,Lr):=by
 obtain ⟨L1,rfl,h1⟩:=eZ (b:=40) (by decide) h
 obtain ⟨L2,rfl,h2⟩:=sG hn (fun b q e=>by cases e;decide) h1
 obtain ⟨L3,rfl,h3⟩:=eZ (b:=41) (by decide) h2
 refine ⟨L3,h3,?_⟩
 have e1:cu (ib 40)=5:=by decide
 have e2:cu (ib 41)=6:=by decide
 simp [mg,a6,eP,e1,e2]
theorem xA {bl:Bool} {L:List ae} (h:Sc bl [] L):L=[]:=by
 cases h with
 | nil=>rfl
 | tok _ _ ht _=>cases ht
theorem KJ {g:az} (hg:gOk g=true) (hz:eK g=false) {bl:Bool} {L:List ae} (h:Sc bl (cV g) L):∃ a q,L=⟨10,0,[],bl,a⟩:: q/\∀ f,3<=f->pGo f q=some (g,[]):=by
  obtain ⟨A,S,F⟩:=g
  simp only [gOk,Bool.and_eq_true,Bool.or_eq_true,beq_iff_eq,nmB] at hg
  obtain ⟨h1,⟨hA,hS⟩,hF⟩:=hg
  have e58:cu (ib 58)=10:=by decide
  have e40:cu (ib 40)=5:=by decide
  have nS:bi [83]=true:=by decide
  have nF:bi [70]=true:=by decide
  by_cases hAn:A=[]
  · subst hAn
    have key:∀ (c:UInt8),bi [c]=true->∀ (s r:List UInt8),s=[]\/bi s=true->s≠[]->∀ {bl:Bool} {L:List ae},Sc bl (jc c s++r) L->∃ a q Lr,L=⟨1,0,[c],bl,a⟩:: q/\mg q=some (s,Lr)/\Sc false r Lr:=by
      intro c hc s r hs hne bl L h
      have hs:bi s=true:=hs.resolve_left hne
      rw [fD hne] at h
      have e:[c,40]++s++[41]++r=[c]++40:: (s++41:: r):=by simp
      rw [e] at h
      obtain ⟨L1,rfl,h2⟩:=sG hc (fun b q e=>by cases e;decide) h
      obtain ⟨Lr,h3,h4⟩:=Ao hs h2
      exact ⟨_,_,Lr,rfl,h4,h3⟩
    have hx:∀ {k:Int} {a b:Bool} {t:List UInt8} {q:List ae},a6 5 (⟨1,k,t,a,b⟩:: q)=none:=by intro k a b t q;simp [a6]
    by_cases hSn:S=[]
    · subst hSn
      by_cases hFn:F=[]
      · subst hFn;simp [eK] at hz
      · have e:cV ⟨[],[],F⟩=58:: (jc 70 F++[]):=by
          simp [cV,jC,fD hFn]
        rw [e] at h
        obtain ⟨L1,rfl,h2⟩:=eZ (b:=58) (by decide) h
        obtain ⟨a,q,Lr,rfl,h3,h4⟩:=key 70 nF F [] hF hFn h2
        have:=xA h4
        subst this
        refine ⟨_,_,by rw [e58],fun f hf=>?_⟩
        obtain ⟨f,rfl⟩:∃ g,f=g+2:=⟨f-2,by omega⟩
        simp [pGo,hx,pTg,eP,h3]
    · by_cases hFn:F=[]
      · subst hFn
        have e:cV ⟨[],S,[]⟩=58:: (jc 83 S++[]):=by
          simp [cV,jC,fD hSn]
        rw [e] at h
        obtain ⟨L1,rfl,h2⟩:=eZ (b:=58) (by decide) h
        obtain ⟨a,q,Lr,rfl,h3,h4⟩:=key 83 nS S [] hS hSn h2
        have:=xA h4
        subst this
        refine ⟨_,_,by rw [e58],fun f hf=>?_⟩
        obtain ⟨f,rfl⟩:∃ g,f=g+2:=⟨f-2,by omega⟩
        simp [pGo,hx,pTg,eP,h3]
      · have e:cV ⟨[],S,F⟩=58:: (jc 83 S++(jc 70 F++[])):=by
          simp [cV,fD hSn,fD hFn]
        rw [e] at h
        obtain ⟨L1,rfl,h2⟩:=eZ (b:=58) (by decide) h
        obtain ⟨a,q,Lr,rfl,h3,h4⟩:=key 83 nS S _ hS hSn h2
        obtain ⟨a',q',Lr',rfl,h5,h6⟩:=key 70 nF F [] hF hFn h4
        have:=xA h6
        subst this
        refine ⟨_,_,by rw [e58],fun f hf=>?_⟩
        obtain ⟨f,rfl⟩:∃ g,f=g+3:=⟨f-3,by omega⟩
        simp [pGo,hx,pTg,eP,h3,h5]
  · have h1:=h1.resolve_left hAn
    obtain ⟨rfl,rfl⟩:=h1
    have hA:=hA.resolve_left hAn
    have e:cV ⟨A,[],[]⟩=58:: 40:: (A++41:: []):=by simp [cV,hAn]
    rw [e] at h
    obtain ⟨L1,rfl,h2⟩:=eZ (b:=58) (by decide) h
    obtain ⟨Lr,h3,h4⟩:=Ao hA h2
    have:=xA h3
    subst this
    refine ⟨_,_,by rw [e58],fun f hf=>?_⟩
    obtain ⟨q,rfl,_⟩:=eZ (b:=40) (by decide) h2
    rw [e40] at h4 ⊢
    simp only [pGo,a6,if_true,h4];rfl
end Go.Dv.U

namespace Go.Dv.U
open Go Go.Dv Go.Proofs
def C8 (ts:List ae):Prop:=yM ts/\∀ j,inf j ts=none
structure StR (s:aa) (L L1 L2 L3:List ae):Prop where
 s1:s.fHasSubject=true->gz L=false/\PR .el L (s.fSubject,L1)
 s0:s.fHasSubject=false->gz L=true/\L1=L/\L2=L/\L3=L
 p1:s.fHasPattern=true->gz L1=false/\jM L1=none/\(∀ t q,L1=t:: q->t.fBefore=true)/\PR (.ex 1) L1 (s.fPattern,L2)
 p0:s.fHasPattern=false->L2=L1/\(gz L1=true\/∃ q,jM L1=some q)
 r1:s.fHasReplace=true->∃ q,jM L2=some q/\gz q=false/\PR (.ex 1) q (s.fReplace,L3)
 r0:s.fHasReplace=false->jM L2=none/\L3=L2
 g0:eK s.fGoto=true->L3=[]
 g1:eK s.fGoto=false->∃ t q,L3=t:: q/\t.fKind=10/\∀ f,3<=f->pGo f q=some (s.fGoto,[])
theorem oz {x:ab} (h:x.valid=true):x.good=true:=by
 unfold ab.valid at h
 simp only [Bool.and_eq_true] at h
 exact h.1
theorem E5 : C8 []:=⟨fun t r e=>(by cases e),fun j=>rfl⟩
theorem Bj {a b:Bool} {q:List ae}:C8 (⟨10,0,[],a,b⟩:: q):=by
 refine ⟨kr (by simp),fun j=>?_⟩
 simp only [inf,FB,mO]
 cases a<;>simp
theorem E6 {q:List ae}:C8 (⟨4,0,[61],true,true⟩:: q):=by
 refine ⟨kr (by simp),fun j=>Ck (a:=true) ?_⟩
 simp [opK]
theorem yO {bl:Bool} {L:List ae} (h:hdO bl L):gz L=false/\jM L=none/\(∀ t q,L=t:: q->t.fBefore=bl):=by
  obtain ⟨t,q,rfl,hb,hk⟩:=h
  refine ⟨?_,?_,fun t q e=>(by cases e;exact hb)⟩
  · show (t.fKind==10)=false
    rw [beq_eq_false_iff_ne];omega
  · have:mO t=false:=by
      unfold mO
      rcases hk with (h | h | h | h) | ⟨h,h',_⟩
      · rw [h];rfl
      · rw [h];rfl
      · rw [h];rfl
      · rw [h];rfl
      · rw [h,h'];simp
    simp [jM,this]
theorem GF {L:List ae} (h:hdO true L):yM L:=by
 obtain ⟨t,q,rfl,hb,hk⟩:=h
 intro t' q' e
 cases e
 rw [hb];simp
theorem Hm {s:aa} (hs:gm s=true) {L:List ae} (h:Sc true (lr s) L):∃ L1 L2 L3,StR s L L1 L2 L3:=by
 obtain ⟨_,hg,q1,q2,q3⟩:=fK hs
 -- the goto
 have G:∀ {bl:Bool} {L:List ae},Sc bl (if cV s.fGoto=[] then [] else [32]++cV s.fGoto) L->(eK s.fGoto=true->L=[])/\(eK s.fGoto=false->∃ t q,L=t:: q/\t.fKind=10/\∀ f,3<=f->pGo f q=some (s.fGoto,[]))/\C8 L/\gz L=true/\jM L=none:=by
  intro bl L h
  by_cases hz:eK s.fGoto=true
  ·rw [if_pos ((nU _).2 hz)] at h
   have:=xA h
   subst this
   exact ⟨fun _=>rfl,fun h=>(by rw [hz] at h;cases h),E5,rfl,rfl⟩
  ·have hz':eK s.fGoto=false:=by simpa using hz
   rw [if_neg (fun e=>hz ((nU _).1 e))] at h
   obtain ⟨a,q,rfl,h2⟩:=KJ hg hz' (eL h)
   exact ⟨fun h=>(by rw [hz'] at h;cases h),fun _=>⟨_,q,rfl,rfl,h2⟩,Bj,rfl,rfl⟩
 have okG:okR (if cV s.fGoto=[] then [] else [32]++cV s.fGoto):=by
  split
  ·intro b q e;cases e
  ·exact nX _
 -- the replacement
 have T:∀ {bl:Bool} {L:List ae},Sc bl (t8 s) L->∃ L3,(s.fHasReplace=true->∃ q,jM L=some q/\gz q=false/\PR (.ex 1) q (s.fReplace,L3))/\(s.fHasReplace=false->jM L=none/\L3=L/\gz L=true)/\(eK s.fGoto=true->L3=[])/\(eK s.fGoto=false->∃ t q,L3=t:: q/\t.fKind=10/\∀ f,3<=f->pGo f q=some (s.fGoto,[]))/\C8 L:=by
  intro bl L h
  unfold t8 at h
  by_cases hr:s.fHasReplace=true
  ·rw [if_pos hr,List.append_assoc] at h
   have hv:s.fReplace.valid=true:=by unfold fJ at q3;rw [if_pos hr] at q3;exact q3
   obtain ⟨L1,rfl,h2⟩:=Al (b:=61) (by decide) (eL h)
   have hb:aX (32:: (s.fReplace.text++(if cV s.fGoto=[] then [] else [32]++cV s.fGoto)))=true:=by simp [aX];decide
   have hb2:aX (([32]:List UInt8).append (s.fReplace.text++(if cV s.fGoto=[] then [] else [32]++cV s.fGoto)))=true:=hb
   obtain ⟨L3,h3,h4⟩:=yN _ (oz hv) true _ L1 okG (eL h2)
   obtain ⟨g0,g1,st,_,_⟩:=G h3
   obtain ⟨e1,e2,e3⟩:=yO h4.hd
   refine ⟨L3,fun _=>⟨L1,?_,e1,h4.fin (n:=1) (by omega) (by omega) (cv _).1 st.1 fun j _ _=>st.2 j⟩,fun h=>(by rw [hr] at h;cases h),g0,g1,?_⟩
   ·have e:∀ x:Bool,x=true->jM (⟨4,0,[61],true,x⟩:: L1)=some L1:=by intro x hx;subst hx;rfl
    exact e _ hb
   ·have e:∀ x:Bool,x=true->C8 (⟨4,0,[61],true,x⟩:: L1):=by intro x hx;subst hx;exact E6
    exact e _ hb
  ·have hr':s.fHasReplace=false:=by simpa using hr
   rw [if_neg hr] at h
   obtain ⟨g0,g1,st,e1,e2⟩:=G h
   exact ⟨L,fun h=>absurd h hr,fun _=>⟨e2,rfl,e1⟩,g0,g1,st⟩
 have okT:okR (t8 s):=by
  unfold t8
  split
  ·intro b q e;cases e;left;decide
  ·exact okG
 unfold lr at h
 by_cases hsub:s.fHasSubject=true
 ·have hv:s.fSubject.valid=true:=by unfold fJ at q1;rw [if_pos hsub] at q1;exact q1
  rw [if_pos hsub,List.append_assoc,List.append_assoc] at h
  by_cases hp:s.fHasPattern=true
  ·have hvp:s.fPattern.valid=true:=by unfold fJ at q2;rw [if_pos hp] at q2;exact q2
   rw [if_pos hp,List.append_assoc] at h
   obtain ⟨L1,h1,h2⟩:=qQ (yN _ (oz hv)) 6 (nX _) (eL h)
   obtain ⟨L2,h3,h4⟩:=yN _ (oz hvp) true _ L1 okT (eL h1)
   obtain ⟨L3,r1,r0,g0,g1,st⟩:=T h3
   obtain ⟨e1,e2,e3⟩:=yO h4.hd
   refine ⟨L1,L2,L3,⟨fun _=>⟨(yO h2.hd).1,h2.e6 (by split<;>omega) (GF h4.hd)⟩,fun h=>(by rw [hsub] at h;cases h),fun _=>⟨e1,e2,e3,h4.fin (n:=1) (by omega) (by omega) (cv _).1 st.1 fun j _ _=>st.2 j⟩,fun h=>(by rw [hp] at h;cases h),r1,fun h=>⟨(r0 h).1,(r0 h).2.1⟩,g0,g1⟩⟩
  ·rw [if_neg hp,List.nil_append] at h
   obtain ⟨L1,h1,h2⟩:=qQ (yN _ (oz hv)) 6 okT (eL h)
   obtain ⟨L3,r1,r0,g0,g1,st⟩:=T h1
   refine ⟨L1,L1,L3,⟨fun _=>⟨(yO h2.hd).1,h2.e6 (by split<;>omega) st.1⟩,fun h=>(by rw [hsub] at h;cases h),fun h=>absurd h hp,fun _=>⟨rfl,?_⟩,r1,fun h=>⟨(r0 h).1,(r0 h).2.1⟩,g0,g1⟩⟩
   cases hr:s.fHasReplace with
   | true=>obtain ⟨q,hq,_⟩:=r1 hr;exact .inr ⟨q,hq⟩
   | false=>exact .inl (r0 hr).2.2
 ·have hsub':s.fHasSubject=false:=by simpa using hsub
  have hn:s.fHasPattern=false/\s.fHasReplace=false:=by
   unfold gm at hs
   simp only [hsub',Bool.and_eq_true,Bool.false_or,Bool.not_eq_true'] at hs
   exact hs.1.1.2
  rw [if_neg hsub,if_neg (by rw [hn.1];decide),List.nil_append,List.nil_append] at h
  obtain ⟨L3,r1,r0,g0,g1,st⟩:=T h
  obtain ⟨a,b,c⟩:=r0 hn.2
  subst b
  exact ⟨L3,L3,L3,⟨fun h=>absurd h hsub,fun _=>⟨c,rfl,rfl,rfl⟩,fun h=>(by rw [hn.1] at h;cases h),fun _=>⟨rfl,.inl c⟩,r1,fun _=>⟨a,rfl⟩,g0,g1⟩⟩
end Go.Dv.U

namespace Go.Dv.U
open Go Go.Dv Go.Proofs
theorem Bk : ∀ (a r cur:List UInt8),(∀ b∈a,ib b≠39/\ib b≠34/\ib b≠59)->sst 0 cur (a++r)=sst 0 (cur++a) r
 | [],r,cur,_=>by simp
 | b:: a,r,cur,h=>by
  obtain ⟨h1,h2,h3⟩:=h b (by simp)
  rw [List.cons_append,sst,if_neg (by decide),if_neg h1,if_neg h2,if_neg h3,Bk a r _ fun c hc=>h c (by simp [hc])]
  simp
theorem E7 (q:Int) (hq:q≠0):∀ (a r cur:List UInt8),(∀ b∈a,ib b≠q)->sst q cur (a++r)=sst q (cur++a) r
 | [],r,cur,_=>by simp
 | b:: a,r,cur,h=>by
  rw [List.cons_append,sst,if_pos hq,if_neg (h b (by simp)),E7 q hq a r _ fun c hc=>h c (by simp [hc])]
  simp
theorem Iu {s:List UInt8} {k m:Int} {t:List UInt8} {w:Nat} (ht:kK s=some (k,m,t,w)) (cur:List UInt8):sst 0 cur s=sst 0 (cur++s.take w) (s.drop w):=by
 have hf:∀ b:UInt8,(bU (ib b)=true\/bp (ib b)=true\/nO (ib b)=true\/cu (ib b)≠0)->ib b≠39/\ib b≠34/\ib b≠59:=ew (by decide +kernel)
 have run:(∀ b∈s.take w,bU (ib b)=true\/bp (ib b)=true\/nO (ib b)=true\/cu (ib b)≠0)->sst 0 cur s=sst 0 (cur++s.take w) (s.drop w):=by
  intro h
  have:=Bk (s.take w) (s.drop w) cur fun b hb=>hf b (h b hb)
  rwa [List.take_append_drop] at this
 cases s with
 | nil=>cases ht
 | cons b r=>
  rw [ci] at ht
  split at ht
  ·split at ht
   ·cases ht
    exact run fun c hc=>.inl (List.all_eq_true.1 (ip bU (b:: r)) c hc)
   ·cases ht
  split at ht
  ·split at ht
   ·cases ht
    exact run fun c hc=>.inr (.inl (List.all_eq_true.1 (ip bp (b:: r)) c hc))
   ·cases ht
  split at ht
  ·rename_i hq
   split at ht
   ·rename_i hc
    obtain ⟨hc1,hc2⟩:=hc
    cases ht
    generalize hn:aL (fun c=>c !=ib b) r=n at hc1 hc2
    have hall:∀ c∈r.take n,ib c≠ib b:=by
     intro c hc
     have:=List.all_eq_true.1 (ip (fun c=>c !=ib b) r) c (by rw [hn];exact hc)
     simpa using this
    have hq0:ib b≠0:=by omega
    obtain ⟨c,q,hd⟩:∃ c q,r.drop n=c:: q:=by
     cases h:r.drop n with
     | nil=>have:=congrArg List.length h;rw [List.length_drop] at this;simp at this;omega
     | cons c q=>exact ⟨c,q,rfl⟩
    have hcb:ib c=ib b:=by
     have:=qJ (p:=fun c=>c !=ib b) r c q (by rw [hn];exact hd)
     simpa using this
    have e0:sst 0 cur (b:: r)=sst (ib b) (cur++[b]) r:=by
     rw [sst,if_neg (by decide)]
     rcases hq with h | h
     ·rw [if_pos h,h]
     ·rw [if_neg (by omega),if_pos h,h]
    have e1:=E7 (ib b) hq0 (r.take n) (r.drop n) (cur++[b]) hall
    rw [List.take_append_drop] at e1
    rw [e0,e1,hd,sst,if_pos hq0,if_pos hcb]
    have e2:(b:: r).take (n+2)=b:: (r.take n++[c]):=by
     rw [List.take_succ_cons,List.take_add_one]
     have:r[n]?=some c:=by rw [<-List.head?_drop,hd];rfl
     rw [this];rfl
    have e3:(b:: r).drop (n+2)=q:=by
     rw [List.drop_succ_cons,<-List.drop_drop,hd];rfl
    rw [e2,e3];simp
   ·cases ht
  split at ht
  ·rename_i ho
   cases ht
   exact run fun c hc=>by
    have:c=b:=by simpa using hc
    subst this;exact .inr (.inr (.inl ho))
  split at ht
  ·rename_i hm
   cases ht
   exact run fun c hc=>by
    have:c=b:=by simpa using hc
    subst this;exact .inr (.inr (.inr hm))
  ·cases ht
theorem Hn {bl:Bool} {s:List UInt8} {L:List ae} (h:Sc bl s L):∀ cur,sst 0 cur s=[cur++s]:=by
 induction h with
 | nil=>intro cur;simp [sst]
 | @bl _ r _ h ih=>
  intro cur
  have e:ib 32=32:=by decide
  rw [sst,if_neg (by decide),if_neg (by rw [e];decide),if_neg (by rw [e];decide),if_neg (by rw [e];decide),ih]
  simp
 | @tok _ s _ _ _ w _ hb ht h ih=>
  intro cur
  rw [Iu ht,ih,List.append_assoc,List.take_append_drop]
end Go.Dv.U

namespace Go.Dv.U
open Go Go.Dv Go.Proofs
theorem E8 {s:List UInt8} (hb:dq s=true):∀ {bl:Bool} {L:List ae},Sc bl s L->L=[]:=by
 induction s with
 | nil=>intro bl L h;exact xA h
 | cons b r ih=>
  intro bl L h
  simp only [dq,List.all_cons,Bool.and_eq_true,beq_iff_eq] at hb
  obtain ⟨rfl,hb⟩:=hb
  exact ih hb (eL h)
theorem Cl {x:List UInt8} (h:(fu x).2.2=0):dJ x=true/\x.length<=4000/\Sc true x (fu x).1:=by
 unfold fu at h ⊢
 by_cases hc:x.length<=4000/\dJ x=true
 ·rw [if_pos hc] at h ⊢
  obtain ⟨L,h1,h2⟩:=ut x.length x true [] 0 (gP x.length x true [] 0).1 (gP x.length x true [] 0).2.1 (Nat.le_refl _) (by rw [<-h])
  rw [h2]
  exact ⟨hc.2,hc.1,h1⟩
 ·rw [if_neg hc] at h;cases h
theorem xB {s:List UInt8} (h:bi s=true):(∀ b∈s,bU (ib b)=true)/\∃ b r,s=b:: r/\iB (ib b)=true:=by
 cases s with
 | nil=>simp [bi] at h
 | cons b r=>
  simp only [bi,Bool.and_eq_true] at h
  exact ⟨List.all_eq_true.1 h.2,b,r,rfl,h.1.2⟩
theorem sH (s:aa):lr s=[]\/∃ r,lr s=32:: r:=by
 unfold lr t8
 repeat' split
 all_goals first | (right;exact ⟨_,rfl⟩) | (left;rfl)
theorem Cm {s:aa} (h:cw s=true):(dq (cd s)=false/\dJ (cd s)=true/\sst 0 [] (cd s)=[cd s])/\Io (cd s)=false/\Hi (cd s)=false:=by
  unfold cw at h
  simp only [Bool.and_eq_true,beq_iff_eq] at h
  obtain ⟨hf,_,hsc⟩:=h
  obtain ⟨p1,p2,p3⟩:=Cl hsc
  obtain ⟨hl,_⟩:=fK hf
  have hN:∀ b:UInt8,bU (ib b)=true->Gw b=true/\ib b≠39/\ib b≠34/\ib b≠59:=ew (by decide +kernel)
  have hS:∀ b:UInt8,iB (ib b)=true->(b==32)=false/\(b==42)=false/\(b==43)=false:=ew (by decide +kernel)
  by_cases he:s.fLabel=[]
  · have et : cd s=lr s:=by unfold cd;rw [he];rfl
    rw [et]
    have hb : dq (lr s)=false:=by
      cases hb:dq (lr s) with
      | false=>rfl
      | true=>
        have h0:=E8 hb p3
        obtain ⟨L1,L2,L3,H⟩:=Hm hf p3
        rw [h0] at H
        by_cases hs:s.fHasSubject=true
        · have:=(H.s1 hs).1;cases this
        · have hs':s.fHasSubject=false:=by simpa using hs
          obtain ⟨_,_,_,e3⟩:=H.s0 hs'
          have hz:eK s.fGoto=false:=by
            unfold gm at hf
            simp only [he,hs',Bool.and_eq_true,Bool.not_eq_true'] at hf
            simpa using hf.2
          obtain ⟨t,q,e4,_⟩:=H.g1 hz
          rw [e4] at e3;cases e3
    refine ⟨⟨hb,p1,by rw [Hn p3];rfl⟩,?_⟩
    rcases sH s with e | ⟨r,e⟩
    · rw [e];exact ⟨rfl,rfl⟩
    · rw [e];exact ⟨rfl,rfl⟩
  · have hn:bi s.fLabel=true:=by
      unfold nmB at hl
      simpa [he] using hl
    obtain ⟨n1,b,r,e,n2⟩:=xB hn
    have hh:=hS b n2
    refine ⟨⟨?_,?_,?_⟩,?_⟩
    · unfold cd;rw [e];simp [dq,hh.1]
    · unfold cd dJ
      rw [List.all_append,Bool.and_eq_true]
      exact ⟨List.all_eq_true.2 fun c hc=>(hN c (n1 c hc)).1,p1⟩
    · unfold cd
      rw [Bk _ _ _ fun c hc=>(hN c (n1 c hc)).2,Hn p3]
      simp
    · unfold cd;rw [e]
      exact ⟨hh.2.1,hh.2.2⟩
end Go.Dv.U

namespace Go.Dv.U
open Go Go.Dv Go.Proofs
def bx (T:List ae) (a:Nat):(List ae×Int×Unit)×Unit:=((T,(a:Int),()),())
def lu : ab:=⟨0,0,[],[]⟩
theorem sI {T:List ae} {a:Nat} (h:a<=T.length):(a=T.length/\T.drop a=[])\/∃ t,a<T.length/\idx T (a:Int)=some t/\T.drop a=t:: T.drop (a+1)/\t∈T:=by
 by_cases e:a=T.length
 ·exact .inl ⟨e,by rw [e,List.drop_length]⟩
 ·have hlt:a<T.length:=by omega
  exact .inr ⟨T[a],hlt,by rw [cp,List.getElem?_eq_getElem hlt],List.drop_eq_getElem_cons hlt,List.getElem_mem hlt⟩
theorem FC {T:List ae} {a:Nat} (hT:T.length<=1000) (h:a<T.length):w64 ((a:Int)+1)=((a+1:Nat):Int):=by rw [aR (by omega) (by omega)];omega
theorem wh {T:List ae} {a:Nat} (h:a<=T.length) (k:Int):cK T a k=some (a6 k (T.drop a)).isSome:=by
 rw [vM]
 rcases sI h with ⟨rfl,e⟩ | ⟨t,hlt,hi,e,_⟩
 ·rw [if_neg (by simp [aj]),e];rfl
 ·rw [if_pos (by simp [aj];omega),hi,e]
  simp only [Option.bind_some,a6]
  by_cases hk:t.fKind=k<;>simp [hk]
theorem kL {T:List ae} {a:Nat} (hT:T.length<=1000) (h:a<=T.length) (k:Int):
  (a6 k (T.drop a)=some (T.drop (a+1))/\a<T.length/\a7 k T a=some (true,bx T (a+1)))\/(a6 k (T.drop a)=none/\a7 k T a=some (false,bx T a)):=by
 rw [tJ,wh h]
 rcases sI h with ⟨rfl,e⟩ | ⟨t,hlt,hi,e,_⟩
 ·rw [e];exact .inr ⟨rfl,rfl⟩
 ·rw [e]
  by_cases hk:t.fKind=k
  ·refine .inl ⟨by simp [a6,hk],hlt,?_⟩
   simp [a6,hk,FC hT hlt,bx]
  ·exact .inr ⟨by simp [a6,hk],by simp [a6,hk,bx]⟩
theorem yP {T:List ae} {a:Nat} (hT:T.length<=1000) (h:a<=T.length):
    (∃ s,eP (T.drop a)=some (s,T.drop (a+1))/\a<T.length/\cF T a=some ((s,true),bx T (a+1)))\/(eP (T.drop a)=none/\cF T a=some (([],false),bx T a)):=by
  rw [tS]
  rcases kL hT h 1 with ⟨e1,hlt,e3⟩ | ⟨e1,e3⟩
  · rcases sI h with ⟨e,_⟩ | ⟨t,_,hi,e,_⟩
    · omega
    rw [e] at e1
    have hk:t.fKind=1:=by
      simp only [a6] at e1
      split at e1
      · assumption
      · cases e1
    refine .inl ⟨t.fText,by rw [e];simp [eP,hk],hlt,?_⟩
    rw [e3]
    have w:w64 (((a+1:Nat):Int)-1)=(a:Int):=by rw [aR (by omega) (by omega)];omega
    simp only [Option.bind_some,bx,Bool.not_true,Bool.false_eq_true,if_false,w,hi]
  · have hn:eP (T.drop a)=none:=by
      rcases sI h with ⟨_,e⟩ | ⟨t,_,_,e,_⟩
      · rw [e];rfl
      · rw [e] at e1 ⊢
        simp only [a6] at e1
        split at e1
        · cases e1
        · rename_i hk;simp [eP,hk]
    exact .inr ⟨hn,by rw [e3];simp [bx]⟩
theorem Jt {t:ae} (ht:tOk t) (h:t.fKind=4):∃ b,t.fText=[b]:=by
 rcases ht.2 with h1 | h1 | h1 | h1 | h1
 ·omega
 ·omega
 ·omega
 ·exact ⟨_,h1.2.2.choose_spec.1⟩
 ·omega
theorem E9 {T:List ae} {a:Nat} {t:ae} (hi:idx T (a:Int)=some t) (ht:tOk t):ed T a=some (FB t):=by
 rw [kI,hi]
 simp only [Option.bind_some,i8,ja]
 unfold FB
 by_cases k1:t.fKind=1
 ·simp [k1]
 by_cases k2:t.fKind=2
 ·simp [k2]
 by_cases k3:t.fKind=3
 ·simp [k3]
 by_cases k5:t.fKind=5
 ·simp [k5]
 by_cases k4:t.fKind=4
 ·obtain ⟨b,hb⟩:=Jt ht k4
  have f:∀ b:UInt8,hasB (ib b) [45,42,36,46,64]=uc [b]:=ew (by decide +kernel)
  rw [hb,jb (by decide),f]
  cases hB:t.fBefore<;>cases hA:t.fAfter<;>simp [k4]
 ·simp [k1,k2,k3,k4,k5]
theorem xC {t:ae} (ht:tOk t):qx t=some (mO t):=by
 rw [zV,Ce ht]
 simp only [Option.bind_some,if_true,mO]
 cases t.fBefore<;>by_cases h:t.fKind=4<;>simp [h]
theorem Iv {T:List ae} {a:Nat} (hT:T.length<=1000) (hlt:a<T.length) {t:ae} (ht:tOk t) {n:Nat} (h5:n<=5) (hn:n≠2):
  ∀ (m j:Nat),j+m=14->6<=j->cP n j T a t.fKind t.fNum t.fText t.fBefore t.fAfter =
   if mO t=true then (match ((List.range 14).drop j).find? fun (k:Nat)=>k !=7&&aI k==(n:Int)&&(t.fText==uu k) with | some k=>some (((k:Int),true),bx T (a+1)) | none=>some ((0,false),bx T a)) else some ((0,false),bx T a):=by
 intro m
 induction m with
 | zero=>
  intro j hj h6
  have:j=14:=by omega
  subst this
  rw [iL,if_neg (by simp)]
  have:((List.range 14).drop 14)=[]:=rfl
  rw [this]
  split<;>rfl
 | succ m ih=>
  intro j hj h6
  have hj13:j<=13:=by omega
  have w:w64 ((j:Int)+1)=((j+1:Nat):Int):=by rw [aR (by omega) (by omega)];omega
  have hd:(List.range 14).drop j=j:: (List.range 14).drop (j+1):=by
   rw [List.drop_eq_getElem_cons (by simp;omega)];simp
  have ih':=ih (j+1) (by omega) (by omega)
  rw [iL,if_pos (by simp;omega)]
  have hl8:cQ n j T a t.fKind t.fNum t.fText t.fBefore t.fAfter=cP n ((j+1:Nat):Int) T a t.fKind t.fNum t.fText t.fBefore t.fAfter:=by
   rw [oQ,w]
  rw [hl8,ih',hd,List.find?_cons,sB]
  have he:ae.mk t.fKind t.fNum t.fText t.fBefore t.fAfter=t:=by cases t;rfl
  rw [he,xC ht,dS (by omega) (by omega)]
  simp only [Option.bind_some,nK,FC hT hlt]
  have hz:(((j:Int) !=7)=(j !=7)):=by
   rw [Bool.eq_iff_iff];simp;omega
  rw [hz]
  cases mO t with
  | false=>
   simp only [Bool.false_eq_true,if_false]
   split<;>(try split)<;>rfl
  | true=>
   simp only [if_true]
   cases (j !=7) with
   | false=>simp
   | true=>
    simp only [if_true,Bool.true_and]
    cases he2:(aI (j:Int)==(n:Int)) with
    | false=>simp
    | true=>
     simp only [if_true,Bool.true_and]
     cases (t.fText==uu (j:Int)) with
     | false=>simp
     | true=>simp [bx]
theorem GH {n:Nat} (h1:1<=n) (h5:n<=5) (hn:n≠2) (s:List UInt8):(((List.range 14).drop 6).find? fun (k:Nat)=>k !=7&&aI k==(n:Int)&&(s==uu k)).map (fun k:Nat=>(k:Int))=if opK n s=0 then none else some (opK n s):=by
 have e:(List.range 14).drop 6=[6,7,8,9,10,11,12,13]:=rfl
 rw [e]
 have:n=1\/n=3\/n=4\/n=5:=by omega
 rcases this with rfl | rfl | rfl | rfl
 ·cases h:(s==[124])<;>simp [aI,uu,opK,List.find?,h]<;>simp_all
 ·cases h:(s==[43])<;>cases h2:(s==[45])<;>simp [aI,uu,opK,List.find?,h,h2]<;>simp_all
 ·cases h:(s==[42])<;>cases h2:(s==[47])<;>simp [aI,uu,opK,List.find?,h,h2]<;>simp_all
 ·cases h:(s==[46])<;>cases h2:(s==[36])<;>simp [aI,uu,opK,List.find?,h,h2]<;>simp_all
theorem GI {T:List ae} {a:Nat} (hT:T.length<=1000) (hok:∀ t∈T,tOk t) (h:a<=T.length) {n:Nat} (h1:1<=n) (h5:n<=5):
  (∃ k a',inf n (T.drop a)=some (k,T.drop a')/\a'<=T.length/\fj n T a=some ((k,true),bx T a'))\/(inf n (T.drop a)=none/\∃ k,fj n T a=some ((k,false),bx T a)):=by
 rw [r9]
 rcases sI h with ⟨e0,e⟩ | ⟨t,hlt,hi,e,hm⟩
 ·rw [e,if_pos (by simp [aj,e0])]
  exact .inr ⟨rfl,0,rfl⟩
 ·have ht:=hok t hm
  rw [if_neg (by simp [aj];omega),hi]
  simp only [Option.bind_some]
  by_cases h2:n=2
  ·subst h2
   rw [if_pos (by decide),E9 hi ht]
   cases hb:FB t with
   | true=>exact .inl ⟨7,a,by rw [e];simp [inf,hb],h,rfl⟩
   | false=>exact .inr ⟨by rw [e];simp [inf,hb],7,rfl⟩
  ·rw [if_neg (by simp;omega)]
   have hL:=Iv hT hlt ht h5 h2 8 6 rfl (by omega)
   have hL:cP n 6 T a t.fKind t.fNum t.fText t.fBefore t.fAfter=_:=hL
   rw [hL]
   have hf:=GH h1 h5 h2 t.fText
   cases hI:mO t with
   | false=>exact .inr ⟨by rw [e];simp [inf,h2,hI],0,by simp⟩
   | true=>
    rw [if_pos rfl]
    by_cases hz:opK n t.fText=0
    ·rw [if_pos hz,Option.map_eq_none_iff] at hf
     rw [hf]
     exact .inr ⟨by rw [e];simp [inf,h2,hI,hz],0,rfl⟩
    ·rw [if_neg hz,Option.map_eq_some_iff] at hf
     obtain ⟨k,hk,hk2⟩:=hf
     rw [hk]
     exact .inl ⟨opK n t.fText,a+1,by rw [e];simp [inf,h2,hI,hz],by omega,by rw [<-hk2]⟩
end Go.Dv.U
