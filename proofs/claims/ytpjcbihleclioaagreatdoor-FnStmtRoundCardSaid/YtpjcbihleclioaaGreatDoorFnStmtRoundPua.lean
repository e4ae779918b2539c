/- Plain laws about these equations. -/
import Derived.Test.YtpjcbihleclioaaGreatDoorFnStmtRoundEqb
set_option linter.all false
set_option linter.unusedVariables false
set_option linter.unusedSimpArgs false
namespace Go.Dv.U
open Go Go.Dv Go.Proofs
theorem aa.ind {P:aa->Prop} (h:∀ x,(∀ y∈x.fKids,P y)->P x):∀ x,P x:=by
 intro x
 exact aa.rec (motive_1:=P) (motive_2:=fun l=>∀ y∈l,P y) (fun a0 a1 a2 a3 ih=>h ⟨a0,a1,a2,a3⟩ ih) (fun y hy=>by cases hy)
  (fun a l ha hl y hy=>by
   cases hy with
   | head=>exact ha
   | tail _ hy=>exact hl y hy) x
mutual
def aa.m : aa->Nat
 | ⟨_,_,a2,a3⟩=>a2.length+(a3.length+aa.ms a3)
def aa.ms : List aa->Nat
 | []=>0
 | y:: r=>aa.m y+aa.ms r
end
theorem aa.ms_eq : ∀ l,aa.ms l=aA aa.m l
 | []=>rfl
 | y:: r=>by simp only [aa.ms,aA,aa.ms_eq r]
theorem aa.m_eq (x:aa):x.m=x.fText.length+(x.fKids.length+aA aa.m x.fKids):=by
 rw [<-aa.ms_eq];cases x;rfl
theorem aa.m_kid {x y:aa} (h:y∈x.fKids):y.m+x.fKids.length<=x.m:=by
 have:=k8 (m:=aa.m) h
 rw [aa.m_eq x];omega
def ax.m (x:ax):Nat:=x.fAlways.length+x.fSuccess.length+x.fFailure.length
theorem ax.m_eq (x:ax):x.m=x.fAlways.length+x.fSuccess.length+x.fFailure.length:=rfl
def ab.m (x:ab):Nat:=x.fLabel.length+aa.m x.fSubject+aa.m x.fPattern+aa.m x.fReplace+ax.m x.fGoto
theorem ab.m_eq (x:ab):x.m=x.fLabel.length+aa.m x.fSubject+aa.m x.fPattern+aa.m x.fReplace+ax.m x.fGoto:=rfl
def aT.m (x:aT):Nat:=(x.fStatements.length+aA ab.m x.fStatements)
theorem aT.m_eq (x:aT):x.m=(x.fStatements.length+aA ab.m x.fStatements):=rfl
def ae.m (x:ae):Nat:=x.fText.length
theorem ae.m_eq (x:ae):x.m=x.fText.length:=rfl
def dp.m (x:dp):Nat:=x.fText.length
theorem dp.m_eq (x:dp):x.m=x.fText.length:=rfl
def bp.m (x:bp):Nat:=x.fText.length
theorem bp.m_eq (x:bp):x.m=x.fText.length:=rfl
def bi.m (x:bi):Nat:=x.fName.length+(x.fKeys.length+aA bp.m x.fKeys)+(x.fVals.length+aA bp.m x.fVals)+bp.m x.fDefault
theorem bi.m_eq (x:bi):x.m=x.fName.length+(x.fKeys.length+aA bp.m x.fKeys)+(x.fVals.length+aA bp.m x.fVals)+bp.m x.fDefault:=rfl
def dq.m (x:dq):Nat:=(x.fObjects.length+aA bi.m x.fObjects)
theorem dq.m_eq (x:dq):x.m=(x.fObjects.length+aA bi.m x.fObjects):=rfl
def aR.m (x:aR):Nat:=x.fName.length+bp.m x.fValue
theorem aR.m_eq (x:aR):x.m=x.fName.length+bp.m x.fValue:=rfl
def aJ.m (x:aJ):Nat:=x.fName.length+(x.fParams.length+aA List.length x.fParams)+(x.fLocals.length+aA List.length x.fLocals)+x.fLabel.length
theorem aJ.m_eq (x:aJ):x.m=x.fName.length+(x.fParams.length+aA List.length x.fParams)+(x.fLocals.length+aA List.length x.fLocals)+x.fLabel.length:=rfl
def aw.m (x:aw):Nat:=x.fName.length+(x.fFields.length+aA List.length x.fFields)
theorem aw.m_eq (x:aw):x.m=x.fName.length+(x.fFields.length+aA List.length x.fFields):=rfl
def bT.m (x:bT):Nat:=(x.fVars.length+aA aR.m x.fVars)+(x.fFunctions.length+aA aJ.m x.fFunctions)+(x.fTypes.length+aA aw.m x.fTypes)
theorem bT.m_eq (x:bT):x.m=(x.fVars.length+aA aR.m x.fVars)+(x.fFunctions.length+aA aJ.m x.fFunctions)+(x.fTypes.length+aA aw.m x.fTypes):=rfl
def dz.m (x:dz):Nat:=x.fName.length+(x.fLines.length+aA List.length x.fLines)
theorem dz.m_eq (x:dz):x.m=x.fName.length+(x.fLines.length+aA List.length x.fLines):=rfl
def aO.m (x:aO):Nat:=(x.fInput.length+aA List.length x.fInput)+(x.fOutput.length+aA List.length x.fOutput)+(x.fFiles.length+aA dz.m x.fFiles)+(x.fTrace.length+aA List.length x.fTrace)
theorem aO.m_eq (x:aO):x.m=(x.fInput.length+aA List.length x.fInput)+(x.fOutput.length+aA List.length x.fOutput)+(x.fFiles.length+aA dz.m x.fFiles)+(x.fTrace.length+aA List.length x.fTrace):=rfl
def bg.m (x:bg):Nat:=dq.m x.fHeap+bT.m x.fScope+aO.m x.fConsole
theorem bg.m_eq (x:bg):x.m=dq.m x.fHeap+bT.m x.fScope+aO.m x.fConsole:=rfl
def aX.m (x:aX):Nat:=bg.m x.fMemory
theorem aX.m_eq (x:aX):x.m=bg.m x.fMemory:=rfl
end Go.Dv.U

namespace Go.Dv.U
open Go Go.Dv Go.Proofs
theorem hU (a b c:Int):jR a b c=some (decide (b<=a)&&decide (a<=c)):=by
 rw [xM];grind
theorem zJ (a b c:Int):xG a b c=some (decide (b<=a)&&decide (a<=c)):=by
 rw [zI];grind
end Go.Dv.U

namespace Go.Dv.U
open Go Go.Dv Go.Proofs
def gk (b:Int):Bool:=(decide (65<=b)&&decide (b<=90))||(decide (97<=b)&&decide (b<=122))
def bc (b:Int):Bool:=decide (48<=b)&&decide (b<=57)
def bI (b:Int):Bool:=gk b||bc b||b==95
theorem kh (b:Int):jk b=some (gk b):=by
 rw [uT];unfold gk;grind
theorem iY (b:Int):gW b=some (gk b):=by
 rw [tx];unfold gk;grind
theorem lD (b:Int):lj b=some (bc b):=by
 rw [wI];unfold bc;grind
theorem kj (b:Int):jo b=some (bc b):=by
 rw [uZ];unfold bc;grind
theorem lE (b:Int):f8 b=some (bI b):=by
 rw [sC,kh,lD];unfold bI
 simp only [Option.bind_some];grind
def a6 (s:List UInt8):Bool:=match s with
 | []=>false
 | b:: _=>decide (s.length<=12)&&gk (ib b)&&s.all fun c=>bI (ib c)
theorem va {s:List UInt8} (h:s.length<=9223372036854775807):cw (s.map ib)=some (s.all fun c=>bI (ib c)):=by
 rw [gd]
 have:=qC (xs:=s.map ib) (by simpa using h) (F:=f8) (p:=bI) (J:=bA (s.map ib) (len (s.map ib))) (fun i=>by rw [fk]) (fun y _=>lE y)
 rw [this,List.all_map]
 rfl
theorem nw {s:List UInt8}:jK s=some (a6 s):=by
 rw [xH]
 cases s with
 | nil=>simp [a6,am]
 | cons b r=>
  by_cases h:(b:: r).length<=12
  ·have h1:decide (len (b:: r)>=1)=true:=by simp only [am,List.length_cons,decide_eq_true_eq];omega
   have h2:decide (len (b:: r)<=12)=true:=by simp only [am,decide_eq_true_eq];omega
   rw [if_pos h1,if_pos h2,jD]
   simp only [List.getElem?_cons_zero,Option.bind_some,kh]
   have:=va (s:=b:: r) (by omega)
   simp only [List.map_cons] at this ⊢
   rw [this]
   simp only [a6,h,decide_true,Bool.true_and,Option.bind_some]
   cases gk (ib b)<;>simp
  ·have h2:¬ decide (len (b:: r)<=12)=true:=by simp only [am,decide_eq_true_eq];omega
   rw [if_neg h2]
   simp only [a6,h,decide_false,Bool.false_and]
   split<;>rfl
def tz : List UInt8->Nat
 | []=>0
 | b:: r=>if bI (ib b) then tz r+1 else 0
theorem wL : ∀ s,tz s=s.length↔(s.all fun c=>bI (ib c))=true
 | []=>by simp [tz]
 | b:: r=>by
  have:=wL r
  simp only [tz,List.length_cons,List.all_cons,Bool.and_eq_true]
  cases bI (ib b)
  ·simp
  ·simp [this]
theorem ol {s:List UInt8} (h:s.length<=9223372036854775807):∀ (n i:Nat),i+n=s.length->fh s i=some ((i+tz (s.drop i):Nat):Int):=by
 intro n
 induction n with
 | zero=>
  intro i hi
  have:i=s.length:=by omega
  subst this
  rw [iG,iI,List.drop_length]
  simp [am,tz]
 | succ n ih=>
  intro i hi
  have hlt:i<s.length:=by omega
  have hc:decide ((i:Int)<len s)=true:=by simp [am,hlt]
  rw [iG,if_pos hc,ch,List.getElem?_eq_getElem hlt,List.drop_eq_getElem_cons hlt]
  simp only [Option.bind_some,iY,kj,oh,iI,tz]
  have hw:w64 ((i:Int)+1)=((i+1:Nat):Int):=by rw [aS (by omega) (by omega)];omega
  rw [hw,ih (i+1) (by omega)]
  unfold bI
  cases gk (ib s[i])<;>cases bc (ib s[i])<;>cases hb:(ib s[i]==95)<;>simp<;>omega
theorem lF {s:List UInt8} (h:s.length<=9223372036854775807) {i:Nat} (hi:i<=s.length):
  iz s i=some (match s.drop i with
   | []=>(i:Int)
   | b:: r=>if gk (ib b) then ((i+tz (b:: r):Nat):Int) else i):=by
 rw [r8]
 by_cases hlt:i<s.length
 ·have hc:¬ decide ((i:Int)>=len s)=true:=by simp only [am,decide_eq_true_eq];omega
  rw [if_neg hc,ch,List.getElem?_eq_getElem hlt,List.drop_eq_getElem_cons hlt]
  simp only [Option.bind_some,iY]
  rw [ol h (s.length-i) i (by omega),List.drop_eq_getElem_cons hlt]
  cases gk (ib s[i])<;>simp
 ·have:i=s.length:=by omega
  subst this
  rw [List.drop_length]
  simp [am]
theorem sJ {s:List UInt8}:nY s=some (a6 s):=by
 rw [xK]
 cases s with
 | nil=>simp [a6]
 | cons b r=>
  have h0:(!(b:: r)==[])=true:=rfl
  rw [if_pos h0]
  by_cases h:(b:: r).length<=12
  ·have h2:decide (len (b:: r)<=12)=true:=by simp only [am,decide_eq_true_eq];omega
   have:=lF (s:=b:: r) (by omega) (Nat.zero_le _)
   simp only [Int.natCast_zero,List.drop_zero,Nat.zero_add] at this
   rw [if_pos h2,this]
   simp only [a6,h,decide_true,Bool.true_and,Option.bind_some,am]
   congr 1
   rw [Bool.eq_iff_iff,Bool.and_eq_true,<-wL]
   cases hL:gk (ib b)
   ·simp;omega
   ·simp;omega
  ·have h2:¬ decide (len (b:: r)<=12)=true:=by simp only [am,decide_eq_true_eq];omega
   rw [if_neg h2]
   simp only [a6,h,decide_false,Bool.false_and]
end Go.Dv.U

namespace Go.Dv.U
open Go Go.Dv Go.Proofs
def C2 (b:UInt8):Bool:=decide (32<=ib b)&&decide (ib b<=126)
def ei (s:List UInt8):Bool:=s.all C2
def hasB (c:Int) (s:List UInt8):Bool:=s.any fun b=>ib b==c
theorem wM (b:Int):n7 b=some (decide (32<=b)&&decide (b<=126)):=by
 rw [wG];grind
theorem gl {s:List UInt8} (h:s.length<=9223372036854775807):fe s=some (ei s):=by
 rw [pU,g7]
 have:=qC (xs:=s.map ib) (by simpa using h) (F:=n7) (p:=fun b=>decide (32<=b)&&decide (b<=126)) (J:=bM (s.map ib) (len (s.map ib))) (fun i=>by rw [gc]) (fun y _=>wM y)
 rw [this,List.all_map]
 rfl
def Gp (x:Bool) (b:UInt8):Bool:=C2 b||(x&&ib b==10)
theorem s_l01Printable_ok' {s:List UInt8} (h:s.length<=9223372036854775807) (x:Bool):ew s x=some (s.all (Gp x)):=by
 rw [oQ]
 refine db (xs:=s) h (P:=fun i l=>dP s x i=some (l.all (Gp x))) ?_ ?_
 ·rw [gu];simp [am]
 ·intro i y l _ hlt hy hi hw ih
  rw [gu,hi,if_pos (by simp [am,hlt])]
  simp only [Option.bind_some,mj,mn,hw,ih,List.all_cons,Gp,C2]
  by_cases h1:ib y<32
  ·have h3:¬ (32<=ib y):=by omega
   cases x<;>by_cases h2:ib y=10<;>simp [h1,h2,h3]
  ·have h3:32<=ib y:=by omega
   by_cases h2:ib y>126
   ·have h4:¬ (ib y<=126):=by omega
    have h5:¬ ib y=10:=by omega
    cases x<;>simp [h1,h2,h3,h4,h5]
   ·have h4:ib y<=126:=by omega
    cases x<;>simp [h1,h2,h3,h4]
theorem js {s:List UInt8} (h:s.length<=9223372036854775807):ew s false=some (ei s):=by
 rw [s_l01Printable_ok' h]
 congr 1
 unfold ei
 congr 1
 funext b
 simp [Gp]
theorem km {s:List UInt8} (h:s.length<=9223372036854775807) (c:Int):jm s c=some (hasB c s):=by
 rw [uX]
 exact C1 h (p:=fun b=>ib b==c) (J:=gE s c) (fun i=>by rw [qg])
theorem wN (c:UInt8):∀ s:List UInt8,decide (0<=Lib.index s [c])=hasB (ib c) s
 | []=>by simp [Lib.index,hasB]
 | b:: l=>by
  have ih:=wN c l
  have hge:=Lib.index_ge l [c]
  unfold Lib.index
  have hp:[c].isPrefixOf (b:: l)=(ib b==ib c):=by
   rw [Bool.eq_iff_iff]
   simp only [List.isPrefixOf,Bool.and_true,beq_iff_eq,Br]
   exact eq_comm
  have hh:hasB (ib c) (b:: l)=(ib b==ib c||hasB (ib c) l):=rfl
  rw [hp,hh,<-ih]
  cases (ib b==ib c)
  ·simp only [Bool.false_eq_true,if_false,Bool.false_or]
   split
   ·rename_i h;rw [beq_iff_eq] at h;rw [h]
   ·rename_i h
    have h:¬ Lib.index l [c] = -1:=by simpa using h
    rw [Bool.eq_iff_iff,decide_eq_true_eq,decide_eq_true_eq];omega
  ·simp
theorem gJ {s:List UInt8} (h:s.length<4294967281) (c:UInt8):dD s [c]=some (hasB (ib c) s):=by
 unfold dD
 rw [if_pos h,<-wN]
 rfl
def sW (s:List UInt8):Bool:=decide (s.length<=200)&&ei s&&!(hasB 39 s&&hasB 34 s)
def om (s:List UInt8):List UInt8:=if sW s=true then (if hasB 39 s=true then 34:: s++[34] else 39:: s++[39]) else []
theorem c39 (s:List UInt8) (h:s.length<=200):dD s [39]=some (hasB 39 s):=gJ (by omega) 39
theorem c34 (s:List UInt8) (h:s.length<=200):dD s [34]=some (hasB 34 s):=gJ (by omega) 34
theorem kn (s:List UInt8):jl s=some (sW s):=by
 rw [uV]
 by_cases h:s.length<=200
 ·have h1:decide (len s<=200)=true:=by simp only [am,decide_eq_true_eq];omega
  rw [if_pos h1,gl (by omega),c39 s h,c34 s h]
  simp only [Option.bind_some,sW,h,decide_true,Bool.true_and]
  cases ei s<;>cases hasB 39 s<;>simp
 ·have h1:¬ decide (len s<=200)=true:=by simp only [am,decide_eq_true_eq];omega
  rw [if_neg h1]
  simp [sW,h]
theorem oo (s:List UInt8):l0 s=some (sW s):=by
 rw [uW]
 by_cases h:s.length<=200
 ·have h1:decide (len s<=200)=true:=by simp only [am,decide_eq_true_eq];omega
  rw [if_pos h1,js (by omega),km (by omega),km (by omega)]
  simp only [Option.bind_some,sW,h,decide_true,Bool.true_and]
  cases ei s<;>cases hasB 39 s<;>simp
 ·have h1:¬ decide (len s<=200)=true:=by simp only [am,decide_eq_true_eq];omega
  rw [if_neg h1]
  simp [sW,h]
theorem vc {s:List UInt8} (h:sW s=true):s.length<=200:=by
 unfold sW at h
 simp only [Bool.and_eq_true_iff,decide_eq_true_eq] at h
 exact h.1.1
theorem Bw (s:List UInt8):(om s).length<=202:=by
 unfold om
 split
 ·rename_i h
  have:=vc h
  split<;>simp<;>omega
 ·simp
theorem qm (s:List UInt8):jM s=some (om s):=by
 rw [qa,kn]
 simp only [Option.bind_some,om]
 cases h:sW s
 ·rfl
 ·have hl:=vc h
  simp only [Bool.not_true,Bool.false_eq_true,if_false,if_true,c39 s hl,Option.bind_some]
  rw [av (by simp;omega),av (by simp;omega)]
  simp only [Option.bind_some]
  rw [av (by simp;omega),av (by simp;omega)]
  cases hasB 39 s<;>rfl
theorem qn (s:List UInt8):jO s=some (om s):=by
 rw [qb,oo]
 simp only [Option.bind_some,om]
 cases h:sW s
 ·rfl
 ·have hl:=vc h
  simp only [Bool.not_true,Bool.false_eq_true,if_false,if_true,km (show s.length<=9223372036854775807 by omega),Option.bind_some]
  rw [av (by simp;omega),av (by simp;omega)]
  simp only [Option.bind_some]
  rw [av (by simp;omega),av (by simp;omega)]
  cases hasB 39 s<;>rfl
theorem l8 : ∀ (k u:Nat),u<10 ^ (k+1)->Lib.nDigits u<=k+1
 | 0,u,h=>by rw [Lib.nDigits_small (by simpa using h)];exact Nat.le_refl _
 | k+1,u,h=>by
  by_cases hu:u<10
  ·rw [Lib.nDigits_small hu];omega
  ·rw [Lib.nDigits_big hu]
   have:=l8 k (u / 10) (by rw [Nat.div_lt_iff_lt_mul (by decide)];rw [Nat.pow_succ] at h;exact h)
   omega
theorem pg {r:Int} (h0:0<=r) (h1:r<10):UInt8.ofNat (Int.toNat (IntKind.wrap .u8 (w64 (48+r))))=UInt8.ofNat (48+r.toNat):=by
 rw [aS (by omega) (by omega)]
 have e2:IntKind.u8.wrap (48+r)=48+r:=by unfold IntKind.wrap;simp [IntKind.bits,IntKind.signed];omega
 rw [e2]
 congr 1
 omega
theorem EA (u:Nat):rem (u:Int) 10=some ((u % 10:Nat):Int):=by
 unfold rem
 rw [if_neg (by decide),Int.tmod_eq_emod_of_nonneg (by omega)]
 congr 1
theorem EB {u:Nat} (h:u<9223372036854775808):quo .i64 (u:Int) 10=some ((u / 10:Nat):Int):=by
 unfold quo
 rw [if_neg (by decide),Int.tdiv_eq_ediv_of_nonneg (by omega)]
 congr 1
 have:IntKind.i64.wrap ((u:Int) / 10)=w64 ((u:Int) / 10):=rfl
 rw [this,aS (by omega) (by omega)]
 omega
theorem tA : ∀ (k u:Nat) (s:List UInt8),u<10 ^ (k+1)->u<9223372036854775808->s.length+k+1<=1000->jS u s=some (Lib.decDigits u++s):=by
 intro k
 induction k with
 | zero=>
  intro u s h h2 hl
  have hu:u<10:=by simpa using h
  rw [iV,if_neg (by simp only [decide_eq_true_eq];omega)]
  simp only [List.map_cons,List.map_nil,pg (r:=(u:Int)) (by omega) (by omega),Int.toNat_natCast]
  rw [av (by simp;omega)]
  rw [Lib.decDigits_one hu]
  rfl
 | succ k ih=>
  intro u s h h2 hl
  by_cases hu:u<10
  ·rw [iV,if_neg (by simp only [decide_eq_true_eq];omega)]
   simp only [List.map_cons,List.map_nil,pg (r:=(u:Int)) (by omega) (by omega),Int.toNat_natCast]
   rw [av (by simp;omega),Lib.decDigits_one hu]
   rfl
  ·rw [iV,if_pos (by simp only [decide_eq_true_eq];omega),EA,EB h2]
   simp only [Option.bind_some,List.map_cons,List.map_nil,pg (r:=((u % 10:Nat):Int)) (by omega) (by omega),Int.toNat_natCast]
   rw [av (by simp;omega)]
   simp only [Option.bind_some]
   rw [ih (u / 10) _ (by rw [Nat.div_lt_iff_lt_mul (by decide)];rw [Nat.pow_succ] at h;exact h) (by omega) (by simp;omega)]
   have hd:Lib.decDigits u=Lib.decDigits (u / 10)++[UInt8.ofNat (48+u % 10)]:=by
    rw [Lib.decDigits,dif_neg hu]
   rw [hd]
   simp
theorem vd (u:Nat):Lib.itoa (u:Int)=Lib.decDigits u:=by
 unfold Lib.itoa
 rw [if_neg (by omega)]
 rfl
theorem xO {n:Int} (h0:0<=n) (h1:n<9223372036854775808):qD n=some (Lib.itoa n):=by
 obtain ⟨u,rfl⟩:∃ u:Nat,n=u:=⟨n.toNat,by omega⟩
 rw [xL,if_neg (by simp),tA 18 u [] (by omega) (by omega) (by decide),vd]
 simp
theorem wO {n:Int} (h0:-9223372036854775808<=n) (h1:n<=9223372036854775807):rN n=some (Lib.itoa n):=by
 rw [wD]
 unfold CV
 rw [if_pos ⟨rfl,h0,h1⟩]
 rfl
theorem C3 {n:Int} (h0:0<=n) (h1:n<=1000000000000):(Lib.itoa n).length<=13:=by
 obtain ⟨u,rfl⟩:∃ u:Nat,n=u:=⟨n.toNat,by omega⟩
 rw [vd,Lib.decDigits_length]
 exact l8 12 u (by omega)
end Go.Dv.U

namespace Go.Dv.U
open Go Go.Dv Go.Proofs
def gK (c:List Int) (a B:Int):Prop:=(∀ y∈c,0<=y/\y<=255)/\c.length<=9223372036854775807/\0<=a/\a<=B
def Dr {α:Type} (o:Option (α×((List Int×Int×Int×Unit)×Unit))) (B:Int) (P:α->Prop):Prop:=∃ v c a s,o=some (v,((c,a,s,()),()))/\gK c a B/\P v
theorem gK.le {c:List Int} {a B B':Int} (h:gK c a B) (hb:B<=B'):gK c a B':=⟨h.1,h.2.1,h.2.2.1,by have:=h.2.2.2;omega⟩
theorem Dr.le {α:Type} {o:Option (α×((List Int×Int×Int×Unit)×Unit))} {B B':Int} {P Q:α->Prop} (h:Dr o B P) (hb:B<=B') (hq:∀ v,P v->Q v):Dr o B' Q:=by
 obtain ⟨v,c,a,s,h1,h2,h3⟩:=h
 exact ⟨v,c,a,s,h1,h2.le hb,hq v h3⟩
theorem Dr.bind {α β:Type} {o:Option (α×((List Int×Int×Int×Unit)×Unit))} {B B':Int} {P:α->Prop} {Q:β->Prop} {k:α×((List Int×Int×Int×Unit)×Unit)->Option (β×((List Int×Int×Int×Unit)×Unit))}
  (h:Dr o B P) (hk:∀ v c a s,gK c a B->P v->Dr (k (v,((c,a,s,()),()))) B' Q):Dr (o.bind k) B' Q:=by
 obtain ⟨v,c,a,s,rfl,h2,h3⟩:=h
 exact hk v c a s h2 h3
theorem Dr.some {α:Type} {v:α} {c:List Int} {a s B:Int} {P:α->Prop} (h:gK c a B) (hp:P v):Dr (Option.some (v,((c,a,s,()),()))) B P:=⟨v,c,a,s,rfl,h,hp⟩
theorem DF (y:Int):0<=w64 (mz Go.BinOp.and Go.IntKind.u64 y 255)/\w64 (mz Go.BinOp.and Go.IntKind.u64 y 255)<=255:=by
 have h:(BitVec.ofInt IntKind.u64.bits y &&& BitVec.ofInt IntKind.u64.bits 255).toNat<=255:=by
  rw [BitVec.toNat_and]
  exact Nat.le_trans Nat.and_le_right (by decide)
 have e:mz Go.BinOp.and Go.IntKind.u64 y 255=((BitVec.ofInt IntKind.u64.bits y &&& BitVec.ofInt IntKind.u64.bits 255).toNat:Int):=by
  show IntKind.u64.wrap _=_
  generalize (BitVec.ofInt IntKind.u64.bits y &&& BitVec.ofInt IntKind.u64.bits 255).toNat=m at h
  unfold IntKind.wrap
  simp [IntKind.bits,IntKind.signed]
  omega
 rw [e,aS (by omega) (by omega)]
 omega
theorem kC {c:List Int} {a s B:Int} (h:gK c a B) (hB:B<=4611686018427387904):Dr (gC c a s) (B+1) (fun v=>0<=v/\v<=255):=by
 obtain ⟨h1,h2,h3,h4⟩:=h
 have hs:gK c (w64 (a+1)) (B+1):=⟨h1,h2,by rw [aS (by omega) (by omega)];omega,by rw [aS (by omega) (by omega)];omega⟩
 rw [qd]
 have hsh:∀ x:Int,shr Go.IntKind.u64 x 40=some (x.fdiv (2 ^ (min (Int.toNat 40) Go.IntKind.u64.bits))):=fun x=>rfl
 simp only [hsh,Option.bind_some]
 by_cases hlt:a<c.length
 ·obtain ⟨n,rfl⟩:∃ n:Nat,a=n:=⟨a.toNat,by omega⟩
  have hn:n<c.length:=by omega
  rw [if_pos (by simpa [am] using hlt),ch,List.getElem?_eq_getElem hn]
  have hy:=h1 _ (List.getElem_mem hn)
  simp only [Option.bind_some]
  split
  ·exact Dr.some hs (by rw [aS (by omega) (by omega)];exact hy)
  ·exact Dr.some hs (DF _)
 ·rw [if_neg (by simpa [am] using hlt)]
  split
  ·exact Dr.some hs (by omega)
  ·exact Dr.some hs (DF _)
theorem DG {x n:Int} (hx:0<=x) (hn:1<n):∃ y,rem x n=some y/\0<=y/\y<n:=by
 unfold rem
 rw [if_neg (by omega)]
 refine ⟨_,rfl,?_,?_⟩
 ·rw [Int.tmod_eq_emod_of_nonneg hx];exact Int.emod_nonneg _ (by omega)
 ·rw [Int.tmod_eq_emod_of_nonneg hx];exact Int.emod_lt_of_pos _ (by omega)
theorem aM (n:Int) {c:List Int} {a s B:Int} (h:gK c a B) (hB:B<=4611686018427387000):Dr (ay n c a s) (B+2) (fun v=>0<=v/\(1<n->v<n)/\(n<=1->v=0)):=by
 rw [p7]
 by_cases h1:n<=1
 ·rw [if_pos (by simpa using h1)]
  exact Dr.some (h.le (by omega)) ⟨by omega,fun h=>by omega,fun _=>rfl⟩
 rw [if_neg (by simpa using h1)]
 refine (kC h (by omega)).bind fun v c2 a2 s2 h2 hv=>?_
 simp only
 by_cases h3:n>200
 ·rw [if_pos (by simpa using h3)]
  refine (kC h2 (by omega)).bind fun v2 c3 a3 s3 h4 hv2=>?_
  simp only
  rw [aS (n:=v*256) (by omega) (by omega),aS (by omega) (by omega)]
  obtain ⟨y,hy,y0,y1⟩:=DG (x:=v*256+v2) (n:=n) (by omega) (by omega)
  rw [hy]
  exact Dr.some (h4.le (by omega)) ⟨y0,fun _=>y1,fun h=>by omega⟩
 ·rw [if_neg (by simpa using h3)]
  obtain ⟨y,hy,y0,y1⟩:=DG (x:=v) (n:=n) (by omega) (by omega)
  rw [hy]
  exact Dr.some (h2.le (by omega)) ⟨y0,fun _=>y1,fun h=>by omega⟩
theorem dG (n:Int) {c:List Int} {a s B:Int} (h:gK c a B) (hB:B<=4611686018427387000):Dr (aP n c a s) (B+2) (fun _=>True):=by
 rw [rW]
 exact (aM n h hB).bind fun v c2 a2 s2 h2 hv=>Dr.some h2 trivial
theorem yX {α:Type} {xs:List α} {v:Int} (hv:0<=v/\(1<(len xs)->v<len xs)/\(len xs<=1->v=0)) (hx:xs≠[]):∃ y,idx xs v=some y/\y∈xs:=by
 have hp:0<xs.length:=List.length_pos_iff.2 hx
 rw [am] at hv
 have hlt:v.toNat<xs.length:=by
  by_cases h:(1:Int)<xs.length
  ·have:=hv.2.1 h;omega
  ·have:=hv.2.2 (by omega);omega
 exact ⟨xs[v.toNat],by rw [DC hv.1,List.getElem?_eq_getElem hlt],List.getElem_mem hlt⟩
theorem kD (xs:List (List UInt8)) (hx:xs≠[]) {c:List Int} {a s B:Int} (h:gK c a B) (hB:B<=4611686018427387000):Dr (aK xs c a s) (B+2) (fun v=>v∈xs):=by
 rw [pZ]
 refine (aM _ h hB).bind fun v c2 a2 s2 h2 hv=>?_
 obtain ⟨y,hy,hm⟩:=yX hv hx
 simp only [hy,Option.bind_some]
 exact Dr.some h2 hm
theorem jt (xs:List Int) (hx:xs≠[]) {c:List Int} {a s B:Int} (h:gK c a B) (hB:B<=4611686018427387000):Dr (fU xs c a s) (B+2) (fun v=>v∈xs):=by
 rw [oV]
 refine (aM _ h hB).bind fun v c2 a2 s2 h2 hv=>?_
 obtain ⟨y,hy,hm⟩:=yX hv hx
 simp only [hy,Option.bind_some]
 exact Dr.some h2 hm
end Go.Dv.U

namespace Go.Dv.U
open Go Go.Dv Go.Proofs
theorem xP (a b:Int):rR [a,b]=some (if a≠0 then a else b):=by
 rw [ub]
 have e2:len [a,b]=2:=rfl
 have w1:w64 (0+1)=1:=by decide
 have w2:w64 (1+1)=2:=by decide
 rw [e2,dS,if_pos (by decide),jD]
 simp only [List.getElem?_cons_zero,Option.bind_some]
 by_cases ha:a=0
 ·subst ha
  rw [if_neg (by simp),w1,dS,if_pos (by decide),oK]
  simp only [List.getElem?_cons_succ,List.getElem?_cons_zero,Option.bind_some]
  by_cases hb:b=0
  ·subst hb
   rw [if_neg (by simp),w2,dS,if_neg (by decide)]
   simp
  ·rw [if_pos (by simpa using hb)];simp
 ·rw [if_pos (by simpa using ha),if_pos ha]
theorem xQ (b:Bool) (n:Int):jP b n=some (if b=true then 0 else n):=by
 rw [g8,lY]
end Go.Dv.U

namespace Go.Dv.U
open Go Go.Dv Go.Proofs
def aG (p:Int->Bool):List UInt8->Nat
 | []=>0
 | b:: r=>if p (ib b)=true then aG p r+1 else 0
theorem fp (p:Int->Bool):∀ s,aG p s<=s.length
 | []=>Nat.le_refl _
 | b:: r=>by
  have:=fp p r
  simp only [aG,List.length_cons]
  split<;>omega
theorem ge (p:Int->Bool):∀ s:List UInt8,(s.take (aG p s)).all (fun b=>p (ib b))=true
 | []=>rfl
 | b:: r=>by
  simp only [aG]
  split
  ·rename_i h
   rw [List.take_succ_cons,List.all_cons,ge p r,h];rfl
  ·rfl
theorem yY : ∀ s,aG bI s=tz s
 | []=>rfl
 | b:: r=>by
  simp only [aG,tz,yY r]
def lG (b:Int):Bool:=b==43||b==45||b==42||b==47||b==124||b==46||b==36||b==64||b==61
def b9 (b:Int):Int:=if b=40 then 5 else if b=41 then 6 else if b=60 then 7 else if b=62 then 8 else if b=44 then 9 else if b=58 then 10 else 0
def iZ : List UInt8->Option (Int×Int×List UInt8×Nat)
 | []=>none
 | b:: r=>
  if gk (ib b)=true then (if aG bI (b:: r)<=12 then some (1,0,(b:: r).take (aG bI (b:: r)),aG bI (b:: r)) else none)
  else if bc (ib b)=true then (if aG bc (b:: r)<=13/\sV ((b:: r).take (aG bc (b:: r))) 0<=1000000000000 then some (2,((sV ((b:: r).take (aG bc (b:: r))) 0:Nat):Int),[],aG bc (b:: r)) else none)
  else if ib b=39\/ib b=34 then (if aG (fun c=>c !=ib b) r<r.length/\aG (fun c=>c !=ib b) r<=200 then some (3,0,r.take (aG (fun c=>c !=ib b) r),aG (fun c=>c !=ib b) r+2) else none)
  else if lG (ib b)=true then some (4,0,[b],1)
  else if b9 (ib b)≠0 then some (b9 (ib b),0,[],1) else none
theorem b0 (b:UInt8) (r:List UInt8):iZ (b:: r) =
  if gk (ib b)=true then (if aG bI (b:: r)<=12 then some (1,0,(b:: r).take (aG bI (b:: r)),aG bI (b:: r)) else none)
  else if bc (ib b)=true then (if aG bc (b:: r)<=13/\sV ((b:: r).take (aG bc (b:: r))) 0<=1000000000000 then some (2,((sV ((b:: r).take (aG bc (b:: r))) 0:Nat):Int),[],aG bc (b:: r)) else none)
  else if ib b=39\/ib b=34 then (if aG (fun c=>c !=ib b) r<r.length/\aG (fun c=>c !=ib b) r<=200 then some (3,0,r.take (aG (fun c=>c !=ib b) r),aG (fun c=>c !=ib b) r+2) else none)
  else if lG (ib b)=true then some (4,0,[b],1)
  else if b9 (ib b)≠0 then some (b9 (ib b),0,[],1) else none:=rfl
theorem lH {s:List UInt8} {k n:Int} {t:List UInt8} {m:Nat} (h:iZ s=some (k,n,t,m)):1<=m/\m<=s.length:=by
 cases s with
 | nil=>cases h
 | cons b r=>
  rw [b0] at h
  have l1:=fp bI (b:: r)
  have l2:=fp bc (b:: r)
  have l3:=fp (fun c=>c !=ib b) r
  simp only [List.length_cons] at l1 l2 ⊢
  split at h
  ·rename_i hl
   have:1<=aG bI (b:: r):=by
    have:bI (ib b)=true:=by unfold bI;rw [hl];rfl
    simp only [aG,this,if_true];omega
   split at h
   ·cases h;omega
   ·cases h
  split at h
  ·rename_i hl
   have:1<=aG bc (b:: r):=by simp only [aG,hl,if_true];omega
   split at h
   ·cases h;omega
   ·cases h
  split at h
  ·split at h
   ·rename_i hc;cases h;omega
   ·cases h
  split at h
  ·cases h;omega
  split at h
  ·cases h;omega
  ·cases h
def aQ (s:List UInt8):Bool:=match s with | []=>true | b:: _=>ib b==32
def fN : Nat->List UInt8->Bool->List ae->Nat->List ae×Int×Int
 | _,[],_,out,_=>(out,0,0)
 | 0,_:: _,_,out,_=>(out,0,0)
 | n+1,b:: r,bl,out,at_=>if ib b=32 then fN n r true out (at_+1) else match iZ (b:: r) with
  | none=>([],at_,2)
  | some (k,m,t,w)=>if 120<=out.length then ([],at_,6) else fN n ((b:: r).drop w) false (out++[⟨k,m,t,bl,aQ ((b:: r).drop w)⟩]) (at_+w)
theorem ve {x:List UInt8} (hx:x.length<=1000000) (p:Int->Bool) {J:Int->Option Int} (at_:Nat) (hJ:∀ i:Int,J i=if decide (i<len x)=true then (idx x i).bind fun y=>if p (ib y)=true then J (w64 (i+1)) else some (w64 (i-at_)) else some (w64 (i-at_))):
  ∀ (l:List UInt8) (j:Nat),x.drop j=l->at_<=j->j<=x.length->J (j:Int)=some ((j-at_+aG p l:Nat):Int):=by
 intro l
 induction l with
 | nil=>
  intro j hd ha hj
  have:x.length<=j:=by
   have:=congrArg List.length hd
   simp at this;omega
  rw [hJ,if_neg (by simp [am];omega),aS (by omega) (by omega)]
  simp [aG];omega
 | cons b l ih=>
  intro j hd ha hj
  have hlt:j<x.length:=by
   have:=congrArg List.length hd
   simp at this;omega
  rw [List.drop_eq_getElem_cons hlt] at hd
  simp only [List.cons.injEq] at hd
  rw [hJ,if_pos (by simp [am,hlt]),ch,List.getElem?_eq_getElem hlt,hd.1]
  simp only [Option.bind_some,aG]
  cases hp:p (ib b)
  ·rw [if_neg (by simp),aS (by omega) (by omega)]
   simp;omega
  ·rw [if_pos rfl,aS (by omega) (by omega),show (j:Int)+1=((j+1:Nat):Int) by omega,ih (j+1) hd.2 (by omega) (by omega)]
   simp;omega
section
variable {x:List UInt8} (hx:x.length<=4000)

include hx
theorem EC {j:Nat} (hj:j<=x.length):d9 x (j:Int)=some (aG bI (x.drop j):Int):=by
 rw [jX]
 have:=ve (x:=x) (by omega) bI (J:=cj x (j:Int)) j (fun i=>by rw [ik];simp only [lE,Option.bind_some]) (x.drop j) j rfl (Nat.le_refl _) hj
 rw [this];simp
theorem ED {j:Nat} (hj:j<=x.length):fL x (j:Int)=some (aG bc (x.drop j):Int):=by
 rw [mr]
 have:=ve (x:=x) (by omega) bc (J:=cP x (j:Int)) j (fun i=>by rw [jZ];simp only [lD,Option.bind_some]) (x.drop j) j rfl (Nat.le_refl _) hj
 rw [this];simp
theorem EE (q:Int) {j:Nat} (hj:j<=x.length):bV x (j:Int) q=some (aG (fun c=>c !=q) (x.drop j):Int):=by
 rw [iW]
 have:=ve (x:=x) (by omega) (fun c=>c !=q) (J:=b5 x (j:Int) q) j (fun i=>by rw [gG];simp only [o7,Option.bind_some]) (x.drop j) j rfl (Nat.le_refl _) hj
 rw [this];simp
theorem EF {j:Nat} (hj:j<=x.length):de x (j:Int)=some (aG (fun c=>c==32) (x.drop j):Int):=by
 rw [ij]
 have:=ve (x:=x) (by omega) (fun c=>c==32) (J:=bU x (j:Int)) j (fun i=>by rw [gj];simp only [oi,Option.bind_some]) (x.drop j) j rfl (Nat.le_refl _) hj
 rw [this];simp
end
theorem uc {x:List UInt8} {j m:Nat} (h:j+m<=x.length):cut x (j:Int) (Option.getD (some ((j+m:Nat):Int)) (len x))=some ((x.drop j).take m):=by
 have:=nT (xs:=x) (a:=j) (b:=j+m) (by omega) h
 rw [Option.getD_some,this,List.drop_take]
 congr 2;omega
theorem Bx (b:UInt8):fI [43,45,42,47,124,46,36,64,61] (ib b)=some (Lib.indexByte [43,45,42,47,124,46,36,64,61] b):=by
 unfold fI
 have:(ib b).toNat.toUInt8=b:=by simp [ib]
 rw [this]
theorem zK (b:UInt8):fI [40,41,60,62,44,58] (ib b)=some (Lib.indexByte [40,41,60,62,44,58] b):=by
 unfold fI
 have:(ib b).toNat.toUInt8=b:=by simp [ib]
 rw [this]
theorem dH {P:UInt8->Prop} (h:∀ n:Fin 256,P (UInt8.ofNat n)) (b:UInt8):P b:=by
 have:=h ⟨b.toNat,b.toNat_lt⟩
 simpa using this
theorem DH : ∀ b:UInt8,decide (Lib.indexByte [43,45,42,47,124,46,36,64,61] b>=0)=lG (ib b):=dH (by decide +kernel)
theorem EG : ∀ b:UInt8,(Lib.indexByte [40,41,60,62,44,58] b = -1/\b9 (ib b)=0)\/(0<=Lib.indexByte [40,41,60,62,44,58] b/\b9 (ib b)=5+Lib.indexByte [40,41,60,62,44,58] b/\Lib.indexByte [40,41,60,62,44,58] b<=5):=dH (by decide +kernel)
theorem FD : ∀ b:UInt8,lG (ib b)=true->chr (ib b)=some [b]:=dH (by decide +kernel)
theorem tB {x:List UInt8} (hx:x.length<=4000) {j:Nat} (hj:j<x.length):∃ (tk:ae) (n:Int) (ok:Bool),mW x (j:Int)=some (tk,n,ok) /\
    (match iZ (x.drop j) with | none=>ok=false | some (k,m,t,w)=>ok=true/\tk.fKind=k/\tk.fNum=m/\tk.fText=t/\n=(w:Int)):=by
  obtain ⟨b,r,hd⟩:∃ b r,x.drop j=b:: r:=⟨_,_,List.drop_eq_getElem_cons hj⟩
  have hget:idx x (j:Int)=some b:=by
    rw [ch,List.getElem?_eq_getElem hj]
    rw [List.drop_eq_getElem_cons hj] at hd
    simp only [List.cons.injEq] at hd
    rw [hd.1]
  have hd1:x.drop (j+1)=r:=by
    rw [List.drop_eq_getElem_cons hj] at hd
    simp only [List.cons.injEq] at hd
    exact hd.2
  have hrl:(b:: r).length=x.length-j:=by rw [<-hd,List.length_drop]
  simp only [List.length_cons] at hrl
  rw [tq,hget,hd,b0]
  simp only [Option.bind_some,kh,lD]
  by_cases h1:gk (ib b)=true
  · rw [if_pos h1,if_pos h1,EC hx (by omega),hd]
    have hle:=fp bI (b:: r)
    simp only [List.length_cons] at hle
    generalize hn:aG bI (b:: r)=n at hle
    simp only [Option.bind_some]
    rw [aS (by omega) (by omega),show (j:Int)+(n:Int)=((j+n:Nat):Int) by omega,uc (by omega),hd]
    simp only [Option.bind_some]
    refine ⟨_,_,_,rfl,?_⟩
    by_cases h12:n<=12
    · rw [if_pos h12]
      exact ⟨by simp;omega,rfl,rfl,rfl,rfl⟩
    · rw [if_neg h12]
      simp;omega
  rw [if_neg h1,if_neg h1]
  by_cases h2:bc (ib b)=true
  · rw [if_pos h2,if_pos h2,ED hx (by omega),hd]
    have hle:=fp bc (b:: r)
    have hall:=ge bc (b:: r)
    have hpos:1<=aG bc (b:: r):=by simp only [aG,h2,if_true];omega
    simp only [List.length_cons] at hle
    generalize hn:aG bc (b:: r)=n at hle hall hpos
    simp only [Option.bind_some]
    rw [aS (by omega) (by omega),show (j:Int)+(n:Int)=((j+n:Nat):Int) by omega,uc (by omega),hd]
    simp only [Option.bind_some]
    have htl:((b:: r).take n).length=n:=by rw [List.length_take];simp;omega
    have hdg:((b:: r).take n).all Bn=true:=by
      have:(fun c:UInt8=>bc (ib c))=Bn:=by
        funext c
        unfold Bn bc
        rw [C0,Bool.eq_iff_iff]
        simp
        omega
      rw [<-this];exact hall
    unfold lX
    by_cases h13:13<n
    · rw [if_pos (by rw [htl];exact h13)]
      refine ⟨_,_,_,rfl,?_⟩
      rw [if_neg (by omega)]
    · rw [if_neg (by rw [htl];exact h13),if_pos ⟨by intro e;rw [e] at htl;simp at htl;omega,hdg⟩]
      refine ⟨_,_,_,rfl,?_⟩
      by_cases hb:sV ((b:: r).take n) 0<=1000000000000
      · rw [if_pos ⟨by omega,hb⟩]
        exact ⟨by simpa using hb,rfl,rfl,rfl,rfl⟩
      · rw [if_neg (by omega)]
        simpa using hb
  rw [if_neg h2,if_neg h2]
  have quo:ib b=39\/ib b=34->∀ z:Option (ae×Int×Bool),z=((bV x (w64 ((j:Int)+1)) (ib b)).bind fun r194=>((cut x (w64 ((j:Int)+1)) (Option.getD (Option.some (w64 (w64 ((j:Int)+1)+r194))) (len x))):Option (List UInt8)).bind fun y193=>
      if decide (w64 (w64 ((j:Int)+1)+r194)<len x)=true then some (ae.mk (Int.ofNat 3) (Int.ofNat 0) y193 false false,w64 (r194+2),decide (r194<=200)) else some (ae.mk (Int.ofNat 3) (Int.ofNat 0) y193 false false,w64 (r194+2),false)) ->
      ∃ (tk:ae) (n:Int) (ok:Bool),z=some (tk,n,ok)/\(match (if aG (fun c=>c !=ib b) r<r.length/\aG (fun c=>c !=ib b) r<=200 then some ((3:Int),(0:Int),r.take (aG (fun c=>c !=ib b) r),aG (fun c=>c !=ib b) r+2) else none) with | none=>ok=false | some (k,m,t,w)=>ok=true/\tk.fKind=k/\tk.fNum=m/\tk.fText=t/\n=(w:Int)):=by
    intro _ z hz
    have hle:=fp (fun c=>c !=ib b) r
    rw [aS (by omega) (by omega),show (j:Int)+1=((j+1:Nat):Int) by omega,EE hx (ib b) (by omega),hd1] at hz
    generalize hn:aG (fun c=>c !=ib b) r=n at hle hz
    simp only [Option.bind_some] at hz
    rw [aS (by omega) (by omega),show ((j+1:Nat):Int)+(n:Int)=((j+1+n:Nat):Int) by omega,uc (by omega),hd1] at hz
    simp only [Option.bind_some] at hz
    rw [aS (by omega) (by omega),am] at hz
    by_cases hq:n<r.length
    · rw [if_pos (by simp;omega)] at hz
      refine ⟨_,_,_,hz,?_⟩
      by_cases h200:n<=200
      · rw [if_pos ⟨hq,h200⟩]
        exact ⟨by simp;omega,rfl,rfl,rfl,by simp⟩
      · rw [if_neg (by omega)]
        simp;omega
    · rw [if_neg (by simp;omega)] at hz
      refine ⟨_,_,_,hz,?_⟩
      rw [if_neg (by omega)]
  by_cases h39:ib b=39
  · rw [if_pos (by simpa using h39),if_pos (.inl h39)]
    exact quo (.inl h39) _ rfl
  rw [if_neg (by simpa using h39)]
  by_cases h34:ib b=34
  · rw [if_pos (by simpa using h34),if_pos (.inr h34)]
    exact quo (.inr h34) _ rfl
  rw [if_neg (by simpa using h34),if_neg (by omega),Bx]
  simp only [Option.bind_some]
  by_cases h4:lG (ib b)=true
  · rw [if_pos (by rw [DH];exact h4),if_pos h4,FD b h4]
    simp only [Option.bind_some]
    exact ⟨_,_,_,rfl,rfl,rfl,rfl,rfl,rfl⟩
  · rw [if_neg (by rw [DH];exact h4),if_neg h4,zK]
    simp only [Option.bind_some]
    refine ⟨_,_,_,rfl,?_⟩
    rcases EG b with ⟨e1,e2⟩ | ⟨e1,e2,e3⟩
    · rw [if_neg (by simpa using e2)]
      simp [e1]
    · rw [if_pos (by omega)]
      refine ⟨by simpa using e1,?_,rfl,rfl,rfl⟩
      show w64 _=_
      rw [aS (by omega) (by omega),e2]
end Go.Dv.U

namespace Go.Dv.U
open Go Go.Dv Go.Proofs
theorem ju {p:Int->Bool} {b:UInt8} {r:List UInt8} (h:p (ib b)=false):aG p (b:: r)=0:=by simp [aG,h]
theorem fO {p:Int->Bool} {b:UInt8} {r:List UInt8} (h:p (ib b)=true):aG p (b:: r)=aG p r+1:=by simp [aG,h]
theorem zL : ∀ (s:List UInt8) (n:Nat) (bl:Bool) (out:List ae) (at_:Nat),s.length<=n->fN n s bl out at_=fN (n-aG (fun c=>c==32) s) (s.drop (aG (fun c=>c==32) s)) (if aG (fun c=>c==32) s=0 then bl else true) out (at_+aG (fun c=>c==32) s):=by
 intro s
 induction s with
 | nil=>intro n bl out at_ _;simp [aG]
 | cons b r ih=>
  intro n bl out at_ h
  by_cases hb:ib b=32
  ·have hr:(fun c:Int=>c==32) (ib b)=true:=by simpa using hb
   rw [fO hr]
   cases n with
   | zero=>simp at h
   | succ n=>
    simp only [fN,hb,if_true]
    rw [ih n true out (at_+1) (by simpa using h)]
    simp only [List.drop_succ_cons,Nat.add_eq_zero_iff,Nat.one_ne_zero,and_false,if_false,ite_self]
    congr 1
    ·omega
    ·omega
  ·have hr:(fun c:Int=>c==32) (ib b)=false:=by simpa using hb
   rw [ju hr]
   simp
theorem oq {p:Int->Bool}:∀ s:List UInt8,∀ b r,s.drop (aG p s)=b:: r->p (ib b)=false
 | [],b,r,h=>by simp [aG] at h
 | c:: s,b,r,h=>by
  cases hc:p (ib c)
  ·rw [ju hc] at h
   simp only [List.drop_zero,List.cons.injEq] at h
   rw [<-h.1];exact hc
  ·rw [fO hc] at h
   exact oq s b r h
theorem EH {x:List UInt8} (hx:x.length<=4000):∀ (N n j:Nat) (out:List ae),n<=N->j<=x.length->x.length-j<=n->out.length<=120->fg x (j:Int) out=some (fN n (x.drop j) (len out==0) out j):=by
 intro N
 induction N with
 | zero=>
  intro n j out hn hj hl ho
  have:x.drop j=[]:=List.drop_eq_nil_of_le (by omega)
  rw [fj,if_neg (by simp [am];omega),this]
  cases n<;>rfl
 | succ N ih=>
  intro n j out hn hj hl ho
  by_cases hlt:j<x.length
  ·rw [fj,if_pos (by simpa [am] using hlt),EF hx hj]
   simp only [Option.bind_some]
   have hle:=fp (fun c=>c==32) (x.drop j)
   rw [List.length_drop] at hle
   rw [zL (x.drop j) n (len out==0) out j (by rw [List.length_drop];omega)]
   have hdr:=oq (p:=fun c=>c==32) (x.drop j)
   generalize aG (fun c=>c==32) (x.drop j)=q at hle hdr ⊢
   rw [List.drop_drop] at hdr ⊢
   rw [aS (by omega) (by omega),show (j:Int)+(q:Int)=((j+q:Nat):Int) by omega]
   by_cases hend:j+q=x.length
   ·rw [if_pos (by simp [am,hend])]
    have:x.drop (j+q)=[]:=List.drop_eq_nil_of_le (by omega)
    rw [this]
    cases (n-q)<;>rfl
   ·rw [if_neg (by simp [am];omega)]
    have hlt2:j+q<x.length:=by omega
    obtain ⟨b,r,hd⟩:∃ b r,x.drop (j+q)=b:: r:=⟨_,_,List.drop_eq_getElem_cons hlt2⟩
    have hb:¬ ib b=32:=by simpa using hdr b r hd
    obtain ⟨m,hm⟩:∃ m,n-q=m+1:=⟨n-q-1,by omega⟩
    rw [hm,hd]
    simp only [fN,hb,if_false]
    obtain ⟨tk,w,ok,hs,hmt⟩:=tB hx hlt2
    rw [hs]
    rw [hd] at hmt
    simp only [Option.bind_some,xQ,xP]
    cases ht:iZ (b:: r) with
    | none=>
     rw [ht] at hmt
     simp only at hmt
     subst hmt
     simp
    | some z=>
     obtain ⟨k,mm,t,w'⟩:=z
     rw [ht] at hmt
     simp only at hmt
     obtain ⟨rfl,rfl,rfl,rfl,rfl⟩:=hmt
     have hw:=lH ht
     rw [<-hd,List.length_drop] at hw
     simp only [if_true,ne_eq,not_true_eq_false,if_false]
     by_cases h120:120<=out.length
     ·have e:decide (len out<120)=false:=by simp [am];omega
      rw [e,if_pos h120]
      simp
     ·have e:decide (len out<120)=true:=by simp [am];omega
      rw [e,if_neg h120]
      simp only [if_true]
      rw [if_neg (by simp),aS (n:=((j+q:Nat):Int)+(w':Int)) (by omega) (by omega),show ((j+q:Nat):Int)+(w':Int)=((j+q+w':Nat):Int) by omega]
      have hrest:(b:: r).drop w'=x.drop (j+q+w'):=by rw [<-hd,List.drop_drop]
      rw [hrest]
      have go:∀ (bf af:Bool),af=aQ (x.drop (j+q+w'))->bf=(if q=0 then (len out==0) else true)->cG x ((j+q+w':Nat):Int) out tk.fKind tk.fNum tk.fText bf af=some (fN m (x.drop (j+q+w')) false (out++[⟨tk.fKind,tk.fNum,tk.fText,if q=0 then (len out==0) else true,aQ (x.drop (j+q+w'))⟩]) (j+q+w')):=by
       intro bf af h1 h2
       rw [nn,av (by simp;omega)]
       simp only [Option.bind_some]
       rw [ih m (j+q+w') _ (by omega) (by omega) (by omega) (by simp;omega),h1,h2]
       have:(len (out++[(⟨tk.fKind,tk.fNum,tk.fText,if q=0 then (len out==0) else true,aQ (x.drop (j+q+w'))⟩:ae)])==0)=false:=by
        simp [am];omega
       rw [this]
      by_cases hq:q=0
      ·rw [if_neg (by simp [hq])]
       by_cases he:j+q+w'=x.length
       ·have hn2:x.drop (j+q+w')=[]:=List.drop_eq_nil_of_le (by omega)
        rw [if_pos (by simp [am,he])]
        exact go _ _ (by rw [hn2];rfl) (by rw [if_pos hq])
       ·rw [if_neg (by simp [am];omega),ch,List.getElem?_eq_getElem (by omega)]
        simp only [Option.bind_some]
        exact go _ _ (by rw [List.drop_eq_getElem_cons (by omega)];rfl) (by rw [if_pos hq])
      ·rw [if_pos (by simp;omega)]
       by_cases he:j+q+w'=x.length
       ·have hn2:x.drop (j+q+w')=[]:=List.drop_eq_nil_of_le (by omega)
        rw [if_pos (by simp [am,he])]
        exact go _ _ (by rw [hn2];rfl) (by rw [if_neg hq])
       ·rw [if_neg (by simp [am];omega),ch,List.getElem?_eq_getElem (by omega)]
        simp only [Option.bind_some]
        exact go _ _ (by rw [List.drop_eq_getElem_cons (by omega)];rfl) (by rw [if_neg hq])
  ·have:x.drop j=[]:=List.drop_eq_nil_of_le (by omega)
   rw [fj,if_neg (by simp [am];omega),this]
   cases n<;>rfl
def eG (x:List UInt8):List ae×Int×Int:=if x.length<=4000/\ei x=true then fN x.length x true [] 0 else ([],0,1)
theorem lI {x:List UInt8} (h:x.length<=9223372036854775807):iw x=some (eG x):=by
 rw [rZ]
 unfold eG
 by_cases hl:x.length<=4000
 ·rw [if_neg (by simp [am];omega),gl h]
  simp only [Option.bind_some]
  cases hp:ei x
  ·simp
  ·have:=EH hl x.length x.length 0 [] (Nat.le_refl _) (by omega) (by omega) (by simp)
   simp only [Int.natCast_zero,List.drop_zero] at this
   simp only [Bool.not_true,Bool.false_eq_true,if_false,hl,and_self,if_true]
   rw [this]
   rfl
 ·rw [if_pos (by simp [am];omega),if_neg (by omega)]
end Go.Dv.U

namespace Go.Dv.U
open Go Go.Dv Go.Proofs
theorem qo (c:Int):jT c=some (lG c):=by
 rw [qh,mt,mu]
 unfold lG
 simp only [lY]
 congr 1
 cases c==43<;>cases c==45<;>cases c==42<;>cases c==47<;>cases c==124<;>cases c==46<;>cases c==36<;>cases c==64<;>cases c==61<;>rfl
def FE : ae:=⟨0,0,[],false,false⟩
theorem FG (j:Nat) (hj:j<=4000) (c:Int):dE (j:Int) c [40,41,60,62,44,58] 0 0 0 [] false false=some (if b9 c≠0 then ((⟨b9 c,0,[],false,false⟩:ae),((j+1:Nat):Int)) else (FE,-1)):=by
 have hw:w64 ((j:Int)+1)=((j+1:Nat):Int):=by rw [aS (by omega) (by omega)];omega
 have step:∀ (k:Int) (y:UInt8),idx [40,41,60,62,44,58] k=some y->0<=k->k<6->dE (j:Int) c [40,41,60,62,44,58] k 0 0 [] false false=if ib y=c then some ((⟨w64 (5+k),0,[],false,false⟩:ae),((j+1:Nat):Int)) else dE (j:Int) c [40,41,60,62,44,58] (w64 (k+1)) 0 0 [] false false:=by
  intro k y h h0 h6
  rw [lA,if_pos (by simp [am];omega),h]
  simp only [Option.bind_some,beq_iff_eq,hw]
  rfl
 have w1:w64 (0+1)=1:=by decide
 have w2:w64 (1+1)=2:=by decide
 have w3:w64 (2+1)=3:=by decide
 have w4:w64 (3+1)=4:=by decide
 have w5:w64 (4+1)=5:=by decide
 have w6:w64 (5+1)=6:=by decide
 have last:dE (j:Int) c [40,41,60,62,44,58] 6 0 0 [] false false=some (FE,-1):=by
  rw [lA,if_neg (by simp [am])];rfl
 rw [step 0 40 rfl (by decide) (by decide),w1,step 1 41 rfl (by decide) (by decide),w2,step 2 60 rfl (by decide) (by decide),w3,step 3 62 rfl (by decide) (by decide),w4,step 4 44 rfl (by decide) (by decide),w5,step 5 58 rfl (by decide) (by decide),w6,last]
 have i1:ib 40=40:=by decide
 have i2:ib 41=41:=by decide
 have i3:ib 60=60:=by decide
 have i4:ib 62=62:=by decide
 have i5:ib 44=44:=by decide
 have i6:ib 58=58:=by decide
 have v0:w64 (5+0)=5:=by decide
 have v1:w64 (5+1)=6:=by decide
 have v2:w64 (5+2)=7:=by decide
 have v3:w64 (5+3)=8:=by decide
 have v4:w64 (5+4)=9:=by decide
 have v5:w64 (5+5)=10:=by decide
 simp only [i1,i2,i3,i4,i5,i6,v0,v1,v2,v3,v4,v5]
 unfold b9
 by_cases h1:c=40
 ·subst h1;simp
 by_cases h2:c=41
 ·subst h2;simp
 by_cases h3:c=60
 ·subst h3;simp
 by_cases h4:c=62
 ·subst h4;simp
 by_cases h5:c=44
 ·subst h5;simp
 by_cases h6:c=58
 ·subst h6;simp
 have f:∀ n:Int,c≠n->¬ n=c:=fun n h e=>h e.symm
 simp [h1,h2,h3,h4,h5,h6,f _ h1,f _ h2,f _ h3,f _ h4,f _ h5,f _ h6]
section
variable {x:List UInt8} (hx:x.length<=4000)

include hx
theorem FH {j:Nat}:∀ (l:List UInt8) (e acc:Nat),x.drop e=l->j<=e->e<=x.length->e-j<=14->acc<10 ^ (e-j) ->
  iB x (j:Int) (acc:Int) (e:Int) 0 0 [] false false=some (if (e-j)+aG bc l<=13/\sV (l.take (aG bc l)) acc<=1000000000000 then ((⟨2,(sV (l.take (aG bc l)) acc:Nat),[],false,false⟩:ae),((e+aG bc l:Nat):Int)) else (FE,-1)):=by
 have L13:∀ (e acc:Nat),j<=e->e<=x.length->ga (j:Int) (acc:Int) (e:Int) 0 0 [] false false=some (if e-j<=13/\acc<=1000000000000 then ((⟨2,(acc:Nat),[],false,false⟩:ae),(e:Int)) else (FE,-1)):=by
  intro e acc h1 h2
  rw [sE,aS (by omega) (by omega)]
  by_cases h13:e-j<=13
  ·rw [if_neg (by simp;omega)]
   by_cases hb:acc<=1000000000000
   ·rw [if_neg (by simp;omega),if_pos ⟨h13,hb⟩]
    rfl
   ·rw [if_pos (by simp;omega),if_neg (by omega)];rfl
  ·rw [if_pos (by simp;omega),if_neg (by omega)];rfl
 intro l
 induction l with
 | nil=>
  intro e acc hd h1 h2 h3 h4
  have:x.length<=e:=by
   have:=congrArg List.length hd
   simp at this;omega
  rw [ly,if_neg (by simp [am];omega),L13 e acc h1 h2]
  simp [aG,sV]
 | cons b l ih=>
  intro e acc hd h1 h2 h3 h4
  have hlt:e<x.length:=by
   have:=congrArg List.length hd
   simp at this;omega
  rw [List.drop_eq_getElem_cons hlt] at hd
  simp only [List.cons.injEq] at hd
  rw [ly,if_pos (by simp [am,hlt]),ch,List.getElem?_eq_getElem hlt,hd.1]
  simp only [Option.bind_some,kj]
  cases hg:bc (ib b)
  ·rw [if_neg (by simp),L13 e acc h1 h2,ju hg]
   simp [sV]
  ·rw [if_pos rfl,fO hg,aS (by omega) (by omega)]
   by_cases h14:e-j<14
   ·have hb:=C0 b
    unfold bc at hg
    simp only [Bool.and_eq_true_iff,decide_eq_true_eq] at hg
    have hp:10 ^ (e-j)<=10 ^ 13:=Nat.pow_le_pow_right (by decide) (by omega)
    have hp2:10 ^ (e-j+1)=10 ^ (e-j)*10:=Nat.pow_succ _ _
    rw [if_pos (by simp;omega),sD,ch,List.getElem?_eq_getElem hlt,hd.1]
    simp only [Option.bind_some]
    have e1:Go.IntKind.wrap Go.IntKind.u8 (ib b-48)=ib b-48:=by unfold IntKind.wrap;simp [IntKind.bits,IntKind.signed];omega
    rw [e1,aS (n:=ib b-48) (by omega) (by omega),aS (n:=10*(acc:Int)) (by omega) (by omega),aS (n:=10*(acc:Int)+(ib b-48)) (by omega) (by omega),aS (n:=(e:Int)+1) (by omega) (by omega)]
    rw [show 10*(acc:Int)+(ib b-48)=((acc*10+(b.toNat-48):Nat):Int) by omega,show (e:Int)+1=((e+1:Nat):Int) by omega]
    rw [ih (e+1) (acc*10+(b.toNat-48)) hd.2 (by omega) (by omega) (by omega) (by rw [show e+1-j=e-j+1 by omega];omega)]
    have en:sV ((b:: l).take (aG bc l+1)) acc=sV (l.take (aG bc l)) (acc*10+(b.toNat-48)):=by
     rw [List.take_succ_cons];rfl
    rw [en,show e+1-j+aG bc l=e-j+(aG bc l+1) by omega,show e+1+aG bc l=e+(aG bc l+1) by omega]
   ·rw [if_neg (by simp;omega),L13 e acc h1 h2,if_neg (by omega),if_neg (by omega)]
theorem FI {j:Nat} (q:Int):∀ (l:List UInt8) (e:Nat),x.drop e=l->j+1<=e->e<=x.length ->
  eX x (j:Int) q (e:Int) 0 0 [] false false=some (if aG (fun c=>c !=q) l<l.length/\e+aG (fun c=>c !=q) l-j-1<=200 then ((⟨3,0,(x.drop (j+1)).take (e+aG (fun c=>c !=q) l-j-1),false,false⟩:ae),((e+aG (fun c=>c !=q) l+1:Nat):Int)) else (FE,-1)):=by
 intro l
 induction l with
 | nil=>
  intro e hd h1 h2
  have:e=x.length:=by
   have:=congrArg List.length hd
   simp at this;omega
  rw [lz,if_neg (by simp [am];omega),if_pos (by simp [am,this]),lB]
  rfl
 | cons b l ih=>
  intro e hd h1 h2
  have hlt:e<x.length:=by
   have:=congrArg List.length hd
   simp at this;omega
  rw [List.drop_eq_getElem_cons hlt] at hd
  simp only [List.cons.injEq] at hd
  rw [lz,if_pos (by simp [am,hlt]),ch,List.getElem?_eq_getElem hlt,hd.1]
  simp only [Option.bind_some]
  by_cases hb:ib b=q
  ·have hr:(fun c:Int=>c !=q) (ib b)=false:=by simpa using hb
   rw [if_neg (by simpa using hb),if_neg (by simp [am];omega),ju hr]
   rw [aS (n:=(e:Int)-(j:Int)) (by omega) (by omega),aS (by omega) (by omega)]
   simp only [Nat.add_zero]
   by_cases h200:e-j-1<=200
   ·rw [if_neg (by simp;omega),if_pos ⟨by simp,h200⟩,sF,aS (n:=(j:Int)+1) (by omega) (by omega),aS (by omega) (by omega)]
    have:=uc (x:=x) (j:=j+1) (m:=e-j-1) (by omega)
    rw [show j+1+(e-j-1)=e by omega] at this
    rw [show (j:Int)+1=((j+1:Nat):Int) by omega,this]
    rfl
   ·rw [if_pos (by simp;omega),if_neg (by omega),lB]
    rfl
  ·have hr:(fun c:Int=>c !=q) (ib b)=true:=by simpa using hb
   rw [if_pos (by simpa using hb),aS (by omega) (by omega),show (e:Int)+1=((e+1:Nat):Int) by omega,ih (e+1) hd.2 (by omega) (by omega),fO hr]
   have e1:e+1+aG (fun c=>c !=q) l=e+(aG (fun c=>c !=q) l+1):=by omega
   rw [e1]
   simp only [List.length_cons,Nat.add_lt_add_iff_right]
theorem xR {j:Nat} (hj:j<x.length):∃ (tk:ae) (e:Int),uO x (j:Int)=some (tk,e) /\
  (match iZ (x.drop j) with | none=>e = -1 | some (k,m,t,w)=>tk.fKind=k/\tk.fNum=m/\tk.fText=t/\e=((j+w:Nat):Int)):=by
 obtain ⟨b,r,hd⟩:∃ b r,x.drop j=b:: r:=⟨_,_,List.drop_eq_getElem_cons hj⟩
 have hget:idx x (j:Int)=some b:=by
  rw [ch,List.getElem?_eq_getElem hj]
  rw [List.drop_eq_getElem_cons hj] at hd
  simp only [List.cons.injEq] at hd
  rw [hd.1]
 have hd1:x.drop (j+1)=r:=by
  rw [List.drop_eq_getElem_cons hj] at hd
  simp only [List.cons.injEq] at hd
  exact hd.2
 have hrl:(b:: r).length=x.length-j:=by rw [<-hd,List.length_drop]
 simp only [List.length_cons] at hrl
 have hone:w64 ((j:Int)+1)=((j+1:Nat):Int):=by rw [aS (by omega) (by omega)];omega
 rw [xN,hget,hd,b0]
 simp only [Option.bind_some,iY,kj]
 by_cases h1:gk (ib b)=true
 ·have hle:=fp bI (b:: r)
  simp only [List.length_cons] at hle
  rw [if_pos h1,if_pos h1,lF (by omega) (by omega),hd]
  simp only [h1,if_true,Option.bind_some,<-yY]
  generalize aG bI (b:: r)=n at hle
  rw [aS (by omega) (by omega)]
  by_cases h12:n<=12
  ·rw [if_neg (by simp;omega),if_pos h12,uc (by omega),hd]
   exact ⟨_,_,rfl,rfl,rfl,rfl,rfl⟩
  ·rw [if_pos (by simp;omega),if_neg h12]
   exact ⟨_,_,rfl,rfl⟩
 rw [if_neg h1,if_neg h1]
 by_cases h2:bc (ib b)=true
 ·rw [if_pos h2,if_pos h2]
  have:=FH hx (j:=j) (b:: r) j 0 hd (Nat.le_refl _) (by omega) (by omega) (by simp)
  simp only [Int.natCast_zero,Nat.sub_self,Nat.zero_add] at this
  rw [this]
  split
  ·exact ⟨_,_,rfl,rfl,rfl,rfl,rfl⟩
  ·exact ⟨_,_,rfl,rfl⟩
 rw [if_neg h2,if_neg h2]
 have quo:∃ (tk:ae) (e:Int),eX x (j:Int) (ib b) ((j+1:Nat):Int) 0 0 [] false false=some (tk,e)/\(match (if aG (fun c=>c !=ib b) r<r.length/\aG (fun c=>c !=ib b) r<=200 then some ((3:Int),(0:Int),r.take (aG (fun c=>c !=ib b) r),aG (fun c=>c !=ib b) r+2) else none) with | none=>e = -1 | some (k,m,t,w)=>tk.fKind=k/\tk.fNum=m/\tk.fText=t/\e=((j+w:Nat):Int)):=by
  rw [FI hx (ib b) r (j+1) hd1 (Nat.le_refl _) (by omega),hd1]
  rw [show j+1+aG (fun c=>c !=ib b) r-j-1=aG (fun c=>c !=ib b) r by omega]
  split
  ·exact ⟨_,_,rfl,rfl,rfl,rfl,by omega⟩
  ·exact ⟨_,_,rfl,rfl⟩
 by_cases h39:ib b=39
 ·rw [if_pos (by simpa using h39),if_pos (.inl h39),hone]
  exact quo
 rw [if_neg (by simpa using h39)]
 by_cases h34:ib b=34
 ·rw [if_pos (by simpa using h34),if_pos (.inr h34),hone]
  exact quo
 rw [if_neg (by simpa using h34),if_neg (by omega),qo]
 simp only [Option.bind_some]
 by_cases h4:lG (ib b)=true
 ·rw [if_pos h4,if_pos h4,hone]
  have:=uc (x:=x) (j:=j) (m:=1) (by omega)
  rw [this,hd]
  exact ⟨_,_,rfl,rfl,rfl,rfl,rfl⟩
 ·rw [if_neg h4,if_neg h4,FG j (by omega) (ib b)]
  split
  ·exact ⟨_,_,rfl,rfl,rfl,rfl,rfl⟩
  ·exact ⟨_,_,rfl,rfl⟩
theorem EI : ∀ (N n j:Nat) (bl:Bool) (out:List ae),n<=N->j<=x.length->x.length-j<=n->out.length<=120 ->
    (∀ tk,out[out.length-1]?=some tk->tk.fAfter=true\/(bl=false/\aQ (x.drop j)=false))->cZ x (j:Int) bl out=some (fN n (x.drop j) bl out j):=by
  have fin:∀ (j:Nat) (bl:Bool) (out:List ae) (n:Nat),x.length<=j->j<=x.length->out.length<=120->(∀ tk,out[out.length-1]?=some tk->tk.fAfter=true\/(bl=false/\aQ (x.drop j)=false))->cZ x (j:Int) bl out=some (fN n (x.drop j) bl out j):=by
    intro j bl out n h1 h2 ho hi
    have hd:x.drop j=[]:=List.drop_eq_nil_of_le h1
    have hs:fN n (x.drop j) bl out j=(out,0,0):=by rw [hd];cases n<;>rfl
    rw [hs,lu,if_neg (by simp [am];omega)]
    by_cases h0:out.length=0
    · rw [if_neg (by simp [am,h0])]
    · rw [if_pos (by simp [am];omega),am,aS (by omega) (by omega),show (out.length:Int)-1=((out.length-1:Nat):Int) by omega,ch,Int.toNat_natCast]
      have hlt:out.length-1<out.length:=by omega
      rw [List.getElem?_eq_getElem hlt]
      simp only [Option.bind_some]
      have ha:(out[out.length-1]).fAfter=true:=by
        rcases hi _ (List.getElem?_eq_getElem hlt) with h | ⟨_,h⟩
        · exact h
        · rw [hd] at h;cases h
      have:upd out (out.length-1) ⟨out[out.length-1].fKind,out[out.length-1].fNum,out[out.length-1].fText,out[out.length-1].fBefore,true⟩=out:=by
        rw [Bs,<-ha]
        exact List.set_getElem_self hlt
      rw [this]
  intro N
  induction N with
  | zero=>
    intro n j bl out hn hj hl ho hi
    exact fin j bl out n (by omega) hj ho hi
  | succ N ih =>
    intro n j bl out hn hj hl ho hi
    by_cases hlt:j<x.length
    · obtain ⟨b,r,hd⟩:∃ b r,x.drop j=b:: r:=⟨_,_,List.drop_eq_getElem_cons hlt⟩
      have hget:idx x (j:Int)=some b:=by
        rw [ch,List.getElem?_eq_getElem hlt]
        rw [List.drop_eq_getElem_cons hlt] at hd
        simp only [List.cons.injEq] at hd
        rw [hd.1]
      have hd1:x.drop (j+1)=r:=by
        rw [List.drop_eq_getElem_cons hlt] at hd
        simp only [List.cons.injEq] at hd
        exact hd.2
      obtain ⟨m,rfl⟩:∃ m,n=m+1:=⟨n-1,by omega⟩
      rw [lu,if_pos (by simpa [am] using hlt),hget,hd]
      simp only [Option.bind_some,fN]
      by_cases hb:ib b=32
      · rw [if_pos (by simpa using hb),if_pos hb,aS (by omega) (by omega),show (j:Int)+1=((j+1:Nat):Int) by omega,ih m (j+1) true out (by omega) (by omega) (by omega) ho (fun tk h=>by
          rcases hi tk h with h | ⟨_,h⟩
          · exact .inl h
          · rw [hd] at h
            simp [aQ,hb] at h),hd1]
      · rw [if_neg (by simpa using hb),if_neg hb]
        obtain ⟨tk,e,hs,hmt⟩:=xR hx hlt
        rw [hs]
        rw [hd] at hmt
        simp only [Option.bind_some]
        cases ht:iZ (b:: r) with
        | none=>
          rw [ht] at hmt
          simp only at hmt
          subst hmt
          rw [if_pos (by simp)]
        | some z=>
          obtain ⟨k,mm,t,w⟩:=z
          rw [ht] at hmt
          simp only at hmt
          obtain ⟨rfl,rfl,rfl,rfl⟩:=hmt
          have hw:=lH ht
          rw [<-hd,List.length_drop] at hw
          rw [if_neg (by simp;omega)]
          simp only
          by_cases h120:out.length=120
          · rw [if_pos (show (len out==120)=true by simp [am,h120]),if_pos (show 120<=out.length by omega)]
          · rw [if_neg (show ¬ (len out==120)=true by simp [am];omega),if_neg (show ¬ 120<=out.length by omega)]
            have hrest:(b:: r).drop w=x.drop (j+w):=by rw [<-hd,List.drop_drop]
            rw [hrest]
            have go:∀ af:Bool,af=aQ (x.drop (j+w))->((app out [(⟨tk.fKind,tk.fNum,tk.fText,bl,af⟩:ae)]).bind fun y=>cZ x ((j+w:Nat):Int) false y)=some (fN m (x.drop (j+w)) false (out++[⟨tk.fKind,tk.fNum,tk.fText,bl,aQ (x.drop (j+w))⟩]) (j+w)):=by
              intro af h
              rw [av (by simp;omega)]
              simp only [Option.bind_some]
              rw [h]
              exact ih m (j+w) false _ (by omega) (by omega) (by omega) (by simp;omega) (fun tk' hk=>by
                simp only [List.length_append,List.length_cons,List.length_nil,Nat.zero_add,Nat.add_sub_cancel] at hk
                rw [List.getElem?_append_right (Nat.le_refl _)] at hk
                simp only [Nat.sub_self,List.getElem?_cons_zero,Option.some.injEq] at hk
                subst hk
                cases hnb:aQ (x.drop (j+w))
                · exact .inr ⟨rfl,rfl⟩
                · exact .inl rfl)
            by_cases he:j+w=x.length
            · have hn2:x.drop (j+w)=[]:=List.drop_eq_nil_of_le (by omega)
              rw [if_pos (show (((j+w:Nat):Int)==len x)=true by simp [am,he])]
              exact go true (by rw [hn2];rfl)
            · rw [if_neg (show ¬ (((j+w:Nat):Int)==len x)=true by simp [am];omega),ch,List.getElem?_eq_getElem (by omega)]
              simp only [Option.bind_some]
              exact go _ (by rw [List.drop_eq_getElem_cons (by omega)];rfl)
    · exact fin j bl out n (by omega) hj ho hi
end
theorem sK {x:List UInt8} (h:x.length<=9223372036854775807):k9 x=some (eG x):=by
 rw [rV]
 unfold eG
 by_cases hl:x.length<=4000
 ·rw [if_neg (by simp [am];omega),js h]
  simp only [Option.bind_some]
  cases hp:ei x
  ·simp
  ·have:=EI hl x.length x.length 0 true [] (Nat.le_refl _) (by omega) (by omega) (by simp) (fun tk h=>by simp at h)
   simp only [Int.natCast_zero,List.drop_zero] at this
   simp only [Bool.not_true,Bool.false_eq_true,if_false,hl,and_self,if_true,wC]
   rw [this]
   rfl
 ·rw [if_pos (by simp [am];omega),if_neg (by omega)]
end Go.Dv.U

namespace Go.Dv.U
open Go Go.Dv Go.Proofs
theorem By : ∀ u:Nat,(Lib.decDigits u).all (fun b=>bc (ib b))=true/\sV (Lib.decDigits u) 0=u/\Lib.decDigits u≠[]:=by
 intro u
 induction u using Nat.strongRecOn with
 | _ u ih=>
  have hd:∀ d:Nat,d<10->bc (ib (UInt8.ofNat (48+d)))=true/\(UInt8.ofNat (48+d)).toNat-48=d:=by
   intro d hd
   have h:(UInt8.ofNat (48+d)).toNat=48+d:=by simp;omega
   refine ⟨?_,by omega⟩
   simp only [bc,C0,h,Bool.and_eq_true,decide_eq_true_eq];omega
  rw [Lib.decDigits]
  by_cases h:u<10
  ·rw [dif_pos h]
   obtain ⟨h1,h2⟩:=hd u h
   refine ⟨by simp only [List.all_cons,List.all_nil,h1,Bool.and_true],?_,by simp⟩
   simp only [sV,List.foldl_cons,List.foldl_nil];omega
  ·rw [dif_neg h]
   obtain ⟨i1,i2,i3⟩:=ih (u / 10) (by omega)
   obtain ⟨h1,h2⟩:=hd (u % 10) (by omega)
   refine ⟨by rw [List.all_append,i1];simp only [List.all_cons,List.all_nil,h1,Bool.and_true],?_,by simp⟩
   unfold sV at i2 ⊢
   rw [List.foldl_append,i2]
   simp only [List.foldl_cons,List.foldl_nil];omega
theorem EJ {u:Nat} (h:u<=1000000000000):(Lib.decDigits u).length<=13:=by
 rw [Lib.decDigits_length]
 exact l8 12 u (by omega)
theorem fP {p:Int->Bool}:∀ (a r:List UInt8),a.all (fun b=>p (ib b))=true->(∀ b t,r=b:: t->p (ib b)=false)->aG p (a++r)=a.length
 | [],r,_,h=>by
  cases r with
  | nil=>rfl
  | cons b t=>exact ju (h b t rfl)
 | x:: a,r,ha,h=>by
  rw [List.all_cons,Bool.and_eq_true] at ha
  rw [List.cons_append,fO ha.1,fP a r ha.2 h,List.length_cons]
theorem l9 {α:Type} (a r:List α):(a++r).take a.length=a:=by simp
theorem qE {α:Type} (a r:List α):(a++r).drop a.length=r:=by simp
def il (t:ae):List UInt8:=if t.fKind=1\/t.fKind=4 then t.fText else if t.fKind=2 then Lib.decDigits t.fNum.toNat else if t.fKind=3 then om t.fText else if t.fKind=5 then [40] else if t.fKind=6 then [41] else if t.fKind=7 then [60] else if t.fKind=8 then [62] else if t.fKind=9 then [44] else [58]
inductive Sc : Bool->List UInt8->List ae->Prop
 | nil (bl:Bool):Sc bl [] []
 | bl (bl:Bool) {r:List UInt8} {L:List ae} (h:Sc true r L):Sc bl (32:: r) L
 | tok (bl:Bool) {s:List UInt8} {k m:Int} {t:List UInt8} {w:Nat} {L:List ae} (hb:∀ b r,s=b:: r->¬ ib b=32) (ht:iZ s=some (k,m,t,w)) (h:Sc false (s.drop w) L):Sc bl s (⟨k,m,t,bl,aQ (s.drop w)⟩:: L)
theorem HB {b:UInt8} (h:ib b=32):b=32:=Br.1 (h.trans (by decide))
theorem qF : ∀ (n:Nat) (s:List UInt8) (bl:Bool) (out:List ae) (at_:Nat) (R:List ae) (e:Int),s.length<=n->fN n s bl out at_=(R,e,0)->∃ L,Sc bl s L/\R=out++L
 | n,[],bl,out,at_,R,e,_,h=>by
  have:fN n [] bl out at_=(out,0,0):=by cases n<;>rfl
  rw [this] at h
  cases h
  exact ⟨[],.nil bl,by simp⟩
 | 0,b:: r,bl,out,at_,R,e,hn,h=>by simp at hn
 | n + 1,b:: r,bl,out,at_,R,e,hn,h=>by
  rw [fN] at h
  split at h
  ·rename_i hb
   obtain rfl:=HB hb
   obtain ⟨L,h1,h2⟩:=qF n r true out (at_+1) R e (by simpa using hn) h
   exact ⟨L,.bl bl h1,h2⟩
  ·rename_i hb
   split at h
   ·cases h
   ·rename_i k m t w ht
    split at h
    ·cases h
    ·have hl:=lH ht
     obtain ⟨L,h1,h2⟩:=qF n _ false _ _ R e (by rw [List.length_drop];simp only [List.length_cons] at hn hl ⊢;omega) h
     exact ⟨_,.tok bl (fun b' r' e=>by cases e;exact hb) ht h1,by rw [h2];simp⟩
theorem C4 {bl:Bool} {s:List UInt8} {L:List ae} (h:Sc bl s L):∀ (n:Nat) (out:List ae) (at_:Nat),s.length<=n->out.length+L.length<=120->fN n s bl out at_=(out++L,0,0):=by
 induction h with
 | nil bl=>intro n out at_ _ _;cases n<;>simp [fN]
 | bl bl h ih=>
  intro n out at_ hn hl
  cases n with
  | zero=>simp at hn
  | succ n=>
   have:ib 32=32:=by decide
   rw [fN,if_pos this]
   exact ih n out (at_+1) (by simpa using hn) hl
 | @tok bl s k m t w L hb ht h ih=>
  intro n out at_ hn hl
  have hlen:=lH ht
  cases s with
  | nil=>cases ht
  | cons b r=>
   cases n with
   | zero=>simp at hn
   | succ n=>
    simp only [List.length_cons] at hl hn hlen
    rw [fN,if_neg (hb b r rfl),ht]
    simp only
    rw [if_neg (by omega),ih n _ _ (by rw [List.length_drop];simp only [List.length_cons];omega) (by simp;omega)]
    simp
def hdD (s:List UInt8):Bool×Bool×Bool:=match s with | []=>(false,false,true) | b:: _=>(bI (ib b),bc (ib b),ib b==32)
theorem Bz {b:UInt8} (h:ib b=39\/ib b=34):bI (ib b)=false/\bc (ib b)=false/\(ib b==32)=false/\gk (ib b)=false:=by
 rcases h with h | h<;>rw [h]<;>decide
theorem yZ {c:Int} {s:List UInt8} (h:hasB c s=false):∀ b∈s,ib b≠c:=by
 intro b hb e
 have:hasB c s=true:=List.any_eq_true.2 ⟨b,hb,by simpa using e⟩
 rw [h] at this;cases this
theorem BA {s:List UInt8} {k m:Int} {t:List UInt8} {w:Nat} (hp:ei s=true) (ht:iZ s=some (k,m,t,w)) (bf af:Bool):
    (1<=k/\k<=10)/\((k=1/\m=0/\a6 t=true)\/(k=2/\t=[]/\0<=m/\m<=1000000000000)\/(k=3/\m=0/\sW t=true)\/(k=4/\m=0/\∃ b,t=[b]/\lG (ib b)=true)\/(5<=k/\m=0/\t=[])) /\
    (il ⟨k,m,t,bf,af⟩).length<=w/\hdD (il ⟨k,m,t,bf,af⟩)=hdD s/\ei (il ⟨k,m,t,bf,af⟩)=true /\
    ∀ r:List UInt8,(∀ b q,r=b:: q->bI (ib b)=true->∃ b' q',s.drop w=b':: q'/\bI (ib b')=true/\(bc (ib b)=true->bc (ib b')=true))->iZ (il ⟨k,m,t,bf,af⟩++r)=some (k,m,t,(il ⟨k,m,t,bf,af⟩).length):=by
  cases s with
  | nil=>cases ht
  | cons b r0 =>
    have hbp:C2 b=true:=by simp only [ei,List.all_cons,Bool.and_eq_true] at hp;exact hp.1
    have hrp:ei r0=true:=by simp only [ei,List.all_cons,Bool.and_eq_true] at hp;exact hp.2
    have tkp:∀ (l:List UInt8) (n:Nat),ei l=true->ei (l.take n)=true:=fun l n h=>List.all_eq_true.2 fun x hx=>List.all_eq_true.1 h x (List.mem_of_mem_take hx)
    rw [b0] at ht
    split at ht
    · -- a name
      rename_i hl
      split at ht
      · rename_i hlen
        cases ht
        have hle:=fp bI (b:: r0)
        have hnb:bI (ib b)=true:=by unfold bI;rw [hl];rfl
        obtain ⟨n,hn⟩:∃ n,aG bI (b:: r0)=n+1:=⟨aG bI r0,fO hnb⟩
        have htk:(b:: r0).take (aG bI (b:: r0))=b:: r0.take n:=by rw [hn];rfl
        have hall:=ge bI (b:: r0)
        have htl:((b:: r0).take (aG bI (b:: r0))).length=aG bI (b:: r0):=by rw [List.length_take];omega
        have htx:il ⟨1,0,(b:: r0).take (aG bI (b:: r0)),bf,af⟩=(b:: r0).take (aG bI (b:: r0)):=by simp [il]
        rw [htx]
        refine ⟨by omega,.inl ⟨rfl,rfl,?_⟩,by omega,by rw [htk];rfl,tkp _ _ hp,fun r hr=>?_⟩
        · rw [htk] at hall htl ⊢
          unfold a6
          simp only [hl,Bool.true_and,Bool.and_eq_true,decide_eq_true_eq]
          simp only [List.all_cons,Bool.and_eq_true] at hall
          simp only [List.length_cons] at htl ⊢
          first
          | exact ⟨hall.2,by omega⟩
          | exact ⟨by omega,hall.2⟩
          | (simp [hall.1,hall.2];omega)
        · have hrun:aG bI ((b:: r0).take (aG bI (b:: r0))++r)=((b:: r0).take (aG bI (b:: r0))).length:=fP _ _ hall fun b' q' e=>by
            cases hb':bI (ib b') with
            | false=>rfl
            | true=>
              obtain ⟨b2,q2,e2,h2,_⟩:=hr b' q' e hb'
              have:=oq (p:=bI) (b:: r0) b2 q2 e2
              rw [h2] at this;cases this
          have e1:(b:: r0).take (aG bI (b:: r0))++r=b:: (r0.take n++r):=by rw [htk];rfl
          rw [e1] at hrun ⊢
          rw [b0,if_pos hl,hrun,<-e1,l9,if_pos (by omega)]
      · cases ht
    rename_i hl
    split at ht
    · -- a number
      rename_i hd
      split at ht
      · rename_i hc
        cases ht
        obtain ⟨hc1,hc2⟩:=hc
        have hle:=fp bc (b:: r0)
        have h1:1<=aG bc (b:: r0):=by rw [fO hd];omega
        generalize hu:sV ((b:: r0).take (aG bc (b:: r0))) 0=u at hc2
        have htl:((b:: r0).take (aG bc (b:: r0))).length=aG bc (b:: r0):=by rw [List.length_take];omega
        have hall:=ge bc (b:: r0)
        have hub:u<10 ^ aG bc (b:: r0):=by
          have:=xz ((b:: r0).take (aG bc (b:: r0))) 0 0 (by
            rw [List.all_eq_true] at hall ⊢
            intro x hx
            have:=hall x hx
            simp only [bc,C0,Bool.and_eq_true,decide_eq_true_eq] at this
            simp only [Bn,Bool.and_eq_true,decide_eq_true_eq];omega) (by simp)
          rw [hu,htl] at this
          simpa using this
        obtain ⟨d1,d2,d3⟩:=By u
        have hdl:(Lib.decDigits u).length<=aG bc (b:: r0):=by
          obtain ⟨j,hj⟩:∃ j,aG bc (b:: r0)=j+1:=⟨aG bc (b:: r0)-1,by omega⟩
          rw [Lib.decDigits_length,hj]
          exact l8 j u (by rw [<-hj];exact hub)
        have htx:il ⟨2,(u:Int),[],bf,af⟩=Lib.decDigits u:=by simp [il]
        rw [htx]
        have dnm:∀ c:UInt8,bc (ib c)=true->bI (ib c)=true/\gk (ib c)=false/\(ib c==32)=false/\C2 c=true:=by
          intro c hc
          simp only [bc,Bool.and_eq_true,decide_eq_true_eq] at hc
          refine ⟨by simp only [bI,bc,hc.1,hc.2,decide_true,Bool.and_true,Bool.or_true,Bool.true_or],?_,?_,?_⟩
          · simp only [gk,Bool.or_eq_false_iff,Bool.and_eq_false_iff,decide_eq_false_iff_not];omega
          · rw [beq_eq_false_iff_ne];omega
          · simp only [C2,Bool.and_eq_true,decide_eq_true_eq];omega
        refine ⟨by omega,.inr (.inl ⟨rfl,rfl,by omega,by omega⟩),hdl,?_,?_,fun r hr=>?_⟩
        · cases hdd:Lib.decDigits u with
          | nil=>exact absurd hdd d3
          | cons c q=>
            rw [hdd,List.all_cons,Bool.and_eq_true] at d1
            obtain ⟨a1,_,a3,_⟩:=dnm c d1.1
            obtain ⟨b1,_,b3,_⟩:=dnm b hd
            simp only [hdD,a1,a3,b1,b3,hd,d1.1]
        · rw [List.all_eq_true] at d1
          exact List.all_eq_true.2 fun x hx=>(dnm x (d1 x hx)).2.2.2
        · have hrun:aG bc (Lib.decDigits u++r)=(Lib.decDigits u).length:=fP _ _ d1 fun b' q' e=>by
            cases hb':bc (ib b') with
            | false=>rfl
            | true=>
              obtain ⟨b2,q2,e2,_,h3⟩:=hr b' q' e (dnm b' hb').1
              have:=oq (p:=bc) (b:: r0) b2 q2 e2
              rw [h3 hb'] at this;cases this
          cases hdd:Lib.decDigits u with
          | nil=>exact absurd hdd d3
          | cons c q=>
            have hc:=d1
            rw [hdd,List.all_cons,Bool.and_eq_true] at hc
            obtain ⟨_,a2,_,_⟩:=dnm c hc.1
            have e1:c:: q++r=c:: (q++r):=rfl
            rw [hdd] at hrun
            rw [e1] at hrun ⊢
            rw [b0,if_neg (by rw [a2];simp),if_pos hc.1,hrun,<-e1,l9,<-hdd,d2,if_pos ⟨by omega,hc2⟩]
      · cases ht
    rename_i hd
    split at ht
    · -- a string
      rename_i hq
      split at ht
      · rename_i hc
        cases ht
        obtain ⟨hc1,hc2⟩:=hc
        generalize hn:aG (fun c=>c !=ib b) r0=n at hc1 hc2
        have htl:(r0.take n).length=n:=by rw [List.length_take];omega
        have hno:hasB (ib b) (r0.take n)=false:=by
          have:=ge (fun c=>c !=ib b) r0
          rw [hn] at this
          rw [<-Bool.not_eq_true]
          intro h
          obtain ⟨x,hx,he⟩:=List.any_eq_true.1 h
          have:=List.all_eq_true.1 this x hx
          simp only [bne_iff_ne,ne_eq] at this
          exact this (by simpa using he)
        have hcan:sW (r0.take n)=true:=by
          have hp2:=tkp r0 n hrp
          have hb2:(hasB 39 (r0.take n)&&hasB 34 (r0.take n))=false:=by
            rcases hq with h | h
            · rw [h] at hno;rw [hno];rfl
            · rw [h] at hno;rw [hno,Bool.and_false]
          unfold sW
          rw [hp2,hb2,htl];simp;omega
        -- the om that is printed
        obtain ⟨q,hqq,hqt,hqn⟩:∃ q:UInt8,(ib q=39\/ib q=34)/\om (r0.take n)=q:: r0.take n++[q]/\hasB (ib q) (r0.take n)=false:=by
          unfold om
          rw [if_pos hcan]
          by_cases h39:hasB 39 (r0.take n)=true
          · rw [if_pos h39]
            refine ⟨34,.inr (by decide),rfl,?_⟩
            rcases hq with h | h
            · rw [h,h39] at hno;cases hno
            · rw [h] at hno;exact hno
          · rw [if_neg h39]
            exact ⟨39,.inl (by decide),rfl,by rw [show ib 39=39 by decide];simpa using h39⟩
        have htx:il ⟨3,0,r0.take n,bf,af⟩=q:: r0.take n++[q]:=by rw [<-hqt];simp [il]
        rw [htx]
        obtain ⟨q1,q2,q3,q4⟩:=Bz hqq
        obtain ⟨b1,b2,b3,b4⟩:=Bz hq
        have hqp:C2 q=true:=by rcases hqq with h | h<;>simp [C2,h]
        refine ⟨by omega,.inr (.inr (.inl ⟨rfl,rfl,hcan⟩)),by simp;omega,?_,?_,fun r _=>?_⟩
        · show hdD (q:: (r0.take n++[q]))=hdD (b:: r0)
          simp only [hdD,q1,q2,q3,b1,b2,b3]
        · have:=tkp r0 n hrp
          simp only [ei] at this ⊢
          simp [this,hqp]
        · have hrun:aG (fun c=>c !=ib q) (r0.take n++q:: r)=(r0.take n).length:=fP _ _ (by
              rw [List.all_eq_true];intro x hx;simpa using yZ hqn x hx) fun b' q' e=>by cases e;simp
          have e1:q:: r0.take n++[q]++r=q:: (r0.take n++q:: r):=by simp
          rw [e1,b0,if_neg (by rw [q4];simp),if_neg (by rw [q2];simp),if_pos hqq,hrun,l9,htl,if_pos ⟨by simp;omega,hc2⟩]
          simp [htl]
      · cases ht
    rename_i hq
    split at ht
    · -- an operator
      rename_i ho
      cases ht
      have htx:il ⟨4,0,[b],bf,af⟩=[b]:=by simp [il]
      rw [htx]
      refine ⟨by omega,.inr (.inr (.inr (.inl ⟨rfl,rfl,b,rfl,ho⟩))),by simp,rfl,by simp [ei,hbp],fun r _=>?_⟩
      show iZ (b:: r)=_
      rw [b0,if_neg hl,if_neg hd,if_neg hq,if_pos ho]
      rfl
    rename_i ho
    split at ht
    · -- a mark
      rename_i hm
      cases ht
      have hk:(1<=b9 (ib b)/\b9 (ib b)<=10)/\5<=b9 (ib b)/\il ⟨b9 (ib b),0,[],bf,af⟩=[b]:=by
        have e:∀ c:UInt8,ib b=ib c->b=c:=fun c h=>Br.1 h
        unfold b9 at hm ⊢
        by_cases h1:ib b=40
        · obtain rfl:=e 40 (h1.trans (by decide));rw [if_pos h1];exact ⟨by omega,by omega,rfl⟩
        rw [if_neg h1] at hm ⊢
        by_cases h2:ib b=41
        · obtain rfl:=e 41 (h2.trans (by decide));rw [if_pos h2];exact ⟨by omega,by omega,rfl⟩
        rw [if_neg h2] at hm ⊢
        by_cases h3:ib b=60
        · obtain rfl:=e 60 (h3.trans (by decide));rw [if_pos h3];exact ⟨by omega,by omega,rfl⟩
        rw [if_neg h3] at hm ⊢
        by_cases h4:ib b=62
        · obtain rfl:=e 62 (h4.trans (by decide));rw [if_pos h4];exact ⟨by omega,by omega,rfl⟩
        rw [if_neg h4] at hm ⊢
        by_cases h5:ib b=44
        · obtain rfl:=e 44 (h5.trans (by decide));rw [if_pos h5];exact ⟨by omega,by omega,rfl⟩
        rw [if_neg h5] at hm ⊢
        by_cases h6:ib b=58
        · obtain rfl:=e 58 (h6.trans (by decide));rw [if_pos h6];exact ⟨by omega,by omega,rfl⟩
        rw [if_neg h6] at hm
        exact absurd rfl hm
      rw [hk.2.2]
      refine ⟨hk.1,.inr (.inr (.inr (.inr ⟨hk.2.1,rfl,rfl⟩))),by simp,rfl,by simp [ei,hbp],fun r _=>?_⟩
      show iZ (b:: r)=_
      rw [b0,if_neg hl,if_neg hd,if_neg hq,if_neg ho,if_pos hm]
      rfl
    · cases ht
def Gq (a:Bool):List ae->List UInt8
 | []=>[]
 | u:: _=>if (u.fBefore||a)=true then [32] else []
def prT : List ae->List UInt8
 | []=>[]
 | t:: r=>il t++(Gq t.fAfter r++prT r)
theorem ou : ∀ s,aQ s=(hdD s).2.2
 | []=>rfl
 | _:: _=>rfl
theorem BB {a r:List UInt8} (h:a≠[]):hdD (a++r)=hdD a:=by
 cases a with
 | nil=>exact absurd rfl h
 | cons=>rfl
def tOk (t:ae):Prop:=(1<=t.fKind/\t.fKind<=10)/\((t.fKind=1/\t.fNum=0/\a6 t.fText=true)\/(t.fKind=2/\t.fText=[]/\0<=t.fNum/\t.fNum<=1000000000000)\/(t.fKind=3/\t.fNum=0/\sW t.fText=true)\/(t.fKind=4/\t.fNum=0/\∃ b,t.fText=[b]/\lG (ib b)=true)\/(5<=t.fKind/\t.fNum=0/\t.fText=[]))
structure ScP (bl:Bool) (s:List UInt8) (L:List ae):Prop where
 sc:∀ u r,L=u:: r->Sc u.fBefore (prT L) L
 len:(prT L).length<=s.length
 len1:L≠[]->aQ s=true->(prT L).length+1<=s.length
 pl:ei (prT L)=true
 ok:∀ t∈L,tOk t
 none:L=[]->aQ s=true
 bf:∀ u r,L=u:: r->u.fBefore=(bl||aQ s)
 hd:L≠[]->aQ s=false->hdD (prT L)=hdD s
theorem GU {bl:Bool} {s:List UInt8} {L:List ae} (h:Sc bl s L):ei s=true->ScP bl s L:=by
 induction h with
 | nil bl=>intro _;exact ⟨fun u r h=>(by cases h),by simp [prT],fun h=>absurd rfl h,rfl,fun t h=>(by cases h),fun _=>rfl,fun u r h=>(by cases h),fun h=>absurd rfl h⟩
 | bl bl h ih=>
  intro hp
  have hp':=hp
  simp only [ei,List.all_cons,Bool.and_eq_true] at hp'
  have ih:=ih hp'.2
  have h32:∀ r,aQ (32:: r)=true:=fun _=>(by decide:(ib 32==32)=true)
  refine ⟨ih.sc,by have:=ih.len;simp only [List.length_cons];omega,fun _ _=>by have:=ih.len;simp only [List.length_cons];omega,ih.pl,ih.ok,fun _=>h32 _,fun u r e=>?_,fun _ hf=>?_⟩
  ·rw [ih.bf u r e,h32];simp
  ·rw [h32] at hf;cases hf
 | @tok bl s k m t w L hb ht h ih=>
  intro hp
  have hlen:=lH ht
  have hps:ei (s.drop w)=true:=List.all_eq_true.2 fun x hx=>List.all_eq_true.1 hp x (List.mem_of_mem_drop hx)
  have ih:=ih hps
  obtain ⟨g1,g2,g3,g4,g5,g6⟩:=BA hp ht bl (aQ (s.drop w))
  have hnb:aQ s=false:=by
   cases s with
   | nil=>cases ht
   | cons b r=>simpa [aQ] using hb b r rfl
  have hne:il ⟨k,m,t,bl,aQ (s.drop w)⟩≠[]:=by
   intro e
   rw [e] at g4
   rw [ou,<-g4] at hnb
   cases hnb
  -- the rest
  obtain ⟨rest,hrest⟩:∃ rest,rest=Gq (aQ (s.drop w)) L++prT L:=⟨_,rfl⟩
  have hpr:prT (⟨k,m,t,bl,aQ (s.drop w)⟩:: L)=il ⟨k,m,t,bl,aQ (s.drop w)⟩++rest:=by rw [hrest];rfl
  have hcase:(L=[]/\rest=[]/\aQ (s.drop w)=true)\/(∃ u r,L=u:: r/\((aQ (s.drop w)=true/\rest=32:: prT L/\u.fBefore=true)\/(aQ (s.drop w)=false/\rest=prT L/\u.fBefore=false))):=by
   cases hL:L with
   | nil=>subst hL;exact .inl ⟨rfl,hrest,ih.none rfl⟩
   | cons u r=>
    right
    refine ⟨u,r,rfl,?_⟩
    have hbf:=ih.bf u r hL
    rw [hL] at hrest
    rw [Bool.false_or] at hbf
    cases hn:aQ (s.drop w) with
    | true=>rw [hn] at hbf;left;exact ⟨rfl,by rw [hrest];simp only [Gq,hbf,Bool.true_or,if_true];rfl,hbf⟩
    | false=>rw [hn] at hbf;right;exact ⟨rfl,by rw [hrest];simp only [Gq,hbf,hn,Bool.or_self,Bool.false_eq_true,if_false];rfl,hbf⟩
  have hnext:aQ rest=aQ (s.drop w):=by
   rcases hcase with ⟨_,h2,h3⟩ | ⟨u,r,hL,⟨h1,h2,_⟩ | ⟨h1,h2,_⟩⟩
   ·rw [h2,h3];rfl
   ·rw [h2,h1];exact (by decide:(ib 32==32)=true)
   ·rw [h2,ou,ih.hd (by rw [hL];simp) h1,<-ou]
  have htk:=g6 rest fun b q e hn=>by
   rcases hcase with ⟨_,h2,_⟩ | ⟨u,r,hL,⟨h1,h2,_⟩ | ⟨h1,h2,_⟩⟩
   ·rw [h2] at e;cases e
   ·rw [h2] at e;cases e;exact absurd hn (by decide)
   ·have hh:=ih.hd (by rw [hL];simp) h1
    rw [<-h2,e] at hh
    cases hs:s.drop w with
    | nil=>rw [hs] at h1;cases h1
    | cons b' q'=>
     rw [hs] at hh
     simp only [hdD,Prod.mk.injEq] at hh
     exact ⟨b',q',rfl,by rw [<-hh.1];exact hn,fun hd=>by rw [<-hh.2.1];exact hd⟩
  have hsr:Sc false rest L:=by
   rcases hcase with ⟨h1,h2,_⟩ | ⟨u,r,hL,⟨h1,h2,h3⟩ | ⟨h1,h2,h3⟩⟩
   ·rw [h1,h2];exact .nil false
   ·have:=ih.sc u r hL;rw [h3] at this;rw [h2];exact .bl false this
   ·have:=ih.sc u r hL;rw [h3] at this;rw [h2];exact this
  have hrl:rest.length<=(s.drop w).length:=by
   rcases hcase with ⟨_,h2,_⟩ | ⟨u,r,hL,⟨h1,h2,_⟩ | ⟨h1,h2,_⟩⟩
   ·rw [h2];simp
   ·have:=ih.len1 (by rw [hL];simp) h1;rw [h2];simpa using this
   ·have:=ih.len;rw [h2];exact this
  have hrp:ei rest=true:=by
   rcases hcase with ⟨_,h2,_⟩ | ⟨u,r,hL,⟨h1,h2,_⟩ | ⟨h1,h2,_⟩⟩
   ·rw [h2];rfl
   ·rw [h2]
    simp only [ei,List.all_cons,Bool.and_eq_true]
    exact ⟨by decide,ih.pl⟩
   ·rw [h2];exact ih.pl
  have hdr:(il ⟨k,m,t,bl,aQ (s.drop w)⟩++rest).drop (il ⟨k,m,t,bl,aQ (s.drop w)⟩).length=rest:=qE _ _
  have hsc:Sc bl (il ⟨k,m,t,bl,aQ (s.drop w)⟩++rest) (⟨k,m,t,bl,aQ (s.drop w)⟩:: L):=by
   have:=Sc.tok bl (s:=il ⟨k,m,t,bl,aQ (s.drop w)⟩++rest) (L:=L) (fun b r e=>by
    have hh:hdD (il ⟨k,m,t,bl,aQ (s.drop w)⟩++rest)=hdD s:=(BB hne).trans g4
    rw [e] at hh
    have h2:=ou s
    rw [hnb,<-hh] at h2
    simpa [hdD] using h2.symm) htk (by rw [hdr];exact hsr)
   rw [hdr,hnext] at this
   exact this
  refine ⟨fun u r e=>?_,?_,fun _ hn=>?_,?_,fun t' ht'=>?_,fun e=>(by cases e),fun u r e=>?_,fun _ _=>?_⟩
  ·cases e;rw [hpr];exact hsc
  ·rw [hpr,List.length_append]
   have:=hrl
   rw [List.length_drop] at this
   omega
  ·rw [hnb] at hn;cases hn
  ·rw [hpr]
   simp only [ei,List.all_append,Bool.and_eq_true] at g5 hrp ⊢
   exact ⟨g5,hrp⟩
  ·rcases List.mem_cons.1 ht' with e | e
   ·subst e;exact ⟨g1,g2⟩
   ·exact ih.ok t' e
  ·cases e;rw [hnb];simp
  ·rw [hpr,BB hne];exact g4
theorem sL : ∀ (n:Nat) (s:List UInt8) (bl:Bool) (out:List ae) (at_:Nat) (R:List ae) (e:Int),out.length<=120->fN n s bl out at_=(R,e,0)->R.length<=120
 | n,[],bl,out,at_,R,e,ho,h=>by
  have:fN n [] bl out at_=(out,0,0):=by cases n<;>rfl
  rw [this] at h
  cases h
  exact ho
 | 0,b:: r,bl,out,at_,R,e,ho,h=>by
  rw [fN] at h
  cases h
  exact ho
 | n+1,b:: r,bl,out,at_,R,e,ho,h=>by
  rw [fN] at h
  split at h
  ·exact sL n r true out _ R e ho h
  ·split at h
   ·cases h
   ·split at h
    ·cases h
    ·exact sL n _ false _ _ R e (by simp;omega) h
theorem zM {x:List UInt8} {L:List ae} {e:Int} (h:eG x=(L,e,0)):eG (prT L)=(L,0,0)/\(∀ t∈L,tOk t)/\L.length<=120/\(prT L).length<=4000:=by
 unfold eG at h
 split at h
 ·rename_i hx
  obtain ⟨L',h1,h2⟩:=qF _ _ _ _ _ _ _ (Nat.le_refl _) h
  have hc:=sL _ _ _ _ _ _ _ (by simp) h
  rw [List.nil_append] at h2
  subst h2
  have hp:=GU h1 hx.2
  have hl:=hp.len
  refine ⟨?_,hp.ok,hc,by omega⟩
  unfold eG
  rw [if_pos ⟨by omega,hp.pl⟩]
  cases hL:L with
  | nil=>rfl
  | cons u r=>
   have hs:=hp.sc u r hL
   rw [hp.bf u r hL] at hs
   simp only [Bool.true_or] at hs
   rw [<-hL]
   have:=C4 hs (prT L).length [] 0 (Nat.le_refl _) (by simpa using hc)
   simpa using this
 ·cases h
end Go.Dv.U

namespace Go.Dv.U
open Go Go.Dv Go.Proofs
theorem y2 {t:ae} (h:tOk t):iD t=some true:=by
  obtain ⟨⟨k1,k2⟩,h⟩:=h
  rw [sH]
  simp only [nw,oj,hU,kn,Option.bind_some]
  rcases h with ⟨a,b,c⟩ | ⟨a,b,c,d⟩ | ⟨a,b,c⟩ | ⟨a,b,x,c,d⟩ | ⟨a,b,c⟩
  · simp [a,b,c]
  · simp [a,b,c,d]
  · simp [a,b,c]
  · have hop:lq t.fText=some true:=by
      rw [sI,c]
      have e:(len [x]==(1:Int))=true:=rfl
      rw [if_pos e,gJ (by decide) x]
      simp only [Option.bind_some,Option.some.injEq]
      have all:∀ x:UInt8,lG (ib x)=true->hasB (ib x) [43,45,42,47,124,46,36,64,61]=true:=dH (by decide +kernel)
      exact all x d
    simp [a,b,hop]
  · have e1:¬ t.fKind=1:=by omega
    have e2:¬ t.fKind=2:=by omega
    have e3:¬ t.fKind=3:=by omega
    have e4:¬ t.fKind=4:=by omega
    simp [e1,e2,e3,e4,b,c,a,k2]
end Go.Dv.U

namespace Go.Dv.U
open Go Go.Dv Go.Proofs
mutual
def aa.n : aa->Nat
 | ⟨_,_,_,ks⟩=>1+aa.ns ks
def aa.ns : List aa->Nat
 | []=>0
 | y:: r=>aa.n y+aa.ns r
end
theorem aa.ns_eq : ∀ l,aa.ns l=aA aa.n l
 | []=>rfl
 | y:: r=>by simp only [aa.ns,aA,aa.ns_eq r]
theorem aa.n_eq (x:aa):x.n=1+aA aa.n x.fKids:=by
 rw [<-aa.ns_eq];cases x;rfl
mutual
def aa.all (p:aa->Bool):aa->Bool
 | ⟨a,b,c,ks⟩=>p ⟨a,b,c,ks⟩&&aa.alls p ks
def aa.alls (p:aa->Bool):List aa->Bool
 | []=>true
 | y:: r=>aa.all p y&&aa.alls p r
end
theorem aa.alls_eq (p:aa->Bool):∀ l,aa.alls p l=l.all (aa.all p)
 | []=>rfl
 | y:: r=>by simp only [aa.alls,List.all_cons,aa.alls_eq p r]
theorem aa.all_eq (p:aa->Bool) (x:aa):x.all p=(p x&&x.fKids.all (aa.all p)):=by
 rw [<-aa.alls_eq];cases x;rfl
def qp (x:aa):Bool:=
 if x.fKind=1 then x.fKids.length==0&&x.fNum==0&&sW x.fText
 else if x.fKind=2 then x.fKids.length==0&&x.fText==[]&&(decide (0<=x.fNum)&&decide (x.fNum<=1000000000000))
 else if x.fKind=3\/x.fKind=16\/x.fKind=17\/x.fKind=18 then x.fKids.length==0&&x.fNum==0&&a6 x.fText
 else if x.fKind=4 then decide (x.fKids.length<=6)&&x.fNum==0&&a6 x.fText
 else x.fNum==0&&x.fText==[]&&(if x.fKind=12\/x.fKind=13 then (match x.fKids with | [_,y]=>y.fKind==3 | _=>false)
  else if x.fKind=14\/x.fKind=15 then x.fKids.length==1
  else if 5<=x.fKind/\x.fKind<=11 then x.fKids.length==2 else false)
def aa.good (x:aa):Bool:=x.all qp
def aa.valid (x:aa):Bool:=x.good&&decide (x.n<=60)
theorem aa.good_eq (x:aa):x.good=(qp x&&x.fKids.all aa.good):=aa.all_eq _ _
theorem vf (n:Int):l4 n=some (decide (0<=n)&&decide (n<=1000000000000)):=by
 rw [oj,hU];rfl
theorem dI (k:Int):lf k=some (decide (16<=k)&&decide (k<=18)):=by
 rw [wE,hU];rfl
theorem vj (k:Int):oO k=some (decide (6<=k)&&decide (k<=13)):=by
 rw [u7,hU];rfl
theorem y3 (k:Int):(k=1\/k=2\/k=3\/k=4\/k=5\/k=6\/k=7\/k=8\/k=9\/k=10\/k=11\/k=12\/k=13\/k=14\/k=15\/k=16\/k=17\/k=18)\/(∀ j:Int,1<=j->j<=18->¬ k=j):=by
 by_cases h:1<=k/\k<=18
 ·left;omega
 ·right;intro j h1 h2 e;omega
theorem nx (x:aa):gg x=some (qp x):=by
  obtain ⟨k,n,t,ks⟩:=x
  rw [nq]
  simp only [kn,vf,dI,vj,nw,kc,ke,kf,kg,Option.bind_some,am,oK,qp]
  rcases y3 k with hk | hk
  · rcases hk with rfl | rfl | rfl | rfl | rfl | rfl | rfl | rfl | rfl | rfl | rfl | rfl | rfl | rfl | rfl | rfl | rfl | rfl<;>rcases ks with _ | ⟨a,_ | ⟨b,_ | ⟨c,r⟩⟩⟩<;>simp<;>first | grind | (by_cases hn:n=0<;>by_cases hm:a6 t=true<;>by_cases hr:r.length<=3<;>simp [hn,hm,hr]<;>omega)
  · have hr:(decide (16<=k)&&decide (k<=18))=false:=by
      by_cases h1:16<=k
      · have:=hk 16 (by omega) (by omega);have:=hk 17 (by omega) (by omega);have:=hk 18 (by omega) (by omega)
        have h2:¬ k<=18:=by omega
        simp [h2]
      · simp [h1]
    have hr2:(decide (6<=k)&&decide (k<=13))=false:=by
      by_cases h1:6<=k
      · have h2:¬ k<=13:=fun h2=>hk k (by omega) (by omega) rfl
        simp [h2]
      · simp [h1]
    have hr3:¬ (5<=k/\k<=11):=fun h=>hk k (by omega) (by omega) rfl
    simp only [hk,hr,hr2,hr3,beq_iff_eq,Int.reduceLE,or_self,if_false,Bool.false_eq_true,not_false_eq_true,Bool.and_false,ite_self]
theorem vk (x:aa):oN x.fKind x.fNum x.fText x.fKids=some (qp x):=by
 obtain ⟨k,n,t,ks⟩:=x
 rw [u6]
 simp only [oo,zJ,sJ,o5,o6,o9,pa,pb,o8,Option.bind_some,am,oK,qp]
 rcases y3 k with hk | hk
 ·rcases hk with rfl | rfl | rfl | rfl | rfl | rfl | rfl | rfl | rfl | rfl | rfl | rfl | rfl | rfl | rfl | rfl | rfl | rfl<;>rcases ks with _ | ⟨a,_ | ⟨b,_ | ⟨c,r⟩⟩⟩<;>simp<;>first | grind | (by_cases hn:n=0<;>by_cases hm:a6 t=true<;>by_cases hr:r.length<=3<;>simp [hn,hm,hr]<;>omega)
 ·have hr3:¬ (5<=k/\k<=11):=fun h=>hk k (by omega) (by omega) rfl
  simp only [hk,hr3,beq_iff_eq,Int.reduceLE,or_self,if_false,Bool.false_eq_true,not_false_eq_true,Bool.and_false,ite_self]
theorem aa.n_le_m : ∀ x:aa,x.n<=x.m+1:=by
 intro x
 induction x using aa.ind with
 | h x ih=>
  rw [x.n_eq,x.m_eq]
  have:∀ l:List aa,(∀ y∈l,y.n<=y.m+1)->aA aa.n l<=l.length+aA aa.m l:=by
   intro l
   induction l with
   | nil=>intro _;simp [aA]
   | cons y r ihr=>
    intro h
    have h1:=h y (by simp)
    have h2:=ihr fun z hz=>h z (by simp [hz])
    simp only [aA,List.length_cons];omega
  have:=this x.fKids ih
  omega
theorem sM : ∀ x:aa,x.m<=1048576->∀ c:Int,0<=c->c<=60->iA x c=some (if x.good=true/\c+x.n<=60 then c+x.n else 61):=by
 intro x
 induction x using aa.ind with
 | h x ih=>
  intro hm c h0 h1
  have hmq:=x.m_eq
  have hn:=x.n_eq
  have loop:∀ c:Int,0<=c->c<=60->dF c x.fKids (len x.fKids) ((0:Nat):Int)=some (if x.fKids.all aa.good=true/\c+aA aa.n x.fKids<=60 then c+aA aa.n x.fKids else 61):=by
   refine db (xs:=x.fKids) (by omega) (P:=fun i l=>∀ c:Int,0<=c->c<=60->dF c x.fKids (len x.fKids) i=some (if l.all aa.good=true/\c+aA aa.n l<=60 then c+aA aa.n l else 61)) ?_ ?_
   ·intro c h0 h1
    rw [iH]
    simp [am,aA,h1]
   ·intro i y l _ hlt hy hi hw ih2 c h0 h1
    rw [iH,hi,hw,if_pos (by simp [am,hlt])]
    have hmy:=aa.m_kid hy
    simp only [Option.bind_some,aa.re_eq,ih y hy (by omega) c h0 h1]
    have e:aA aa.n (y:: l)=y.n+aA aa.n l:=rfl
    rw [e,List.all_cons]
    by_cases hc:y.good=true/\c+y.n<=60
    ·rw [if_pos hc,if_neg (by simp;omega),ih2 _ (by omega) hc.2]
     congr 1
     by_cases hd:l.all aa.good=true/\c+y.n+aA aa.n l<=60
     ·rw [if_pos hd,if_pos ⟨Bool.and_eq_true_iff.2 ⟨hc.1,hd.1⟩,by omega⟩];omega
     ·rw [if_neg hd,if_neg fun h=>hd ⟨(Bool.and_eq_true_iff.1 h.1).2,by omega⟩]
    ·rw [if_neg hc,if_pos (by simp),if_neg fun h=>hc ⟨(Bool.and_eq_true_iff.1 h.1).1,by omega⟩]
  have hg:=x.good_eq
  rw [sB,aS (by omega) (by omega)]
  by_cases c1:c+1>60
  ·rw [if_pos (by simpa using c1),if_neg (by omega)]
  rw [if_neg (by simpa using c1),aa.re_eq,nx]
  have:=loop (c+1) (by omega) (by omega)
  simp only [Int.natCast_zero] at this
  rw [this,hg]
  simp only [Option.bind_some]
  cases ha:qp x
  ·simp
  ·simp only [Bool.not_true,Bool.false_eq_true,if_false,Bool.true_and]
   congr 1
   by_cases hd:x.fKids.all aa.good=true/\c+1+aA aa.n x.fKids<=60
   ·rw [if_pos hd,if_pos ⟨hd.1,by omega⟩];omega
   ·rw [if_neg hd,if_neg fun h=>hd ⟨h.1,by omega⟩]
theorem mK {x:aa} (hm:x.m<=1048576):jQ x=some x.valid:=by
 rw [tj,aa.re_eq,sM x hm 0 (by omega) (by omega)]
 simp only [Option.bind_some,aa.valid]
 congr 1
 by_cases h:x.good=true/\(0:Int)+x.n<=60
 ·rw [if_pos h,h.1];simp;omega
 ·rw [if_neg h]
  cases hg:x.good
  ·simp
  ·simp only [hg,true_and] at h;simp;omega
theorem wP : ∀ x:aa,x.m<=1048576->∃ v:Int,n8 x.fKind x.fNum x.fText x.fKids=some v/\1<=v/\v<=x.n/\(v<=60->v=x.n):=by
 intro x
 induction x using aa.ind with
 | h x ih=>
  intro hm
  have hmq:=x.m_eq
  have hn:=x.n_eq
  have hnm:=x.n_le_m
  have loop:∀ acc:Int,1<=acc->acc+aA aa.n x.fKids<=1048577->∃ v:Int,f9 x.fKind x.fNum x.fText x.fKids acc ((0:Nat):Int)=some v/\acc<=v/\v<=acc+aA aa.n x.fKids/\(v<=60->v=acc+aA aa.n x.fKids):=by
   refine db (xs:=x.fKids) (by omega) (P:=fun i l=>∀ acc:Int,1<=acc->acc+aA aa.n l<=1048577->∃ v:Int,f9 x.fKind x.fNum x.fText x.fKids acc i=some v/\acc<=v/\v<=acc+aA aa.n l/\(v<=60->v=acc+aA aa.n l)) ?_ ?_
   ·intro acc h1 h2
    refine ⟨acc,?_,Int.le_refl _,by simp [aA],by simp [aA]⟩
    rw [hH]
    simp [am]
   ·intro i y l _ hlt hy hi hw ih2 acc h1 h2
    have hmy:=aa.m_kid hy
    have hyn:=y.n_eq
    have e:aA aa.n (y:: l)=y.n+aA aa.n l:=rfl
    rw [e] at h2 ⊢
    by_cases hc:acc<=60
    ·obtain ⟨v,hv,v1,v2,v3⟩:=ih y hy (by omega)
     obtain ⟨u,hu,u1,u2,u3⟩:=ih2 (acc+v) (by omega) (by omega)
     refine ⟨u,?_,by omega,by omega,by omega⟩
     rw [hH,hi,hw,if_pos (by simp [am,hlt]),if_pos (by simpa using hc)]
     simp only [Option.bind_some,hv]
     rw [aS (by omega) (by omega)]
     exact hu
    ·refine ⟨acc,?_,Int.le_refl _,by omega,by omega⟩
     rw [hH,if_pos (by simp [am,hlt]),if_neg (by simpa using hc)]
  obtain ⟨v,hv,v1,v2,v3⟩:=loop 1 (Int.le_refl _) (by omega)
  refine ⟨v,?_,v1,by omega,by omega⟩
  rw [wH]
  exact hv
theorem vm : ∀ x:aa,x.m<=1048576->jn x.fKind x.fNum x.fText x.fKids=some x.good:=by
 intro x
 induction x using aa.ind with
 | h x ih=>
  intro hm
  have hmq:=x.m_eq
  rw [uY,vk,x.good_eq]
  have:=qC (xs:=x.fKids) (by omega) (F:=fun y=>jn y.fKind y.fNum y.fText y.fKids) (p:=aa.good) (J:=gF x.fKind x.fNum x.fText x.fKids) (fun i=>by rw [qj]) (fun y hy=>ih y hy (by have:=aa.m_kid hy;omega))
  rw [this]
  simp only [Option.bind_some]
  cases qp x<;>simp
theorem zN {x:aa} (hm:x.m<=1048576):xF x.fKind x.fNum x.fText x.fKids=some x.valid:=by
 rw [zH]
 obtain ⟨v,hv,v1,v2,v3⟩:=wP x hm
 rw [hv,vm x hm]
 simp only [Option.bind_some,aa.valid]
 by_cases h:v<=60
 ·have:=v3 h
  rw [if_pos (by simpa using h)]
  have h2:x.n<=60:=by omega
  simp [h2]
 ·rw [if_neg (by simpa using h)]
  have h2:¬ x.n<=60:=by omega
  simp [h2]
def aC (k:Int):Int:=if k=6 then 1 else if k=7 then 2 else if k=8\/k=9 then 3 else if k=10\/k=11 then 4 else if k=12\/k=13 then 5 else if 14<=k/\k<=18 then 6 else 7
def qG (k:Int):List UInt8:=if k=6 then [124] else if k=8 then [43] else if k=9 then [45] else if k=10 then [42] else if k=11 then [47] else if k=12 then [46] else if k=13 then [36] else if k=14 then [45] else if k=15 then [36] else if k=16 then [46] else if k=17 then [42] else if k=18 then [64] else []
theorem ca (k:Int):1<=aC k/\aC k<=7:=by unfold aC;grind (splits:=60)
theorem vn (k:Int):(qG k).length<=1:=by unfold qG;grind (splits:=60)
theorem ph (k:Int):rO k=some (aC k):=by
 rw [zG,tn,tp,tu,tv];unfold aC;grind (splits:=60)
theorem ov (k n:Int) (t:List UInt8) (ks:List aa):lZ k n t ks=some (aC k):=by
 rw [uR,oX,oY,oZ,o4];unfold aC;grind (splits:=60)
theorem di {k:Int} (h0:0<=k) (h1:k<=18):jN k=some (qG k):=by
 rw [xJ,DC h0]
 have:k=0\/k=1\/k=2\/k=3\/k=4\/k=5\/k=6\/k=7\/k=8\/k=9\/k=10\/k=11\/k=12\/k=13\/k=14\/k=15\/k=16\/k=17\/k=18:=by omega
 rcases this with rfl | rfl | rfl | rfl | rfl | rfl | rfl | rfl | rfl | rfl | rfl | rfl | rfl | rfl | rfl | rfl | rfl | rfl | rfl<;>rfl
theorem wQ {k:Int} (h0:6<=k) (h1:k<=13):rQ k=some (if k=7 then [32] else 32:: qG k++[32]):=by
 rw [wF]
 have:k=6\/k=7\/k=8\/k=9\/k=10\/k=11\/k=12\/k=13:=by omega
 rcases this with rfl | rfl | rfl | rfl | rfl | rfl | rfl | rfl<;>rfl
def oB (l:Int) (p:Int×List UInt8):List UInt8:=if p.1<l then 40:: (p.2++[41]) else p.2
theorem fV (l:Int) (p:Int×List UInt8):(oB l p).length<=p.2.length+2:=by
 unfold oB;split<;>simp
def ej (k n:Int) (t:List UInt8) (ps:List (Int×List UInt8)):List UInt8:=
 if k=1 then om t else if k=2 then Lib.itoa n else if k=3 then t
 else if k=4 then t++[40]++Lib.join (ps.map (·.2)) [44]++[41]
 else if k=16\/k=17\/k=18 then qG k++t
 else match ps with
  | [a]=>qG k++oB 6 a
  | [a,b]=>if k=5 then oB 7 a++[60]++b.2++[62] else if k=7 then oB 2 a++[32]++oB 3 b else oB (aC k) a++[32]++qG k++[32]++oB (aC k+1) b
  | _=>[]
mutual
def aa.text : aa->List UInt8
 | ⟨k,n,t,ks⟩=>ej k n t (aa.ptexts ks)
def aa.ptexts : List aa->List (Int×List UInt8)
 | []=>[]
 | y:: r=>(aC y.fKind,aa.text y):: aa.ptexts r
end
theorem aa.ptexts_eq : ∀ l,aa.ptexts l=l.map fun y=>(aC y.fKind,aa.text y)
 | []=>rfl
 | y:: r=>by simp only [aa.ptexts,List.map_cons,aa.ptexts_eq r]
theorem aa.text_eq (x:aa):x.text=ej x.fKind x.fNum x.fText (x.fKids.map fun y=>(aC y.fKind,aa.text y)):=by
 rw [<-aa.ptexts_eq];cases x;rfl
theorem fQ {s:List UInt8} (h:a6 s=true):s.length<=12:=by
 cases s with
 | nil=>simp
 | cons b r=>
  simp only [a6,Bool.and_eq_true_iff,decide_eq_true_eq] at h
  exact h.1.1
theorem vo (l:List aa) (C:Nat) (h:∀ y∈l,y.text.length<=C*y.n):Lib.lens (l.map aa.text)<=C*aA aa.n l:=by
 induction l with
 | nil=>simp [Lib.lens,aA]
 | cons y r ih=>
  have h1:=h y (by simp)
  have h2:=ih fun z hz=>h z (by simp [hz])
  have:Lib.lens ((y:: r).map aa.text)=y.text.length+Lib.lens (r.map aa.text):=by simp [Lib.lens]
  rw [this]
  simp only [aA,Nat.mul_add];omega
theorem sN (xs:List (List UInt8)):(Lib.join xs [44]).length<=xs.length+Lib.lens xs:=by
 cases xs with
 | nil=>simp [Lib.join_nil]
 | cons x r=>rw [Lib.join_length];simp
theorem ny {x:aa} (h:qp x=true):(x.fKind=1/\x.fKids=[]/\sW x.fText=true)\/(x.fKind=2/\x.fKids=[]/\0<=x.fNum/\x.fNum<=1000000000000) \/
  ((x.fKind=3\/x.fKind=16\/x.fKind=17\/x.fKind=18)/\x.fKids=[]/\a6 x.fText=true)\/(x.fKind=4/\x.fKids.length<=6/\a6 x.fText=true) \/
  ((x.fKind=14\/x.fKind=15)/\∃ a,x.fKids=[a])\/((5<=x.fKind/\x.fKind<=13)/\∃ a b,x.fKids=[a,b]):=by
 obtain ⟨k,n,t,ks⟩:=x
 unfold qp at h
 rcases ks with _ | ⟨a,_ | ⟨b,_ | ⟨c,r⟩⟩⟩<;>grind (splits:=60)
theorem aa.text_len : ∀ x:aa,x.good=true->x.text.length<=250*x.n:=by
 intro x
 induction x using aa.ind with
 | h x ih=>
  intro hg
  have hn:=x.n_eq
  rw [x.good_eq,Bool.and_eq_true_iff] at hg
  obtain ⟨hnode,hk⟩:=hg
  rw [List.all_eq_true] at hk
  have ih:=fun y hy=>ih y hy (hk y hy)
  rw [x.text_eq,hn]
  have hs:=vn x.fKind
  have l1:∀ l a,(oB l a).length<=a.2.length+2:=fV
  rcases ny hnode with ⟨h1,h2,h3⟩ | ⟨h1,h2,h3,h4⟩ | ⟨h1,h2,h3⟩ | ⟨h1,h2,h3⟩ | ⟨h1,a,h2⟩ | ⟨h1,a,b,h2⟩
  ·have:=Bw x.fText
   simp only [ej,h1,if_true];omega
  ·have:=C3 h3 h4
   simp only [ej,h1,if_true];simp;omega
  ·have:=fQ h3
   unfold ej
   rcases h1 with h1 | h1 | h1 | h1<;>rw [h1] at hs ⊢<;>simp<;>omega
  ·have:=fQ h3
   have hj:=sN (x.fKids.map aa.text)
   have hl:=vo x.fKids 250 ih
   rw [List.length_map] at hj
   have e:((x.fKids.map fun y=>(aC y.fKind,aa.text y)).map (·.2))=x.fKids.map aa.text:=by rw [List.map_map];rfl
   simp only [ej,h1,e]
   simp only [List.length_append,List.length_cons,List.length_nil,show ¬ ((4:Int)=1) by decide,show ¬ ((4:Int)=2) by decide,show ¬ ((4:Int)=3) by decide,if_false,if_true]
   omega
  ·have ha:=ih a (by simp [h2])
   have hl:=l1 6 (aC a.fKind,a.text)
   rw [h2]
   simp only [List.map_cons,List.map_nil,aA]
   unfold ej
   rcases h1 with h1 | h1<;>rw [h1] at hs ⊢<;>simp<;>simp at hl<;>omega
  ·have ha:=ih a (by simp [h2])
   have hb:=ih b (by simp [h2])
   have p1:=fun l=>l1 l (aC a.fKind,a.text)
   have p2:=fun l=>l1 l (aC b.fKind,b.text)
   have q1:=p1 7
   have q2:=p1 2
   have q3:=p2 3
   have q4:=p1 (aC x.fKind)
   have q5:=p2 (aC x.fKind+1)
   rw [h2]
   simp only [List.map_cons,List.map_nil,aA]
   unfold ej
   rw [if_neg (by omega),if_neg (by omega),if_neg (by omega),if_neg (by omega),if_neg (by omega)]
   simp only at q1 q2 q3 q4 q5 ⊢
   split
   ·simp only [List.length_append,List.length_cons,List.length_nil];omega
   ·split
    ·simp only [List.length_append,List.length_cons,List.length_nil];omega
    ·simp only [List.length_append,List.length_cons,List.length_nil];omega
theorem iJ {y:aa} (l:Int) (h:cb y=some y.text) (hl:y.text.length<=1000000000):ff y l=some (oB l (aC y.fKind,y.text)):=by
 rw [wz,ph,aa.re_eq,h]
 simp only [Option.bind_some,oB]
 rw [av (by simp;omega)]
 simp only [Option.bind_some]
 rw [av (by simp;omega)]
 by_cases hc:aC y.fKind<l
 ·rw [if_pos (by simpa using hc),if_pos hc];simp
 ·rw [if_neg (by simpa using hc),if_neg hc]
theorem ma {y:aa} (l:Int) (h:cq y.fKind y.fNum y.fText y.fKids=some y.text) (hl:y.text.length<=1000000000):ld y.fKind y.fNum y.fText y.fKids l=some (oB l (aC y.fKind,y.text)):=by
 rw [zF,ov,h]
 simp only [Option.bind_some,oB]
 rw [av (by simp;omega)]
 simp only [Option.bind_some]
 rw [av (by simp;omega)]
 by_cases hc:aC y.fKind<l
 ·rw [if_pos (by simpa using hc),if_pos hc];simp
 ·rw [if_neg (by simpa using hc),if_neg hc]
theorem tC : ∀ x:aa,x.good=true->x.n<=1000000->cb x=some x.text:=by
 intro x
 induction x using aa.ind with
 | h x ih=>
  intro hg hn60
  have hlen:=x.text_len hg
  have hn:=x.n_eq
  have hg':=hg
  rw [x.good_eq,Bool.and_eq_true_iff] at hg
  obtain ⟨hnode,hk⟩:=hg
  rw [List.all_eq_true] at hk
  have kid:∀ y∈x.fKids,cb y=some y.text/\y.text.length<=250000000:=fun y hy=>by
   have h1:=k8 (m:=aa.n) hy
   have h2:=y.text_len (hk y hy)
   exact ⟨ih y hy (hk y hy) (by omega),by omega⟩
  rw [tf,ph]
  simp only [Option.bind_some,dI]
  have hs:=vn x.fKind
  rw [x.text_eq]
  rcases ny hnode with ⟨h1,h2,h3⟩ | ⟨h1,h2,h3,h4⟩ | ⟨h1,h2,h3⟩ | ⟨h1,h2,h3⟩ | ⟨h1,a,h2⟩ | ⟨h1,a,b,h2⟩
  ·simp [h1,ej,qm]
  ·simp [h1,ej,wO (show -9223372036854775808<=x.fNum by omega) (show x.fNum<=9223372036854775807 by omega)]
  ·have:=fQ h3
   rcases h1 with h1 | h1 | h1 | h1
   ·simp [h1,ej]
   all_goals
    rw [h1] at hs ⊢
    simp [ej,di]
    rw [av (by omega)]
  ·have hnl:=fQ h3
   have fin:∀ acc:List (List UInt8),acc.length<=6->Lib.lens acc<=250000000->cT x.fKids (len x.fKids) (len x.fKids) x.fKind x.fNum x.fText x.fKids acc=some (x.fText++[40]++Lib.join acc [44]++[41]):=by
    intro acc h1 h2
    have hj:=sN acc
    rw [iF,if_neg (by simp)]
    rw [av (by simp;omega)]
    unfold zx
    rw [if_pos (by unfold big;omega)]
    simp only [Option.bind_some]
    rw [av (by simp;omega)]
    simp only [Option.bind_some]
    rw [av (by simp;omega)]
    rfl
   have loop:∀ acc:List (List UInt8),acc.length+x.fKids.length<=6->Lib.lens acc+Lib.lens (x.fKids.map aa.text)<=250000000->cT x.fKids (len x.fKids) ((0:Nat):Int) x.fKind x.fNum x.fText x.fKids acc=some (x.fText++[40]++Lib.join (acc++x.fKids.map aa.text) [44]++[41]):=by
    refine db (xs:=x.fKids) (by omega) (P:=fun i l=>∀ acc:List (List UInt8),acc.length+l.length<=6->Lib.lens acc+Lib.lens (l.map aa.text)<=250000000->cT x.fKids (len x.fKids) i x.fKind x.fNum x.fText x.fKids acc=some (x.fText++[40]++Lib.join (acc++l.map aa.text) [44]++[41])) ?_ ?_
    ·intro acc h1 h2
     have:=fin acc (by simpa using h1) (by omega)
     rw [am] at this ⊢
     simpa using this
    ·intro i y l _ hlt hy hi hw ih2 acc h1 h2
     rw [iF,hi,hw,if_pos (by simp [am,hlt])]
     simp only [Option.bind_some,aa.re_eq,(kid y hy).1]
     simp only [List.length_cons] at h1
     rw [av (by simp;omega)]
     simp only [Option.bind_some]
     have e1:Lib.lens (acc++[y.text])=Lib.lens acc+y.text.length:=by simp [Lib.lens]
     have e2:Lib.lens ((y:: l).map aa.text)=y.text.length+Lib.lens (l.map aa.text):=by simp [Lib.lens]
     rw [e2] at h2
     rw [ih2 (acc++[y.text]) (by simp;omega) (by rw [e1];omega)]
     simp
   have hl:=vo x.fKids 250 (fun y hy=>y.text_len (hk y hy))
   have:=loop [] (by simpa using h2) (by simp [Lib.lens] at hl ⊢;omega)
   have e:((x.fKids.map fun y=>(aC y.fKind,aa.text y)).map (·.2))=x.fKids.map aa.text:=by rw [List.map_map];rfl
   simp only [Int.natCast_zero,List.nil_append] at this
   rw [h1] at this ⊢
   simp only [ej,e]
   simpa using this
  ·obtain ⟨ka,la⟩:=kid a (by simp [h2])
   have hl:=fV 6 (aC a.fKind,a.text)
   simp only at hl
   rw [h2]
   simp only [jD,List.getElem?_cons_zero,Option.bind_some,aa.re_eq]
   rw [iJ 6 ka (by omega)]
   rcases h1 with h1 | h1
   all_goals
    rw [h1] at hs ⊢
    simp [ej,di,show aC 14=6 by decide,show aC 15=6 by decide]
    rw [av (by omega)]
  ·obtain ⟨ka,la⟩:=kid a (by simp [h2])
   obtain ⟨kb,lb⟩:=kid b (by simp [h2])
   have p1:=fun l=>fV l (aC a.fKind,a.text)
   have p2:=fun l=>fV l (aC b.fKind,b.text)
   simp only at p1 p2
   have hr:=ca x.fKind
   rw [h2]
   simp only [jD,oK,List.getElem?_cons_zero,List.getElem?_cons_succ,Option.bind_some,aa.re_eq]
   rw [aS (by omega) (by omega)]
   simp only [fun l=>iJ l ka (by omega),fun l=>iJ l kb (by omega),kb,Option.bind_some]
   have q1:=p1 7
   have q2:=p1 2
   have q3:=p2 3
   have q4:=p1 (aC x.fKind)
   have q5:=p2 (aC x.fKind+1)
   have hsy:=di (k:=x.fKind) (by omega) (by omega)
   have n1:¬ x.fKind=1:=by omega
   have n2:¬ x.fKind=2:=by omega
   have n3:¬ x.fKind=3:=by omega
   have n4:¬ x.fKind=4:=by omega
   have n5:¬ (x.fKind=16\/x.fKind=17\/x.fKind=18):=by omega
   have n6:(decide (16<=x.fKind)&&decide (x.fKind<=18))=false:=by simp;omega
   simp only [List.map_cons,List.map_nil,ej,n1,n2,n3,n4,n5,n6,if_false,beq_iff_eq,hsy,Option.bind_some,Bool.false_eq_true]
   by_cases c5:x.fKind=5
   ·rw [if_pos c5,if_pos c5]
    rw [av (by simp;omega)]
    simp only [Option.bind_some]
    rw [av (by simp;omega)]
    simp only [Option.bind_some]
    rw [av (by simp;omega)]
    rfl
   ·have l6:¬ aC x.fKind=6:=by unfold aC;grind (splits:=60)
    rw [if_neg c5,if_neg c5,if_neg l6]
    by_cases c7:x.fKind=7
    ·have l7:aC x.fKind=2:=by unfold aC;simp [c7]
     rw [if_pos c7,if_pos c7]
     rw [l7] at q4 q5 ⊢
     rw [av (by simp;omega)]
     simp only [Option.bind_some]
     rw [av (by simp;omega)]
     rfl
    ·rw [if_neg c7,if_neg c7]
     rw [av (by simp;omega)]
     simp only [Option.bind_some]
     rw [av (by simp;omega)]
     simp only [Option.bind_some]
     rw [av (by simp;omega)]
     simp only [Option.bind_some]
     rw [av (by simp;omega)]
     rfl
theorem vp : ∀ x:aa,x.good=true->x.n<=1000000->cq x.fKind x.fNum x.fText x.fKids=some x.text:=by
 intro x
 induction x using aa.ind with
 | h x ih=>
  intro hg hn60
  have hlen:=x.text_len hg
  have hn:=x.n_eq
  have hg':=hg
  rw [x.good_eq,Bool.and_eq_true_iff] at hg
  obtain ⟨hnode,hk⟩:=hg
  rw [List.all_eq_true] at hk
  have kid:∀ y∈x.fKids,cq y.fKind y.fNum y.fText y.fKids=some y.text/\y.text.length<=250000000:=fun y hy=>by
   have h1:=k8 (m:=aa.n) hy
   have h2:=y.text_len (hk y hy)
   exact ⟨ih y hy (hk y hy) (by omega),by omega⟩
  rw [uQ]
  have hs:=vn x.fKind
  rw [x.text_eq]
  rcases ny hnode with ⟨h1,h2,h3⟩ | ⟨h1,h2,h3,h4⟩ | ⟨h1,h2,h3⟩ | ⟨h1,h2,h3⟩ | ⟨h1,a,h2⟩ | ⟨h1,a,b,h2⟩
  ·simp [h1,ej,qn]
  ·simp [h1,ej,xO (show 0<=x.fNum by omega) (show x.fNum<9223372036854775808 by omega)]
  ·have:=fQ h3
   rcases h1 with h1 | h1 | h1 | h1
   ·simp [h1,ej]
   all_goals
    rw [h1] at hs ⊢
    simp [ej,qG]
    rw [av (by simp;omega)]
    simp
  ·have hnl:=fQ h3
   have loop:∀ acc:List UInt8,acc.length<=1000->(((0:Nat):Int)=0->True)->cO x.fKind x.fNum x.fText x.fKids acc ((0:Nat):Int)=some (acc++Lib.join (x.fKids.map aa.text) [44]++[41]):=by
    have key:∀ acc:List UInt8,acc.length+Lib.lens (x.fKids.map aa.text)+x.fKids.length<=1000000000->cO x.fKind x.fNum x.fText x.fKids acc ((0:Nat):Int)=some (acc++(if (0:Nat)=0 then Lib.join (x.fKids.map aa.text) [44] else Lib.joinTail [44] (x.fKids.map aa.text))++[41]):=by
     refine db (xs:=x.fKids) (by omega) (P:=fun i l=>∀ acc:List UInt8,acc.length+Lib.lens (l.map aa.text)+l.length<=1000000000->cO x.fKind x.fNum x.fText x.fKids acc i=some (acc++(if i=0 then Lib.join (l.map aa.text) [44] else Lib.joinTail [44] (l.map aa.text))++[41])) ?_ ?_
     ·intro acc h1
      rw [jr,if_neg (by simp [am])]
      simp only [List.length_nil,Lib.lens,List.map_nil,List.sum_nil] at h1
      rw [av (by simp;omega)]
      have:Lib.joinTail [44] []=[]:=rfl
      simp [Lib.join_nil,this]
     ·intro i y l _ hlt hy hi hw ih2 acc h1
      have e2:Lib.lens ((y:: l).map aa.text)=y.text.length+Lib.lens (l.map aa.text):=by simp [Lib.lens]
      rw [e2,List.length_cons] at h1
      rw [jr,hi,hw,if_pos (by simp [am,hlt])]
      simp only [Option.bind_some,(kid y hy).1]
      by_cases h0:i=0
      ·subst h0
       rw [if_neg (by simp),av (by omega)]
       simp only [Option.bind_some]
       rw [ih2 _ (by simp;omega)]
       simp only [Nat.zero_add,Nat.one_ne_zero,if_false,if_true,List.map_cons,Lib.join_cons,List.append_assoc]
      ·rw [if_pos (by simp;omega),av (by simp;omega)]
       simp only [Option.bind_some]
       rw [av (by simp;omega)]
       simp only [Option.bind_some]
       rw [ih2 _ (by simp;omega)]
       have:Lib.joinTail [44] (y.text:: l.map aa.text)=[44]++y.text++Lib.joinTail [44] (l.map aa.text):=rfl
       simp only [h0,Nat.add_eq_zero_iff,Nat.one_ne_zero,and_false,if_false,List.map_cons,this,List.append_assoc]
    intro acc h1 _
    have hl:=vo x.fKids 250 (fun y hy=>y.text_len (hk y hy))
    have:=key acc (by omega)
    simpa using this
   have e:((x.fKids.map fun y=>(aC y.fKind,aa.text y)).map (·.2))=x.fKids.map aa.text:=by rw [List.map_map];rfl
   have:=loop (x.fText++[40]) (by simp;omega) (fun _=>trivial)
   simp only [Int.natCast_zero] at this
   rw [h1] at this ⊢
   simp only [ej,e]
   simp
   rw [av (by simp;omega)]
   simpa using this
  ·obtain ⟨ka,la⟩:=kid a (by simp [h2])
   have hl:=fV 6 (aC a.fKind,a.text)
   simp only at hl
   rw [h2]
   simp only [jD,List.getElem?_cons_zero,Option.bind_some]
   rw [ma 6 ka (by omega)]
   rcases h1 with h1 | h1
   all_goals
    rw [h1] at hs ⊢
    simp [ej,qG]
    rw [av (by simp;omega)]
    simp
  ·obtain ⟨ka,la⟩:=kid a (by simp [h2])
   obtain ⟨kb,lb⟩:=kid b (by simp [h2])
   have p1:=fun l=>fV l (aC a.fKind,a.text)
   have p2:=fun l=>fV l (aC b.fKind,b.text)
   simp only at p1 p2
   have hr:=ca x.fKind
   rw [h2]
   simp only [jD,oK,List.getElem?_cons_zero,List.getElem?_cons_succ,Option.bind_some,ov]
   rw [aS (by omega) (by omega)]
   simp only [fun l=>ma l ka (by omega),fun l=>ma l kb (by omega),kb,Option.bind_some]
   have q1:=p1 7
   have q2:=p1 2
   have q3:=p2 3
   have q4:=p1 (aC x.fKind)
   have q5:=p2 (aC x.fKind+1)
   have n1:¬ x.fKind=1:=by omega
   have n2:¬ x.fKind=2:=by omega
   have n3:¬ x.fKind=3:=by omega
   have n4:¬ x.fKind=4:=by omega
   have n5:¬ (x.fKind=16\/x.fKind=17\/x.fKind=18):=by omega
   have m1:¬ x.fKind=16:=by omega
   have m2:¬ x.fKind=17:=by omega
   have m3:¬ x.fKind=18:=by omega
   have m4:¬ x.fKind=14:=by omega
   have m5:¬ x.fKind=15:=by omega
   simp only [List.map_cons,List.map_nil,ej,n1,n2,n3,n4,n5,m1,m2,m3,m4,m5,if_false,beq_iff_eq]
   by_cases c5:x.fKind=5
   ·rw [if_pos c5,if_pos c5]
    rw [av (by simp;omega)]
    simp only [Option.bind_some]
    rw [av (by simp;omega)]
    simp only [Option.bind_some]
    rw [av (by simp;omega)]
    rfl
   ·rw [if_neg c5,if_neg c5,wQ (by omega) (by omega)]
    by_cases c7:x.fKind=7
    ·have l7:aC x.fKind=2:=by unfold aC;simp [c7]
     rw [if_pos c7,if_pos c7]
     rw [l7] at q4 q5 ⊢
     simp only [Option.bind_some]
     rw [av (by simp;omega)]
     simp only [Option.bind_some]
     rw [av (by simp;omega)]
     rfl
    ·rw [if_neg c7,if_neg c7]
     simp only [Option.bind_some]
     rw [av (by simp;omega)]
     simp only [Option.bind_some]
     rw [av (by simp;omega)]
     simp
end Go.Dv.U

namespace Go.Dv.U
open Go Go.Dv Go.Proofs
def nmB (s:List UInt8):Bool:=s==[]||a6 s
def gOk (g:ax):Bool:=(g.fAlways==[]||(g.fSuccess==[]&&g.fFailure==[]))&&(nmB g.fAlways&&nmB g.fSuccess&&nmB g.fFailure)
def dT (g:ax):Bool:=g.fAlways==[]&&g.fSuccess==[]&&g.fFailure==[]
def zE (e:aa):Bool:=e.fKind==0&&e.fNum==0&&e.fText==[]&&decide (e.fKids.length=0)
def eR (b:Bool) (e:aa):Bool:=if b=true then e.valid else zE e
def io (s:ab):Bool:=nmB s.fLabel&&gOk s.fGoto&&(s.fHasSubject||(!s.fHasPattern&&!s.fHasReplace))&&(eR s.fHasSubject s.fSubject&&eR s.fHasPattern s.fPattern&&eR s.fHasReplace s.fReplace)&&!(s.fLabel==[]&&!s.fHasSubject&&dT s.fGoto)
def gL (c:UInt8) (s:List UInt8):List UInt8:=if s=[] then [] else [c,40]++s++[41]
def cz (g:ax):List UInt8:=if g.fAlways≠[] then [58,40]++g.fAlways++[41] else if gL 83 g.fSuccess++gL 70 g.fFailure=[] then [] else 58:: (gL 83 g.fSuccess++gL 70 g.fFailure)
def qq (s:ab):List UInt8:=(if s.fHasReplace=true then [32,61,32]++s.fReplace.text else [])++(if cz s.fGoto=[] then [] else [32]++cz s.fGoto)
def jv (s:ab):List UInt8:=(if s.fHasSubject=true then [32]++oB 6 (aC s.fSubject.fKind,s.fSubject.text) else [])++(if s.fHasPattern=true then [32]++s.fPattern.text else [])++qq s
def cf (s:ab):List UInt8:=s.fLabel++jv s
def da (s:ab):Bool:=io s&&(decide ((cf s).length<=4000)&&(eG (jv s)).2.2==0)
theorem pi {s:List UInt8} (h:nmB s=true):s.length<=12:=by
 unfold nmB at h
 rw [Bool.or_eq_true_iff] at h
 rcases h with h | h
 ·have:s=[]:=by simpa using h
  rw [this];simp
 ·exact fQ h
theorem DI (s:List UInt8):nmB s=if s=[] then true else a6 s:=by
 unfold nmB
 by_cases h:s=[]
 ·simp [h]
 ·have:(s==[])=false:=by simpa using h
  simp [h]
theorem pK (s:List UInt8):ji s=some (nmB s):=by
 rw [wA,sJ,DI]
 simp only [Option.bind_some,beq_iff_eq]
 split<;>rfl
theorem mL (g:ax):jJ g=some (gOk g):=by
 rw [tg,oR,oS]
 simp only [pK,Option.bind_some,lY]
 congr 1
 unfold gOk
 cases g.fAlways==[]<;>cases g.fSuccess==[]<;>cases g.fFailure==[]<;>cases nmB g.fAlways<;>cases nmB g.fSuccess<;>cases nmB g.fFailure<;>rfl
theorem lJ (s:List UInt8):jh s=some (a6 s):=by
 rw [wy,nw];rfl
theorem tD (g:ax):jI g=some (gOk g):=by
 have hlab:jL g=some ([g.fAlways,g.fSuccess,g.fFailure].filter fun s=>!(s==[])):=by
  rw [p9]
  generalize g.fAlways=A
  generalize g.fSuccess=B
  generalize g.fFailure=D
  have t3:len [A,B,D]=3:=rfl
  have w1:w64 (0+1)=1:=by decide
  have w2:w64 (1+1)=2:=by decide
  have w3:w64 (2+1)=3:=by decide
  have step:∀ (i:Int) (acc:List (List UInt8)) (y:List UInt8),idx [A,B,D] i=some y->([A,B,D]:List (List UInt8))[i.toNat]?=some y->i<3->acc.length<=10->cF 3 i acc [A,B,D]=cF 3 (w64 (i+1)) (acc++[y].filter fun s=>!(s==[])) [A,B,D]:=by
   intro i acc y h1 h2 h3 h4
   rw [g9,if_pos (by simpa using h3),h1,h2]
   simp only [Option.bind_some]
   by_cases hy:y=[]
   ·rw [if_neg (by simp [hy])];simp [hy]
   ·have:(y==[])=false:=by simpa using hy
    have hf:([y].filter fun s=>!(s==[]))=[y]:=by
     rw [List.filter_cons,if_pos (by rw [this];rfl)]
     rfl
    rw [if_pos (by simp [hy]),av (by simp;omega),hf]
    rfl
  have fl:∀ y:List UInt8,([y].filter fun s=>!(s==[])).length<=1:=fun y=>by
   have:=List.length_filter_le (fun s:List UInt8=>!(s==[])) [y]
   simpa using this
  have f1:=fl A
  have f2:=fl B
  rw [t3,step 0 [] A rfl rfl (by decide) (by simp),w1,step 1 _ B rfl rfl (by decide) (by simp at f1 ⊢;omega),w2,step 2 _ D rfl rfl (by decide) (by simp at f1 f2 ⊢;omega),w3,g9,if_neg (by decide)]
  congr 1
  rw [show [A,B,D]=[A]++[B]++[D] from rfl,List.filter_append,List.filter_append]
  simp
 have hall:∀ l:List (List UInt8),l.length<=10->cC l=some (l.all a6):=by
  intro l hl
  rw [gi]
  exact qC (xs:=l) (by omega) (F:=jh) (p:=a6) (J:=bD l (len l)) (fun i=>by rw [fu]) (fun y _=>lJ y)
 rw [td]
 try simp only [ax.re_eq]
 rw [hlab]
 simp only [Option.bind_some]
 rw [hall _ (by
  have:=List.length_filter_le (fun s:List UInt8=>!(s==[])) [g.fAlways,g.fSuccess,g.fFailure]
  simp at this ⊢;omega)]
 simp only [Option.bind_some,lY]
 congr 1
 unfold gOk nmB
 have hf:∀ s:List UInt8,(s==[])=true\/(s==[])=false:=fun s=>by cases s==[]<;>simp
 rcases hf g.fAlways with h1 | h1<;>rcases hf g.fSuccess with h2 | h2<;>rcases hf g.fFailure with h3 | h3<;>simp only [List.filter_cons,List.filter_nil,h1,h2,h3,Bool.not_true,Bool.not_false,Bool.false_eq_true,if_false,if_true,List.all_nil,List.all_cons,Bool.and_true,Bool.true_or,Bool.false_or,Bool.true_and,Bool.and_self,Bool.and_false,Bool.false_and,ite_self]<;>(try split)<;>simp_all
theorem nA (b:Bool) {e:aa} (hm:e.m<=1048576):nX b e=some (eR b e):=by
 rw [xI]
 unfold eR
 cases b
 ·simp only [Bool.false_eq_true,if_false]
  have z0:(Int.ofNat 0)=0:=rfl
  simp only [aa.re_eq,z0]
  rw [uU]
  unfold zE
  have hk:aH e.fKids []=some (decide (e.fKids.length=0)):=by
   rw [bJ]
   by_cases h:e.fKids.length=0
   ·rw [if_neg (by simp [am,h]),bF,if_neg (by simp [am,h])]
    simp [h]
   ·rw [if_pos (by simp [am];intro e;exact h (by rw [e];rfl))]
    simp [h]
  rw [hk]
  simp only [Option.bind_some,lY]
  cases e.fKind==0<;>cases e.fNum==0<;>cases e.fText==[]<;>simp
 ·simp only [if_true,aa.re_eq,mK hm,Option.bind_some]
theorem lK (b:Bool) {e:aa} (hm:e.m<=1048576):lc b e=some (eR b e):=by
 rw [wB]
 unfold eR
 cases b
 ·simp only [Bool.false_eq_true,if_false]
  have z0:(Int.ofNat 0)=0:=rfl
  simp only [aa.re_eq,z0]
  rw [oe,pJ,sA]
  unfold zE
  by_cases h1:e.fKind=0
  ·rw [if_neg (by simp [h1])]
   by_cases h2:e.fNum=0
   ·rw [if_neg (by simp [h2])]
    by_cases h3:e.fText=[]
    ·rw [if_neg (by simp [h3])]
     by_cases h4:e.fKids.length=0
     ·rw [if_neg (by simp [am,h4]),lw,hC,if_neg (by simp [am,h4])]
      simp [h1,h2,h3,h4]
     ·rw [if_pos (by simp [am];intro e;exact h4 (by rw [e];rfl))]
      simp [h4]
    ·rw [if_pos (by simp [h3])]
     simp [h3]
   ·rw [if_pos (by simp [h2])]
    simp [h2]
  ·rw [if_pos (by simp [h1])]
   simp [h1]
 ·simp only [if_true,aa.re_eq,ti,zN hm,Option.bind_some]
theorem wR {s:ab} (h1:s.fSubject.m<=1048576) (h2:s.fPattern.m<=1048576) (h3:s.fReplace.m<=1048576):rM s=some (io s):=by
 rw [wx,rX,rY,r6,r7]
 simp only [aa.re_eq,ax.re_eq,pK,mL,lK _ h1,lK _ h2,lK _ h3,Option.bind_some,lY]
 congr 1
 unfold io dT
 cases nmB s.fLabel<;>cases gOk s.fGoto<;>cases eR s.fHasSubject s.fSubject<;>cases eR s.fHasPattern s.fPattern<;>cases eR s.fHasReplace s.fReplace<;>cases s.fHasSubject<;>cases s.fHasPattern<;>cases s.fHasReplace<;>cases (s.fLabel==[])<;>cases s.fGoto.fAlways==[]<;>cases s.fGoto.fSuccess==[]<;>cases s.fGoto.fFailure==[]<;>rfl
theorem xS {g:ax} (h:gOk g=true):g.fAlways.length<=12/\g.fSuccess.length<=12/\g.fFailure.length<=12:=by
 unfold gOk at h
 simp only [Bool.and_eq_true_iff] at h
 exact ⟨pi h.2.1.1,pi h.2.1.2,pi h.2.2⟩
theorem eM {c:UInt8} {s:List UInt8} (h:s≠[]):gL c s=[c,40]++s++[41]:=by unfold gL;rw [if_neg h]
theorem hY (c:UInt8):gL c []=[]:=rfl
theorem ox (c:UInt8) (s:List UInt8):(gL c s).length<=s.length+3:=by unfold gL;split<;>simp
theorem tE {g:ax} (h:gOk g=true):gU g=some (cz g):=by
 obtain ⟨l1,l2,l3⟩:=xS h
 have L8:∀ o:List UInt8,o.length<=100->du o=some (if o=[] then [] else 58:: o):=by
  intro o ho
  rw [oW]
  by_cases h:o=[]
  ·rw [if_pos (by simp [h]),if_pos h]
  ·rw [if_neg (by simpa using h),if_neg h,av (by simp;omega)]
   rfl
 rw [th]
 have w1:=ox 83 g.fSuccess
 have w2:=ox 70 g.fFailure
 by_cases hA:g.fAlways=[]
 ·have hG:cz g=if gL 83 g.fSuccess++gL 70 g.fFailure=[] then [] else 58:: (gL 83 g.fSuccess++gL 70 g.fFailure):=by unfold cz;rw [if_neg (fun h=>h hA)]
  rw [if_neg (by simp [hA]),hG]
  by_cases hS:g.fSuccess=[]
  ·rw [if_neg (by simp [hS]),hS,hY,List.nil_append]
   by_cases hF:g.fFailure=[]
   ·rw [if_neg (by simp [hF]),hF,hY,L8 [] (by simp)]
   ·rw [if_pos (by simp [hF]),av (by simp;omega)]
    simp only [Option.bind_some]
    rw [av (by simp;omega)]
    simp only [Option.bind_some]
    rw [av (by simp;omega)]
    simp only [Option.bind_some]
    rw [L8 _ (by simp;omega),eM hF]
    simp
  ·rw [if_pos (by simp [hS]),av (by simp;omega)]
   simp only [Option.bind_some]
   rw [av (by simp;omega)]
   simp only [Option.bind_some]
   rw [av (by simp;omega)]
   simp only [Option.bind_some]
   by_cases hF:g.fFailure=[]
   ·rw [if_neg (by simp [hF]),hF,hY,L8 _ (by simp;omega),eM hS]
    simp
   ·rw [if_pos (by simp [hF]),av (by simp;omega)]
    simp only [Option.bind_some]
    rw [av (by simp;omega)]
    simp only [Option.bind_some]
    rw [av (by simp;omega)]
    simp only [Option.bind_some]
    rw [L8 _ (by simp;omega),eM hF,eM hS]
    simp
 ·have hG:cz g=[58,40]++g.fAlways++[41]:=by unfold cz;rw [if_pos hA]
  rw [if_pos (by simp [hA]),hG,av (by simp;omega)]
  simp only [Option.bind_some]
  rw [av (by simp;omega)]
  rfl
theorem vq {g:ax} (h:gOk g=true):jj g=some (cz g):=by
 obtain ⟨l1,l2,l3⟩:=xS h
 rw [uS]
 try simp only [ax.re_eq]
 rw [mL,h]
 simp only [Option.bind_some,Bool.not_true,Bool.false_eq_true,if_false]
 have L8:∀ (o A B D:List UInt8),o.length<=100->D.length<=12->gD o A B D=some (o++gL 70 D):=by
  intro o A B D ho hD
  rw [qe]
  by_cases h:D=[]
  ·rw [if_neg (by simp [h]),h,hY];simp
  ·rw [if_pos (by simp [h]),av (by simp;omega)]
   simp only [Option.bind_some]
   rw [av (by simp;omega)]
   simp only [Option.bind_some]
   rw [av (by simp;omega),eM h]
   simp
 by_cases hA:g.fAlways=[]
 ·have hG:cz g=if gL 83 g.fSuccess++gL 70 g.fFailure=[] then [] else 58:: (gL 83 g.fSuccess++gL 70 g.fFailure):=by unfold cz;rw [if_neg (fun h=>h hA)]
  rw [hG]
  by_cases hS:g.fSuccess=[]
  ·by_cases hF:g.fFailure=[]
   ·rw [if_pos (by simp [hA,hS,hF]),hS,hF]
    rfl
   ·rw [if_neg (by simp [hF]),if_neg (by simp [hA]),if_neg (by simp [hS]),L8 _ _ _ _ (by simp) l3,hS,hY,eM hF]
    simp
  ·rw [if_neg (by simp [hS]),if_neg (by simp [hA]),if_pos (by simp [hS]),av (by simp;omega)]
   simp only [Option.bind_some]
   rw [av (by simp;omega)]
   simp only [Option.bind_some]
   rw [av (by simp;omega)]
   simp only [Option.bind_some]
   rw [L8 _ _ _ _ (by simp;omega) l3,eM hS]
   simp
 ·have hG:cz g=[58,40]++g.fAlways++[41]:=by unfold cz;rw [if_pos hA]
  rw [if_neg (by simp [hA]),if_pos (by simp [hA]),hG,av (by simp;omega)]
  simp only [Option.bind_some]
  rw [av (by simp;omega)]
  rfl
theorem sO {g:ax} (h:gOk g=true):(cz g).length<=100:=by
 obtain ⟨l1,l2,l3⟩:=xS h
 have w1:=ox 83 g.fSuccess
 have w2:=ox 70 g.fFailure
 unfold cz
 repeat' split
 all_goals simp<;>omega
theorem lL (g:ax):cz g=[]↔dT g=true:=by
 unfold cz dT gL
 by_cases hA:g.fAlways=[]<;>by_cases hS:g.fSuccess=[]<;>by_cases hF:g.fFailure=[]<;>simp [hA,hS,hF]
theorem dJ {b:Bool} {e:aa} (h:eR b e=true) (hb:b=true):cb e=some e.text/\cq e.fKind e.fNum e.fText e.fKids=some e.text/\e.text.length<=15000:=by
 unfold eR at h
 rw [if_pos hb] at h
 unfold aa.valid at h
 rw [Bool.and_eq_true_iff,decide_eq_true_eq] at h
 have:=e.text_len h.1
 exact ⟨tC e h.1 (by omega),vp e h.1 (by omega),by omega⟩
theorem eS {s:ab} (h:io s=true):nmB s.fLabel=true/\gOk s.fGoto=true/\eR s.fHasSubject s.fSubject=true/\eR s.fHasPattern s.fPattern=true/\eR s.fHasReplace s.fReplace=true:=by
 unfold io at h
 simp only [Bool.and_eq_true_iff] at h
 obtain ⟨⟨⟨⟨h1,h2⟩,h3⟩,⟨h4,h5⟩,h6⟩,h7⟩:=h
 exact ⟨h1,h2,h4,h5,h6⟩
theorem ia {s:ab} (h:io s=true):eJ s=some (cf s):=by
 obtain ⟨hl,hg,hs,hp,hr⟩:=eS h
 have ll:=pi hl
 have lg:=sO hg
 have hgt:gU (ax.mk s.fGoto.fAlways s.fGoto.fSuccess s.fGoto.fFailure)=some (cz s.fGoto):=tE hg
 have L6:∀ acc:List UInt8,acc.length<=100000->bX acc s.fLabel s.fHasSubject s.fSubject.fKind s.fSubject.fNum s.fSubject.fText s.fSubject.fKids s.fHasPattern s.fPattern.fKind s.fPattern.fNum s.fPattern.fText s.fPattern.fKids s.fHasReplace s.fReplace.fKind s.fReplace.fNum s.fReplace.fText s.fReplace.fKids s.fGoto.fAlways s.fGoto.fSuccess s.fGoto.fFailure=some (acc++qq s):=by
  intro acc ha
  rw [kI]
  simp only [jW,hgt,Option.bind_some]
  unfold qq
  have er:aa.mk s.fReplace.fKind s.fReplace.fNum s.fReplace.fText s.fReplace.fKids=s.fReplace:=by cases s.fReplace;rfl
  rw [er]
  have fin:∀ o:List UInt8,o.length<=200000->(if (!cz s.fGoto==[])=true then (app [32] (cz s.fGoto)).bind fun y194=>(app o y194).bind fun y193=>some y193 else some o)=some (o++(if cz s.fGoto=[] then [] else [32]++cz s.fGoto)):=by
   intro o ho
   by_cases hz:cz s.fGoto=[]
   ·rw [if_neg (by simp [hz]),if_pos hz];simp
   ·rw [if_pos (by simp [hz]),if_neg hz,av (by simp;omega)]
    simp only [Option.bind_some]
    rw [av (by simp;omega)]
    rfl
  cases hR:s.fHasReplace
  ·simp only [Bool.false_eq_true,if_false,List.nil_append]
   exact fin acc (by omega)
  ·obtain ⟨t1,_,t3⟩:=dJ hr hR
   simp only [if_true,t1,Option.bind_some]
   rw [av (by simp;omega)]
   simp only [Option.bind_some]
   rw [av (by simp;omega)]
   simp only [Option.bind_some]
   rw [fin _ (by simp;omega)]
   simp
 rw [m8]
 try simp only [aa.re_eq,ax.re_eq]
 unfold cf jv
 cases hS:s.fHasSubject
 ·cases hP:s.fHasPattern
  ·rw [hS,hP] at L6
   simp only [Bool.false_eq_true,if_false,List.nil_append]
   exact L6 s.fLabel (by omega)
  ·obtain ⟨t1,_,t3⟩:=dJ hp hP
   rw [hS,hP] at L6
   simp only [Bool.false_eq_true,if_false,if_true,List.nil_append,t1,Option.bind_some]
   rw [av (by simp;omega)]
   simp only [Option.bind_some]
   rw [av (by simp;omega)]
   simp only [Option.bind_some]
   rw [L6 _ (by simp;omega)]
   simp
 ·obtain ⟨u1,_,u3⟩:=dJ hs hS
  have lo:=fV 6 (aC s.fSubject.fKind,s.fSubject.text)
  simp only at lo
  have uo:=iJ 6 u1 (by omega)
  cases hP:s.fHasPattern
  ·rw [hS,hP] at L6
   simp only [Bool.false_eq_true,if_false,if_true,uo,Option.bind_some]
   rw [av (by simp;omega)]
   simp only [Option.bind_some]
   rw [av (by simp;omega)]
   simp only [Option.bind_some]
   rw [L6 _ (by simp;omega)]
   simp
  ·obtain ⟨t1,_,t3⟩:=dJ hp hP
   rw [hS,hP] at L6
   simp only [if_true,uo,t1,Option.bind_some]
   rw [av (xs:=[32]) (ys:=oB 6 (aC s.fSubject.fKind,s.fSubject.text)) (by simp;omega)]
   simp only [Option.bind_some]
   rw [av (xs:=s.fLabel) (by simp;omega)]
   simp only [Option.bind_some]
   rw [av (xs:=[32]) (by simp;omega)]
   simp only [Option.bind_some]
   rw [av (by simp;omega)]
   simp only [Option.bind_some]
   rw [L6 _ (by simp;omega)]
   simp
theorem ko {s:ab} (h:io s=true):gM s=some (cf s):=by
  obtain ⟨hl,hg,hs,hp,hr⟩:=eS h
  have ll:=pi hl
  have lg:=sO hg
  have hgt:jj (ax.mk s.fGoto.fAlways s.fGoto.fSuccess s.fGoto.fFailure)=some (cz s.fGoto):=vq hg
  have hz2:(s.fGoto.fAlways==[]&&(s.fGoto.fSuccess==[]&&(s.fGoto.fFailure==[]&&true)))=dT s.fGoto:=by
    unfold dT;simp only [Bool.and_true,Bool.and_assoc]
  have L6 : ∀ acc:List UInt8,acc.length<=100000->dO acc s.fLabel s.fHasSubject s.fSubject.fKind s.fSubject.fNum s.fSubject.fText s.fSubject.fKids s.fHasPattern s.fPattern.fKind s.fPattern.fNum s.fPattern.fText s.fPattern.fKids s.fHasReplace s.fReplace.fKind s.fReplace.fNum s.fReplace.fText s.fReplace.fKids s.fGoto.fAlways s.fGoto.fSuccess s.fGoto.fFailure=some (acc++qq s):=by
    intro acc ha
    rw [pY]
    simp only [oT,hgt,hz2,Option.bind_some]
    unfold qq
    have fin:∀ o:List UInt8,o.length<=200000->(if (!dT s.fGoto)=true then (app [32] (cz s.fGoto)).bind fun y194=>(app o y194).bind fun y193=>some y193 else some o)=some (o++(if cz s.fGoto=[] then [] else [32]++cz s.fGoto)):=by
      intro o ho
      by_cases hz:cz s.fGoto=[]
      · rw [if_neg (by rw [(lL _).1 hz];simp),if_pos hz];simp
      · have hzf:dT s.fGoto=false:=by
          cases hq:dT s.fGoto
          · rfl
          · exact absurd ((lL _).2 hq) hz
        rw [if_pos (by rw [hzf];rfl),if_neg hz,av (by simp;omega)]
        simp only [Option.bind_some]
        rw [av (by simp;omega)]
        rfl
    cases hR:s.fHasReplace
    · simp only [Bool.false_eq_true,if_false,List.nil_append]
      exact fin acc (by omega)
    · obtain ⟨_,t1,t3⟩:=dJ hr hR
      simp only [if_true,t1,Option.bind_some]
      rw [av (by simp;omega)]
      simp only [Option.bind_some]
      rw [av (by simp;omega)]
      simp only [Option.bind_some]
      rw [fin _ (by simp;omega)]
      simp
  rw [uP]
  try simp only [aa.re_eq,ax.re_eq]
  unfold cf jv
  cases hS:s.fHasSubject
  · cases hP:s.fHasPattern
    · rw [hS,hP] at L6
      simp only [Bool.false_eq_true,if_false,List.nil_append]
      exact L6 s.fLabel (by omega)
    · obtain ⟨_,t1,t3⟩:=dJ hp hP
      rw [hS,hP] at L6
      simp only [Bool.false_eq_true,if_false,if_true,List.nil_append,t1,Option.bind_some]
      rw [av (by simp;omega)]
      simp only [Option.bind_some]
      rw [av (by simp;omega)]
      simp only [Option.bind_some]
      rw [L6 _ (by simp;omega)]
      simp
  · obtain ⟨_,u1,u3⟩:=dJ hs hS
    have lo:=fV 6 (aC s.fSubject.fKind,s.fSubject.text)
    simp only at lo
    have uo:=ma 6 u1 (by omega)
    cases hP:s.fHasPattern
    · rw [hS,hP] at L6
      simp only [Bool.false_eq_true,if_false,if_true,uo,Option.bind_some]
      rw [av (by simp;omega)]
      simp only [Option.bind_some]
      rw [av (by simp;omega)]
      simp only [Option.bind_some]
      rw [L6 _ (by simp;omega)]
      simp
    · obtain ⟨_,t1,t3⟩:=dJ hp hP
      rw [hS,hP] at L6
      simp only [if_true,uo,t1,Option.bind_some]
      rw [av (xs:=[32]) (ys:=oB 6 (aC s.fSubject.fKind,s.fSubject.text)) (by simp;omega)]
      simp only [Option.bind_some]
      rw [av (xs:=s.fLabel) (by simp;omega)]
      simp only [Option.bind_some]
      rw [av (xs:=[32]) (by simp;omega)]
      simp only [Option.bind_some]
      rw [av (by simp;omega)]
      simp only [Option.bind_some]
      rw [L6 _ (by simp;omega)]
      simp
theorem wS {s:ab} (h:io s=true):(cf s).length<=100000:=by
 obtain ⟨hl,hg,hs,hp,hr⟩:=eS h
 have ll:=pi hl
 have lg:=sO hg
 have lo:=fV 6 (aC s.fSubject.fKind,s.fSubject.text)
 simp only at lo
 unfold cf jv qq
 have a1:(if s.fHasSubject=true then [32]++oB 6 (aC s.fSubject.fKind,s.fSubject.text) else []).length<=15003:=by
  split
  ·rename_i hS
   obtain ⟨_,_,u3⟩:=dJ hs hS
   simp;omega
  ·simp
 have a2:(if s.fHasPattern=true then [32]++s.fPattern.text else []).length<=15003:=by
  split
  ·rename_i hS
   obtain ⟨_,_,u3⟩:=dJ hp hS
   simp;omega
  ·simp
 have a3:(if s.fHasReplace=true then [32,61,32]++s.fReplace.text else []).length<=15003:=by
  split
  ·rename_i hS
   obtain ⟨_,_,u3⟩:=dJ hr hS
   simp;omega
  ·simp
 have a4:(if cz s.fGoto=[] then [] else [32]++cz s.fGoto).length<=101:=by
  split
  ·simp
  ·simp;omega
 simp only [List.length_append]
 omega
theorem EK {p r:List UInt8} (h:(p++r).length<=1000000):dy (p++r) p=some r:=by
 have hh:bz (p++r) p=some true:=by
  rw [cN,if_pos (by simp [am];omega)]
  have:=nT (xs:=p++r) (a:=0) (b:=p.length) (by omega) (by simp)
  rw [Option.getD_some,am,show (0:Int)=((0:Nat):Int) from rfl,this]
  simp
 rw [lx,eY,hh]
 simp only [Option.bind_some,if_true]
 have:=nT (xs:=p++r) (a:=p.length) (b:=(p++r).length) (by simp) (Nat.le_refl _)
 rw [Option.getD_none,am,am,this,List.take_length,List.drop_left]
 rfl
theorem eT {s:ab} (h1:s.fSubject.m<=1048576) (h2:s.fPattern.m<=1048576) (h3:s.fReplace.m<=1048576):dk s=some (da s):=by
 have es:ab.mk s.fLabel s.fHasSubject s.fSubject s.fHasPattern s.fPattern s.fHasReplace s.fReplace s.fGoto=s:=rfl
 rw [mY]
 try simp only [ab.re_eq,aa.re_eq,ax.re_eq]
 rw [es,wR h1 h2 h3]
 simp only [Option.bind_some]
 unfold da
 cases hf:io s
 ·simp
 ·have hl:=wS hf
  rw [ko hf]
  simp only [Option.bind_some,Bool.not_true,Bool.false_eq_true,if_false,Bool.true_and]
  by_cases h4:(cf s).length<=4000
  ·rw [if_neg (by simp [am];omega)]
   have hc:cut (cf s) (len s.fLabel) (Option.getD none (len (cf s)))=some (jv s):=by
    have:=nT (xs:=cf s) (a:=s.fLabel.length) (b:=(cf s).length) (by unfold cf;simp) (Nat.le_refl _)
    rw [Option.getD_none,am,am,this,List.take_length]
    unfold cf
    rw [List.drop_left]
   have hr:(jv s).length<=(cf s).length:=by unfold cf;simp
   rw [hc]
   simp only [Option.bind_some]
   rw [sK (by omega)]
   simp only [Option.bind_some,h4,decide_true,Bool.true_and]
  ·rw [if_pos (by simp [am];omega)]
   simp [h4]
theorem ic {s:ab} (h1:s.fSubject.m<=1048576) (h2:s.fPattern.m<=1048576) (h3:s.fReplace.m<=1048576):eI s=some (da s):=by
 have es:ab.mk s.fLabel s.fHasSubject s.fSubject s.fHasPattern s.fPattern s.fHasReplace s.fReplace s.fGoto=s:=rfl
 have ea:aa.mk s.fSubject.fKind s.fSubject.fNum s.fSubject.fText s.fSubject.fKids=s.fSubject:=by cases s.fSubject;rfl
 have eb:aa.mk s.fPattern.fKind s.fPattern.fNum s.fPattern.fText s.fPattern.fKids=s.fPattern:=by cases s.fPattern;rfl
 have ec:aa.mk s.fReplace.fKind s.fReplace.fNum s.fReplace.fText s.fReplace.fKids=s.fReplace:=by cases s.fReplace;rfl
 have eg:ax.mk s.fGoto.fAlways s.fGoto.fSuccess s.fGoto.fFailure=s.fGoto:=rfl
 have L7:io s=true->bY s.fLabel s.fHasSubject s.fSubject.fKind s.fSubject.fNum s.fSubject.fText s.fSubject.fKids s.fHasPattern s.fPattern.fKind s.fPattern.fNum s.fPattern.fText s.fPattern.fKids s.fHasReplace s.fReplace.fKind s.fReplace.fNum s.fReplace.fText s.fReplace.fKids s.fGoto.fAlways s.fGoto.fSuccess s.fGoto.fFailure=some (da s):=by
  intro hf
  have hl:=wS hf
  have hr:(jv s).length<=(cf s).length:=by unfold cf;simp
  rw [kM,ea,eb,ec,eg,es,ia hf]
  simp only [Option.bind_some]
  have ht:dy (cf s) s.fLabel=some (jv s):=EK (by unfold cf at hl;omega)
  rw [ht]
  simp only [Option.bind_some]
  rw [lI (by omega)]
  simp only [Option.bind_some]
  unfold da
  rw [hf]
  by_cases h4:(cf s).length<=4000
  ·rw [if_pos (by simp [am];omega)]
   simp [h4]
  ·rw [if_neg (by simp [am];omega)]
   simp [h4]
 have bad:io s=false->da s=false:=fun h=>by unfold da;rw [h];rfl
 have hz2:(s.fGoto.fAlways==[]&&(s.fGoto.fSuccess==[]&&(s.fGoto.fFailure==[]&&true)))=dT s.fGoto:=by
  unfold dT;simp only [Bool.and_true,Bool.and_assoc]
 have hform:io s=(nmB s.fLabel&&gOk s.fGoto&&(s.fHasSubject||(!s.fHasPattern&&!s.fHasReplace))&&(eR s.fHasSubject s.fSubject&&eR s.fHasPattern s.fPattern&&eR s.fHasReplace s.fReplace)&&!(s.fLabel==[]&&!s.fHasSubject&&dT s.fGoto)):=rfl
 have hnm:nmB s.fLabel=(s.fLabel==[]||a6 s.fLabel):=rfl
 rw [m7]
 try simp only [ab.re_eq,aa.re_eq,ax.re_eq]
 rw [lJ,tD]
 simp only [kG,kH,kJ,kK,kL,ea,eb,ec,nA _ h1,nA _ h2,nA _ h3,Option.bind_some,hz2]
 generalize bY s.fLabel s.fHasSubject s.fSubject.fKind s.fSubject.fNum s.fSubject.fText s.fSubject.fKids s.fHasPattern s.fPattern.fKind s.fPattern.fNum s.fPattern.fText s.fPattern.fKids s.fHasReplace s.fReplace.fKind s.fReplace.fNum s.fReplace.fText s.fReplace.fKids s.fGoto.fAlways s.fGoto.fSuccess s.fGoto.fFailure=Z at L7
 cases hF:io s
 ·rw [bad hF]
  rw [hform,hnm] at hF
  revert hF
  cases (s.fLabel==[])<;>cases a6 s.fLabel<;>cases gOk s.fGoto<;>cases eR s.fHasSubject s.fSubject<;>cases eR s.fHasPattern s.fPattern<;>cases eR s.fHasReplace s.fReplace<;>cases s.fHasSubject<;>cases s.fHasPattern<;>cases s.fHasReplace<;>cases dT s.fGoto<;>intro hF<;>first | rfl | (cases hF)
 ·have hZ:=L7 hF
  rw [<-hZ]
  rw [hform,hnm] at hF
  revert hF
  cases (s.fLabel==[])<;>cases a6 s.fLabel<;>cases gOk s.fGoto<;>cases eR s.fHasSubject s.fSubject<;>cases eR s.fHasPattern s.fPattern<;>cases eR s.fHasReplace s.fReplace<;>cases s.fHasSubject<;>cases s.fHasPattern<;>cases s.fHasReplace<;>cases dT s.fGoto<;>intro hF<;>first | rfl | (cases hF)
theorem sP {s:ab} (h:da s=true):io s=true:=by
 unfold da at h
 exact (Bool.and_eq_true_iff.1 h).1
theorem ie {s:ab} (h1:s.fSubject.m<=1048576) (h2:s.fPattern.m<=1048576) (h3:s.fReplace.m<=1048576):eH s=some (if da s=true then cf s else []):=by
 have es:ab.mk s.fLabel s.fHasSubject s.fSubject s.fHasPattern s.fPattern s.fHasReplace s.fReplace s.fGoto=s:=rfl
 rw [mX]
 try simp only [ab.re_eq,aa.re_eq,ax.re_eq]
 rw [es,ic h1 h2 h3]
 simp only [Option.bind_some]
 cases h:da s
 ·simp
 ·rw [ia (sP h)]
  simp
end Go.Dv.U

namespace Go.Dv
open Go
end Go.Dv
namespace Go.Dv.U
open Go Go.Dv Go.Proofs
def ud (s:List UInt8):Bool:=s.all fun b=>b==32
def HF (s:List UInt8):Bool:=match s with | []=>false | b:: _=>b==42
def HG (s:List UInt8):Bool:=match s with | []=>false | b:: _=>b==43
theorem vt (s:List UInt8) (c:UInt8):dN s [c]=some (match s with | []=>false | b:: _=>b==c):=by
 rw [mh,cN]
 cases s with
 | nil=>rfl
 | cons b r=>
  have e:decide (len (b:: r)>=len [c])=true:=by simp [am];omega
  have:=nT (xs:=b:: r) (a:=0) (b:=1) (by omega) (by simp)
  simp only [Int.natCast_zero,Int.natCast_one] at this
  rw [if_pos e]
  simp only [Option.getD_some,show len [c]=(1:Int) from rfl,this,Option.bind_some]
  congr 1
  simp
end Go.Dv.U

namespace Go.Dv.U
open Go Go.Dv Go.Proofs
def HC (a:List dp) (t:List UInt8):List dp:=match a[a.length-1]? with
 | some y=>a.set (a.length-1) ⟨y.fNumber,y.fText++([32]++t.drop 1)⟩
 | none=>a
def BdL (i:Nat) (a:List dp):Prop:=a.length<=i/\∀ y∈a,y.fText.length<=5000*(i+1)
theorem BdL.mono {i:Nat} {a:List dp} (h:BdL i a):BdL (i+1) a:=⟨by have:=h.1;omega,fun y hy=>by have:=h.2 y hy;omega⟩
theorem BdL.ext {i:Nat} {a:List dp} (h:BdL i a) {t:List UInt8} (ht:t.length<=4000):BdL (i+1) (HC a t):=by
 unfold HC
 cases hq:a[a.length-1]? with
 | none=>exact h.mono
 | some y=>
  have hy:=h.2 y (List.mem_of_getElem? hq)
  refine ⟨by have:=h.1;simp;omega,fun z hz=>?_⟩
  rcases List.mem_or_eq_of_mem_set hz with e | e
  ·have:=h.2 z e;omega
  ·subst e;simp;omega
def sst : Int->List UInt8->List UInt8->List (List UInt8)
 | _,cur,[]=>[cur]
 | q,cur,b:: r=>if q≠0 then sst (if ib b=q then 0 else q) (cur++[b]) r
  else if ib b=39 then sst 39 (cur++[b]) r else if ib b=34 then sst 34 (cur++[b]) r
  else if ib b=59 then cur:: sst 0 [] r else sst 0 (cur++[b]) r
end Go.Dv.U

namespace Go.Dv.U
open Go Go.Dv Go.Proofs
def kQ (t:ae):Bool:=t.fKind==4&&t.fBefore&&t.fAfter
def qr (s:List UInt8):Bool:=s==[45]||s==[42]||s==[36]||s==[46]||s==[64]
def B8 (t:ae):Bool:=t.fBefore&&(t.fKind==1||t.fKind==2||t.fKind==3||t.fKind==5||(t.fKind==4&&!t.fAfter&&qr t.fText))
def opK (n:Nat) (s:List UInt8):Int:=if n=1/\s=[124] then 6 else if n=3/\s=[43] then 8 else if n=3/\s=[45] then 9 else if n=4/\s=[42] then 10 else if n=4/\s=[47] then 11 else if n=5/\s=[46] then 12 else if n=5/\s=[36] then 13 else 0
def inf (n:Nat):List ae->Option (Int×List ae)
 | []=>none
 | t:: r=>if n=2 then (if B8 t=true then some (7,t:: r) else none) else if kQ t=true/\opK n t.fText≠0 then some (opK n t.fText,r) else none
inductive Md | ex (n:Nat) | lp (n:Nat) (l:aa) | el | pr | ix (e:aa) | ar (acc:List aa)
def aU (k:Int):List ae->Option (List ae)
 | []=>none
 | t:: r=>if t.fKind=k then some r else none
def dZ : List ae->Option (List UInt8×List ae)
 | []=>none
 | t:: r=>if t.fKind=1 then some (t.fText,r) else none
def E6 (s:List UInt8):Int:=if s=[46] then 16 else if s=[42] then 17 else 18
def pP : Nat->Md->List ae->Option (aa×List ae)
  | 0,_,_=>none
  | f+1,.ex n,ts=>if 6<=n then pP f .el ts else (pP f (.ex (n+1)) ts).bind fun p=>pP f (.lp n p.1) p.2
  | f + 1,.lp n l,ts=>match inf n ts with
    | none=>some (l,ts)
    | some (k,r)=>if n=5 then (dZ r).bind fun p=>pP f (.lp n ⟨k,0,[],[l,⟨3,0,p.1,[]⟩]⟩) p.2
      else (pP f (.ex (n+1)) r).bind fun p=>pP f (.lp n ⟨k,0,[],[l,p.1]⟩) p.2
  | _+1,.el,[]=>none
  | f + 1,.el,t:: r=>if t.fKind=4 then (if t.fAfter=true then none else if t.fText=[45] then (pP f .el r).map fun p=>(⟨14,0,[],[p.1]⟩,p.2) else if t.fText=[36] then (pP f .el r).map fun p=>(⟨15,0,[],[p.1]⟩,p.2)
      else if qr t.fText=true then (dZ r).map fun p=>(⟨E6 t.fText,0,p.1,[]⟩,p.2) else none)
    else (pP f .pr (t:: r)).bind fun p=>pP f (.ix p.1) p.2
  | _+1,.ix e,[]=>some (e,[])
  | f+1,.ix e,t:: r=>if t.fKind=7/\t.fBefore=false then (pP f (.ex 1) r).bind fun p=>(aU 8 p.2).bind fun r2=>pP f (.ix ⟨5,0,[],[e,p.1]⟩) r2 else some (e,t:: r)
  | _+1,.pr,[]=>none
  | f + 1,.pr,t:: r=>if t.fKind=3 then some (⟨1,0,t.fText,[]⟩,r) else if t.fKind=2 then some (⟨2,t.fNum,[],[]⟩,r)
    else if t.fKind=1 then (match t.fAfter,aU 5 r with
      | false,some r2=>match aU 6 r2 with
        | some r3=>some (⟨4,0,t.fText,[]⟩,r3)
        | none=>(pP f (.ar []) r2).map fun p=>(⟨4,0,t.fText,p.1.fKids⟩,p.2)
      | _,_=>some (⟨3,0,t.fText,[]⟩,r))
    else if t.fKind=5 then (pP f (.ex 1) r).bind fun p=>(aU 6 p.2).map fun r2=>(p.1,r2)
    else none
  | f+1,.ar acc,ts=>(pP f (.ex 1) ts).bind fun p=>match aU 9 p.2 with
    | some r=>pP f (.ar (acc++[p.1])) r
    | none=>(aU 6 p.2).map fun r=>(⟨0,0,[],acc++[p.1]⟩,r)
def PR (md:Md) (ts:List ae) (res:aa×List ae):Prop:=∃ f,∀ g,f<=g->pP g md ts=some res
theorem PR.mk1 {md:Md} {ts:List ae} {res:aa×List ae} (h:∀ f,pP (f+1) md ts=some res):PR md ts res:=
 ⟨1,fun g hg=>by obtain ⟨f,rfl⟩:∃ f,g=f+1:=⟨g-1,by omega⟩;exact h f⟩
theorem PR.mk2 {md m1:Md} {ts t1:List ae} {res p:aa×List ae} (h1:PR m1 t1 p) (h:∀ f,pP f m1 t1=some p->pP (f+1) md ts=some res):PR md ts res:=by
 obtain ⟨f1,h1⟩:=h1
 exact ⟨f1+1,fun g hg=>by obtain ⟨f,rfl⟩:∃ f,g=f+1:=⟨g-1,by omega⟩;exact h f (h1 f (by omega))⟩
theorem PR.mk3 {md m1 m2:Md} {ts t1 t2:List ae} {res p q:aa×List ae} (h1:PR m1 t1 p) (h2:PR m2 t2 q) (h:∀ f,pP f m1 t1=some p->pP f m2 t2=some q->pP (f+1) md ts=some res):PR md ts res:=by
 obtain ⟨f1,h1⟩:=h1
 obtain ⟨f2,h2⟩:=h2
 exact ⟨f1+f2+1,fun g hg=>by obtain ⟨f,rfl⟩:∃ f,g=f+1:=⟨g-1,by omega⟩;exact h f (h1 f (by omega)) (h2 f (by omega))⟩
theorem PR.ex6 {ts:List ae} {res:aa×List ae} (h:PR .el ts res):PR (.ex 6) ts res:=PR.mk2 h fun f e=>by rw [pP,if_pos (by decide),e]
theorem PR.exn {n:Nat} (hn:n<=5) {ts r:List ae} {l:aa} {res:aa×List ae} (h1:PR (.ex (n+1)) ts (l,r)) (h2:PR (.lp n l) r res):PR (.ex n) ts res:=
 PR.mk3 h1 h2 fun f e1 e2=>by rw [pP,if_neg (by omega),e1];exact e2
theorem PR.stop {n:Nat} {ts:List ae} {l:aa} (h:inf n ts=none):PR (.lp n l) ts (l,ts):=PR.mk1 fun f=>by rw [pP,h]
theorem PR.go {n:Nat} (hn:n≠5) {k:Int} {ts r r2:List ae} {l y:aa} {res:aa×List ae} (h:inf n ts=some (k,r)) (h1:PR (.ex (n+1)) r (y,r2)) (h2:PR (.lp n ⟨k,0,[],[l,y]⟩) r2 res):PR (.lp n l) ts res:=
 PR.mk3 h1 h2 fun f e1 e2=>by rw [pP,h];simp only;rw [if_neg hn,e1];exact e2
theorem PR.go5 {k:Int} {ts r r2:List ae} {l:aa} {nm:List UInt8} {res:aa×List ae} (h:inf 5 ts=some (k,r)) (h1:dZ r=some (nm,r2)) (h2:PR (.lp 5 ⟨k,0,[],[l,⟨3,0,nm,[]⟩]⟩) r2 res):PR (.lp 5 l) ts res:=
 PR.mk2 h2 fun f e=>by rw [pP,h];simp only;rw [if_pos trivial,h1];exact e
theorem PR.el {t:ae} {r r2:List ae} {y:aa} {res:aa×List ae} (hk:t.fKind≠4) (h1:PR .pr (t:: r) (y,r2)) (h2:PR (.ix y) r2 res):PR .el (t:: r) res:=
 PR.mk3 h1 h2 fun f e1 e2=>by rw [pP,if_neg hk,e1];exact e2
def vu (ts:List ae):Prop:=∀ t r,ts=t:: r->¬ (t.fKind=7/\t.fBefore=false)
theorem PR.ixStop {ts:List ae} {e:aa} (h:vu ts):PR (.ix e) ts (e,ts):=PR.mk1 fun f=>by
 cases ts with
 | nil=>rfl
 | cons t r=>rw [pP,if_neg (h t r rfl)]
theorem PR.down {ts r:List ae} {x:aa} {n:Nat} (hs:∀ j,n<=j->j<=5->inf j r=none):∀ m,n<=m->m<=6->PR (.ex m) ts (x,r)->PR (.ex n) ts (x,r):=by
  intro m
  induction m with
  | zero => intro h _ h1;have e:n=0:=by omega
            rw [e];exact h1
  | succ m ih=>
    intro h h6 h1
    by_cases e:n=m+1
    · subst e;exact h1
    · exact ih (by omega) (by omega) (PR.exn (by omega) h1 (PR.stop (hs m (by omega) (by omega))))
theorem sQ {bl:Bool} {s:List UInt8} {L:List ae} {k m:Int} {t:List UInt8} {w:Nat} (hb:∀ b r,s=b:: r->¬ ib b=32) (ht:iZ s=some (k,m,t,w)) (h:Sc bl s L):
  ∃ L',L=⟨k,m,t,bl,aQ (s.drop w)⟩:: L'/\Sc false (s.drop w) L':=by
 cases h with
 | nil=>cases ht
 | bl _ h=>exact absurd (by decide) (hb 32 _ rfl)
 | tok _ hb' ht' h=>
  rw [ht] at ht'
  cases ht'
  exact ⟨_,rfl,h⟩
theorem dU {bl:Bool} {r:List UInt8} {L:List ae} (h:Sc bl (32:: r) L):Sc true r L:=by
 cases h with
 | bl _ h=>exact h
 | tok _ hb' ht' h=>exact absurd (by decide) (hb' 32 r rfl)
theorem wT {b:UInt8} (h:gk (ib b)=true):¬ ib b=32/\bI (ib b)=true:=by
 refine ⟨?_,by unfold bI;rw [h];rfl⟩
 intro e;rw [e] at h;revert h;decide
theorem pj {bl:Bool} {t r:List UInt8} {L:List ae} (hn:a6 t=true) (hr:∀ b q,r=b:: q->bI (ib b)=false) (h:Sc bl (t++r) L):
  ∃ L',L=⟨1,0,t,bl,aQ r⟩:: L'/\Sc false r L':=by
 cases t with
 | nil=>simp [a6] at hn
 | cons b q=>
  simp only [a6,Bool.and_eq_true,decide_eq_true_eq] at hn
  obtain ⟨⟨hlen,hlet⟩,hall⟩:=hn
  have hf:=wT hlet
  have hrun:aG bI (b:: q++r)=(b:: q).length:=fP _ _ hall hr
  have ht:iZ (b:: q++r)=some (1,0,b:: q,(b:: q).length):=by
   show iZ (b:: (q++r))=_
   rw [b0,if_pos hlet]
   rw [show aG bI (b:: (q++r))=(b:: q).length from hrun,if_pos hlen]
   rw [show b:: (q++r)=(b:: q)++r from rfl,l9]
  obtain ⟨L',e,h2⟩:=sQ (fun b' r' e=>by cases e;exact hf.1) ht h
  rw [qE] at e h2
  exact ⟨L',e,h2⟩
theorem FJ {bl:Bool} {n:Int} {r:List UInt8} {L:List ae} (h0:0<=n) (h1:n<=1000000000000) (hr:∀ b q,r=b:: q->bc (ib b)=false) (h:Sc bl (Lib.itoa n++r) L):
  ∃ L',L=⟨2,n,[],bl,aQ r⟩:: L'/\Sc false r L':=by
 obtain ⟨u,rfl⟩:∃ u:Nat,n=u:=⟨n.toNat,by omega⟩
 rw [vd] at h
 obtain ⟨d1,d2,d3⟩:=By u
 have hl:=EJ (u:=u) (by omega)
 have hrun:aG bc (Lib.decDigits u++r)=(Lib.decDigits u).length:=fP _ _ d1 hr
 cases hd:Lib.decDigits u with
 | nil=>exact absurd hd d3
 | cons b q=>
  have d4:=d1
  rw [hd,List.all_cons,Bool.and_eq_true] at d4
  have hb:=d4.1
  have hne:¬ ib b=32/\gk (ib b)=false:=by
   simp only [bc,Bool.and_eq_true,decide_eq_true_eq] at hb
   refine ⟨by omega,?_⟩
   simp only [gk,Bool.or_eq_false_iff,Bool.and_eq_false_iff,decide_eq_false_iff_not];omega
  have ht:iZ (Lib.decDigits u++r)=some (2,(u:Int),[],(Lib.decDigits u).length):=by
   rw [hd] at hrun ⊢
   show iZ (b:: (q++r))=_
   rw [b0,if_neg (by rw [hne.2];decide),if_pos hb]
   rw [show aG bc (b:: (q++r))=(b:: q).length from hrun,show b:: (q++r)=(b:: q)++r from rfl,l9,<-hd,d2,if_pos ⟨hl,by omega⟩]
  obtain ⟨L',e,h2⟩:=sQ (fun b' r' e=>by rw [hd] at e;cases e;exact hne.1) ht h
  rw [qE] at e h2
  exact ⟨L',e,h2⟩
theorem C5 {bl:Bool} {t r:List UInt8} {L:List ae} (hq:sW t=true) (h:Sc bl (om t++r) L):∃ L',L=⟨3,0,t,bl,aQ r⟩:: L'/\Sc false r L':=by
 have key:∀ c:UInt8,(ib c=39\/ib c=34)->hasB (ib c) t=false->Sc bl ((c:: t++[c])++r) L->∃ L',L=⟨3,0,t,bl,aQ r⟩:: L'/\Sc false r L':=by
  intro c hc hn h
  have hl:t.length<=200:=by simp only [sW,Bool.and_eq_true,decide_eq_true_eq] at hq;exact hq.1.1
  obtain ⟨_,q2,q3,q4⟩:=Bz hc
  have hall:t.all (fun b=>(fun x=>x !=ib c) (ib b))=true:=by
   rw [List.all_eq_true];intro b hb;simpa using yZ hn b hb
  have hrun:aG (fun x=>x !=ib c) (t++([c]++r))=t.length:=fP _ _ hall fun b q e=>by cases e;simp
  have ht:iZ ((c:: t++[c])++r)=some (3,0,t,t.length+2):=by
   rw [show (c:: t++[c])++r=c:: (t++([c]++r)) by simp,b0,if_neg (by rw [q4];decide),if_neg (by rw [q2];decide),if_pos hc,hrun,if_pos ⟨by simp,hl⟩,l9]
  obtain ⟨L',e,h2⟩:=sQ (fun b' r' e=>by cases e;simpa using q3) ht h
  have e3:((c:: t++[c])++r).drop (t.length+2)=r:=by
   rw [show t.length+2=(c:: t++[c]).length by simp,qE]
  rw [e3] at e h2
  exact ⟨L',e,h2⟩
 unfold om at h
 rw [if_pos hq] at h
 by_cases h39:hasB 39 t=true
 ·rw [if_pos h39] at h
  refine key 34 (.inr (by decide)) ?_ h
  simp only [sW,Bool.and_eq_true,Bool.not_eq_true',h39,Bool.true_and] at hq
  exact hq.2
 ·rw [if_neg h39] at h
  exact key 39 (.inl (by decide)) (by rw [show ib 39=39 from by decide];simpa using h39) h
theorem wU {bl:Bool} {b:UInt8} {r:List UInt8} {L:List ae} (hb:lG (ib b)=true) (h:Sc bl (b:: r) L):∃ L',L=⟨4,0,[b],bl,aQ r⟩:: L'/\Sc false r L':=by
 have f:∀ b:UInt8,lG (ib b)=true->gk (ib b)=false/\bc (ib b)=false/\¬ (ib b=39\/ib b=34)/\¬ ib b=32:=dH (by decide +kernel)
 obtain ⟨f1,f2,f3,f4⟩:=f b hb
 have ht:iZ (b:: r)=some (4,0,[b],1):=by
  rw [b0,if_neg (by rw [f1];decide),if_neg (by rw [f2];decide),if_neg f3,if_pos hb]
 exact sQ (fun b' r' e=>by cases e;exact f4) ht h
theorem ek {bl:Bool} {b:UInt8} {r:List UInt8} {L:List ae} (hb:b9 (ib b)≠0) (h:Sc bl (b:: r) L):∃ L',L=⟨b9 (ib b),0,[],bl,aQ r⟩:: L'/\Sc false r L':=by
 have f:∀ b:UInt8,b9 (ib b)≠0->gk (ib b)=false/\bc (ib b)=false/\¬ (ib b=39\/ib b=34)/\¬ ib b=32/\lG (ib b)=false:=dH (by decide +kernel)
 obtain ⟨f1,f2,f3,f4,f5⟩:=f b hb
 have ht:iZ (b:: r)=some (b9 (ib b),0,[],1):=by
  rw [b0,if_neg (by rw [f1];decide),if_neg (by rw [f2];decide),if_neg f3,if_neg (by rw [f5];decide),if_pos hb]
 exact sQ (fun b' r' e=>by cases e;exact f4) ht h
def okR (r:List UInt8):Prop:=∀ b q,r=b:: q->ib b=32\/ib b=41\/ib b=44\/ib b=60\/ib b=62
theorem okR.nm {r:List UInt8} (h:okR r):∀ b q,r=b:: q->bI (ib b)=false:=by
 intro b q e
 rcases h b q e with h | h | h | h | h<;>rw [h]<;>decide
theorem okR.dg {r:List UInt8} (h:okR r):∀ b q,r=b:: q->bc (ib b)=false:=by
 intro b q e
 rcases h b q e with h | h | h | h | h<;>rw [h]<;>decide
def hdO (bl:Bool) (L:List ae):Prop:=∃ t q,L=t:: q/\t.fBefore=bl/\((t.fKind=1\/t.fKind=2\/t.fKind=3\/t.fKind=5)\/(t.fKind=4/\t.fAfter=false/\qr t.fText=true))
structure RT (m:Int) (x:aa) (bl:Bool) (L Lr:List ae):Prop where
 hd:hdO bl L
 e7:m=7->∀ res,PR (.ix x) Lr res->PR .el L res
 e6:6<=m->vu Lr->PR .el L (x,Lr)
 en:∀ n:Nat,1<=n->n<=5->(n:Int)<=m->vu Lr->(∀ j,n<j->j<=5->inf j Lr=none)->∀ res,PR (.lp n x) Lr res->PR (.ex n) L res
theorem RT.of6 {m:Int} {x:aa} {bl:Bool} {L Lr:List ae} (hd:hdO bl L) (h7:m=7->∀ res,PR (.ix x) Lr res->PR .el L res) (h6:vu Lr->PR .el L (x,Lr)):RT m x bl L Lr:=
 ⟨hd,h7,fun _=>h6,fun n h1 h5 _ hs hj res hr=>PR.exn h5 (PR.down (fun j a b=>hj j (by omega) b) 6 (by omega) (by omega) (PR.ex6 (h6 hs))) hr⟩
theorem RT.of7 {x:aa} {bl:Bool} {L Lr:List ae} (hd:hdO bl L) (h7:∀ res,PR (.ix x) Lr res->PR .el L res):RT 7 x bl L Lr:=
 RT.of6 hd (fun _=>h7) fun hs=>h7 _ (PR.ixStop hs)
theorem RT.fin {m:Int} {x:aa} {bl:Bool} {L Lr:List ae} (h:RT m x bl L Lr) {n:Nat} (h1:1<=n) (h6:n<=6) (hn:(n:Int)<=m) (hs:vu Lr) (hj:∀ j,n<=j->j<=5->inf j Lr=none):PR (.ex n) L (x,Lr):=by
 by_cases e:n=6
 ·subst e;exact PR.ex6 (h.e6 (by omega) hs)
 ·exact h.en n h1 (by omega) hn hs (fun j a b=>hj j (by omega) b) _ (PR.stop (hj n (Nat.le_refl _) (by omega)))
theorem qH {t:ae} {r:List ae} (h:t.fKind=6\/t.fKind=8\/t.fKind=9\/t.fKind=7) (j:Nat):inf j (t:: r)=none:=by
 have h1:B8 t=false:=by
  unfold B8
  rcases h with h | h | h | h<;>rw [h]<;>cases t.fBefore<;>rfl
 have h2:kQ t=false:=by
  unfold kQ
  rcases h with h | h | h | h<;>rw [h]<;>rfl
 simp only [inf,h1,h2];simp
theorem iK {t:ae} {r:List ae} (h:t.fKind≠7):vu (t:: r):=by
 intro t' r' e;cases e;exact fun h2=>h h2.1
theorem RT.paren {m:Int} {x:aa} {bl b2 a1:Bool} {L Lr:List ae} {c:ae} (hm:1<=m) (hc:c.fKind=6) (h:RT m x b2 L (c:: Lr)):RT 7 x bl (⟨5,0,[],bl,a1⟩:: L) Lr:=by
 refine RT.of7 ⟨_,_,rfl,rfl,.inl (by simp)⟩ fun res hr=>?_
 refine PR.el (by simp) ?_ hr
 refine PR.mk2 (h.fin (n:=1) (by omega) (by omega) hm (iK (by rw [hc];decide)) fun j _ _=>qH (.inl hc) j) fun f e=>?_
 rw [pP]
 simp only [show ¬ (5:Int)=3 from by decide,show ¬ (5:Int)=2 from by decide,show ¬ (5:Int)=1 from by decide,if_false,if_true]
 rw [e]
 simp [aU,hc]
def RTo (x:aa):Prop:=∀ (bl:Bool) (r:List UInt8) (L:List ae),okR r->Sc bl (x.text++r) L->∃ Lr,Sc false r Lr/\RT (aC x.fKind) x bl L Lr
theorem wV (r:List UInt8):okR (41:: r):=by intro b q e;cases e;right;left;decide
theorem lM (r:List UInt8):okR (32:: r):=by intro b q e;cases e;left;decide
theorem BC (r:List UInt8):okR (44:: r):=by intro b q e;cases e;right;right;left;decide
theorem C6 (r:List UInt8):okR (60:: r):=by intro b q e;cases e;right;right;right;left;decide
theorem BD (r:List UInt8):okR (62:: r):=by intro b q e;cases e;right;right;right;right;decide
theorem oy {x:aa} (hx:RTo x) (l:Int) {bl:Bool} {r:List UInt8} {L:List ae} (hr:okR r) (h:Sc bl (oB l (aC x.fKind,x.text)++r) L):∃ Lr,Sc false r Lr/\RT (if aC x.fKind<l then 7 else aC x.fKind) x bl L Lr:=by
 unfold oB at h
 simp only at h
 by_cases hl:aC x.fKind<l
 ·rw [if_pos hl] at h ⊢
  have e:40:: (x.text++[41])++r=40:: (x.text++41:: r):=by simp
  rw [e] at h
  obtain ⟨L1,rfl,h1⟩:=ek (b:=40) (by decide) h
  obtain ⟨L2,h2,h3⟩:=hx false _ L1 (wV r) h1
  obtain ⟨Lr,rfl,h4⟩:=ek (b:=41) (by decide) h2
  have em:b9 (ib 40)=5:=by decide
  rw [em]
  exact ⟨Lr,h4,RT.paren (by have:=ca x.fKind;omega) (show b9 (ib 41)=6 from by decide) h3⟩
 ·rw [if_neg hl] at h ⊢
  exact hx bl r L hr h
theorem ue {x:aa} (h:qp x=true):(∃ t,x=⟨1,0,t,[]⟩/\sW t=true)\/(∃ n,x=⟨2,n,[],[]⟩/\0<=n/\n<=1000000000000)\/(∃ t,x=⟨3,0,t,[]⟩/\a6 t=true)\/(∃ k t,x=⟨k,0,t,[]⟩/\(k=16\/k=17\/k=18)/\a6 t=true) \/
  (∃ t ks,x=⟨4,0,t,ks⟩/\ks.length<=6/\a6 t=true)\/(∃ k a,x=⟨k,0,[],[a]⟩/\(k=14\/k=15))\/(∃ a b,x=⟨5,0,[],[a,b]⟩)\/(∃ k a b,x=⟨k,0,[],[a,b]⟩/\6<=k/\k<=11)\/(∃ k a b,x=⟨k,0,[],[a,b]⟩/\(k=12\/k=13)/\b.fKind=3):=by
 obtain ⟨k,n,t,ks⟩:=x
 unfold qp at h
 simp only at h
 have nil:∀ {l:List aa},(l.length==0)=true->l=[]:=fun h=>List.eq_nil_of_length_eq_zero (by simpa using h)
 split at h
 ·rename_i e;subst e
  simp only [Bool.and_eq_true] at h
  obtain ⟨⟨h1,h2⟩,h3⟩:=h
  have:=nil h1;subst this
  have:n=0:=by simpa using h2
  subst this
  exact .inl ⟨t,rfl,h3⟩
 split at h
 ·rename_i e;subst e
  simp only [Bool.and_eq_true,decide_eq_true_eq] at h
  obtain ⟨⟨h1,h2⟩,h3⟩:=h
  have:=nil h1;subst this
  have:t=[]:=by simpa using h2
  subst this
  exact .inr (.inl ⟨n,rfl,h3⟩)
 split at h
 ·rename_i e
  simp only [Bool.and_eq_true] at h
  obtain ⟨⟨h1,h2⟩,h3⟩:=h
  have:=nil h1;subst this
  have:n=0:=by simpa using h2
  subst this
  rcases e with rfl | e
  ·exact .inr (.inr (.inl ⟨t,rfl,h3⟩))
  ·exact .inr (.inr (.inr (.inl ⟨k,t,rfl,e,h3⟩)))
 split at h
 ·rename_i e;subst e
  simp only [Bool.and_eq_true,decide_eq_true_eq] at h
  obtain ⟨⟨h1,h2⟩,h3⟩:=h
  have:n=0:=by simpa using h2
  subst this
  exact .inr (.inr (.inr (.inr (.inl ⟨t,ks,rfl,h1,h3⟩))))
 simp only [Bool.and_eq_true] at h
 obtain ⟨⟨h1,h2⟩,h3⟩:=h
 have:n=0:=by simpa using h1
 subst this
 have:t=[]:=by simpa using h2
 subst this
 split at h3
 ·rename_i e
  rcases ks with _ | ⟨a,_ | ⟨b,_ | ⟨c,r⟩⟩⟩
  ·cases h3
  ·cases h3
  ·exact .inr (.inr (.inr (.inr (.inr (.inr (.inr (.inr ⟨k,a,b,rfl,e,by simpa using h3⟩)))))))
  ·cases h3
 split at h3
 ·rename_i e
  rcases ks with _ | ⟨a,_ | ⟨b,r⟩⟩
  ·simp at h3
  ·exact .inr (.inr (.inr (.inr (.inr (.inl ⟨k,a,rfl,e⟩)))))
  ·simp at h3
 split at h3
 ·rename_i e
  rcases ks with _ | ⟨a,_ | ⟨b,_ | ⟨c,r⟩⟩⟩
  ·simp at h3
  ·simp at h3
  ·by_cases e5:k=5
   ·subst e5;exact .inr (.inr (.inr (.inr (.inr (.inr (.inl ⟨a,b,rfl⟩))))))
   ·exact .inr (.inr (.inr (.inr (.inr (.inr (.inr (.inl ⟨k,a,b,rfl,by omega,by omega⟩)))))))
  ·simp at h3
 ·cases h3
theorem DJ {n:Nat} {s:UInt8} {r:List ae} (h:opK n [s]≠0) (h2:n≠2):inf n (⟨4,0,[s],true,true⟩:: r)=some (opK n [s],r):=by
 simp only [inf]
 rw [if_neg h2,if_pos ⟨rfl,h⟩]
theorem BE {n:Nat} {s:List UInt8} {k:Int} (hk:s=qG k) (h6:6<=k) (h13:k<=13) (h7:k≠7):opK n s=if (n:Int)=aC k then k else 0:=by
 subst hk
 have:k=6\/k=8\/k=9\/k=10\/k=11\/k=12\/k=13:=by omega
 rcases this with rfl | rfl | rfl | rfl | rfl | rfl | rfl<;>simp [opK,qG,aC]<;>omega
theorem y4 {n:Nat} {s:UInt8} {a:Bool} {r:List ae} (h:opK n [s]=0):inf n (⟨4,0,[s],true,true⟩:: r)=none:=by
 simp only [inf,h,B8,kQ];simp
end Go.Dv.U

namespace Go.Dv.U
open Go Go.Dv Go.Proofs
theorem BF {bl:Bool} {s:List UInt8} {L:List ae} (h:Sc bl s L):bl=true->∀ t q,L=t:: q->t.fBefore=true:=by
 induction h with
 | nil bl=>intro _ t q e;cases e
 | bl bl h ih=>intro _;exact ih rfl
 | tok bl hb ht h ih=>intro e t q e2;cases e2;exact e
theorem BG {s:List UInt8} {L:List ae} (h:Sc false s L) (hd:hdO false L):aQ s=false:=by
 obtain ⟨t,q,rfl,hb,_⟩:=hd
 cases s with
 | nil=>cases h with | tok _ _ ht _=>cases ht
 | cons b r=>
  show (ib b==32)=false
  rw [beq_eq_false_iff_ne]
  intro e
  obtain rfl:=HB e
  have:=BF (dU h) rfl t q rfl
  rw [hb] at this;cases this
theorem BH {r:List UInt8} {L:List ae} (hr:okR r) (h:Sc false r L):aQ r=true\/aU 5 L=none:=by
 cases r with
 | nil=>exact .inl rfl
 | cons b q=>
  have key:b9 (ib b)≠0->b9 (ib b)≠5->aU 5 L=none:=by
   intro h1 h2
   obtain ⟨L',rfl,_⟩:=ek h1 h
   simp [aU,h2]
  rcases hr b q rfl with e | e | e | e | e
  ·exact .inl (by simp [aQ,e])
  all_goals exact .inr (key (by rw [e];decide) (by rw [e];decide))
theorem RT.ofBin {m:Nat} {x:aa} {bl:Bool} {L Lr:List ae} (h5:m<=5) (hd:hdO bl L)
  (H:vu Lr->(∀ j,m<j->j<=5->inf j Lr=none)->∀ res,PR (.lp m x) Lr res->PR (.ex m) L res):RT (m:Int) x bl L Lr:=by
 refine ⟨hd,fun h=>by omega,fun h=>by omega,fun n h1 _ hn hs hj res hr=>?_⟩
 have h2:=H hs fun j a b=>hj j (by omega) b
 by_cases e:n=m
 ·subst e;exact h2 res hr
 ·have h3:=h2 (x,Lr) (PR.stop (hj m (by omega) h5))
  exact PR.exn (by omega) (PR.down (fun j a b=>hj j (by omega) b) m (by omega) (by omega) h3) hr
theorem EL : ∀ (ks:List aa),(∀ y∈ks,RTo y)->ks≠[]->∀ (bl:Bool) (r:List UInt8) (L:List ae) (acc:List aa),Sc bl (Lib.join (ks.map aa.text) [44]++41:: r) L ->
  ∃ Lr,Sc false r Lr/\aU 6 L=none/\PR (.ar acc) L (⟨0,0,[],acc++ks⟩,Lr):=by
 have hd6:∀ {bl:Bool} {L:List ae},hdO bl L->aU 6 L=none:=by
  rintro bl L ⟨t,q,rfl,_,h⟩
  have:t.fKind≠6:=by omega
  simp [aU,this]
 intro ks
 induction ks with
 | nil=>intro _ h;exact absurd rfl h
 | cons y ks ih=>
  intro hy _ bl r L acc h
  cases ks with
  | nil=>
   have e:Lib.join ([y].map aa.text) [44]=y.text:=by simp [Lib.join]
   rw [e] at h
   obtain ⟨L1,h1,h2⟩:=hy y (by simp) bl _ L (wV r) h
   obtain ⟨Lr,rfl,h3⟩:=ek (b:=41) (by decide) h1
   have em:b9 (ib 41)=6:=by decide
   rw [em] at h2
   refine ⟨Lr,h3,hd6 h2.hd,?_⟩
   refine PR.mk2 (h2.fin (n:=1) (by omega) (by omega) (ca _).1 (iK (by simp)) fun j _ _=>qH (.inl rfl) j) fun f e=>?_
   rw [pP,e]
   simp [aU]
  | cons z ks=>
   have e:Lib.join ((y:: z:: ks).map aa.text) [44]++41:: r=y.text++44:: (Lib.join ((z:: ks).map aa.text) [44]++41:: r):=by simp [Lib.join]
   rw [e] at h
   obtain ⟨L1,h1,h2⟩:=hy y (by simp) bl _ L (BC _) h
   obtain ⟨L2,rfl,h3⟩:=ek (b:=44) (by decide) h1
   have em:b9 (ib 44)=9:=by decide
   rw [em] at h2
   obtain ⟨Lr,h4,_,h5⟩:=ih (fun u hu=>hy u (by simp only [List.mem_cons] at hu ⊢;exact .inr hu)) (by simp) false r L2 (acc++[y]) h3
   refine ⟨Lr,h4,hd6 h2.hd,?_⟩
   refine PR.mk3 (h2.fin (n:=1) (by omega) (by omega) (ca _).1 (iK (by simp)) fun j _ _=>qH (.inr (.inr (.inl rfl))) j) h5 fun f e1 e2=>?_
   rw [pP,e1]
   simp only [Option.bind_some,aU,if_true]
   rw [e2];simp
theorem qI {k:Int} (h:k=6\/(8<=k/\k<=18)):∃ s:UInt8,qG k=[s]/\lG (ib s)=true:=by
 have:k=6\/k=8\/k=9\/k=10\/k=11\/k=12\/k=13\/k=14\/k=15\/k=16\/k=17\/k=18:=by omega
 rcases this with rfl | rfl | rfl | rfl | rfl | rfl | rfl | rfl | rfl | rfl | rfl | rfl<;>exact ⟨_,rfl,by decide⟩
set_option maxHeartbeats 1000000 in
theorem vw : ∀ x:aa,x.good=true->RTo x:=by
 intro x
 induction x using aa.ind with
 | h x ih=>
  intro hg
  rw [x.good_eq,Bool.and_eq_true,List.all_eq_true] at hg
  obtain ⟨hnode,hk⟩:=hg
  have ih:=fun y hy=>ih y hy (hk y hy)
  rcases ue hnode with ⟨t,rfl,h1⟩ | ⟨n,rfl,h1,h2⟩ | ⟨t,rfl,h1⟩ | ⟨k,t,rfl,h0,h1⟩ | ⟨t,ks,rfl,h1,h2⟩ | ⟨k,a,rfl,h1⟩ | ⟨a,b,rfl⟩ | ⟨k,a,b,rfl,h1,h2⟩ | ⟨k,a,b,rfl,h1,h2⟩
  ·intro bl r L hr h
   have e:(⟨1,0,t,[]⟩:aa).text=om t:=by simp [aa.text,ej]
   rw [e] at h
   obtain ⟨L',rfl,h3⟩:=C5 h1 h
   exact ⟨L',h3,RT.of7 ⟨_,_,rfl,rfl,.inl (by simp)⟩ fun res hr=>PR.el (by simp) (PR.mk1 fun f=>by rw [pP];simp) hr⟩
  ·intro bl r L hr h
   have e:(⟨2,n,[],[]⟩:aa).text=Lib.itoa n:=by simp [aa.text,ej]
   rw [e] at h
   obtain ⟨L',rfl,h3⟩:=FJ h1 h2 hr.dg h
   exact ⟨L',h3,RT.of7 ⟨_,_,rfl,rfl,.inl (by simp)⟩ fun res hr=>PR.el (by simp) (PR.mk1 fun f=>by rw [pP];simp) hr⟩
  ·intro bl r L hr h
   have e:(⟨3,0,t,[]⟩:aa).text=t:=by simp [aa.text,ej]
   rw [e] at h
   obtain ⟨L',rfl,h3⟩:=pj h1 hr.nm h
   have hst:=BH hr h3
   refine ⟨L',h3,RT.of7 ⟨_,_,rfl,rfl,.inl (by simp)⟩ fun res hr=>PR.el (by simp) (PR.mk1 fun f=>?_) hr⟩
   rw [pP]
   rcases hst with e | e
   ·simp [e]
   ·cases aQ r<;>simp [e]
  ·intro bl r L hr h
   obtain ⟨s,hs,ho⟩:=qI (k:=k) (by omega)
   have e:(⟨k,0,t,[]⟩:aa).text++r=s:: (t++r):=by
    rcases h0 with rfl | rfl | rfl<;>simp [aa.text,ej,hs]
   rw [e] at h
   obtain ⟨L1,rfl,h3⟩:=wU ho h
   have hnb:aQ (t++r)=false:=by
    cases t with
    | nil=>simp [a6] at h1
    | cons b q=>
     simp only [a6,Bool.and_eq_true] at h1
     have:=(wT h1.1.2).1
     simpa [aQ] using this
   obtain ⟨L',rfl,h4⟩:=pj h1 hr.nm h3
   have hpre:qr [s]=true/\E6 [s]=k/\¬ [s]=[45]/\¬ [s]=[36]:=by
    rw [<-hs]
    rcases h0 with rfl | rfl | rfl<;>decide
   have hl:aC k=6:=by rcases h0 with rfl | rfl | rfl<;>decide
   refine ⟨L',h4,?_⟩
   rw [show aC (aa.fKind ⟨k,0,t,[]⟩)=6 from hl]
   refine RT.of6 ⟨_,_,rfl,rfl,.inr ⟨rfl,hnb,hpre.1⟩⟩ (fun h=>by omega) fun _=>PR.mk1 fun f=>?_
   rw [pP]
   simp only [if_true]
   rw [show aQ (t++r)=false from hnb]
   simp only [Bool.false_eq_true,if_false]
   rw [if_neg hpre.2.2.1,if_neg hpre.2.2.2,if_pos hpre.1]
   simp [dZ,hpre.2.1]
  ·intro bl r L hr h
   have e:(⟨4,0,t,ks⟩:aa).text++r=t++40:: (Lib.join (ks.map aa.text) [44]++41:: r):=by
    rw [aa.text_eq];simp [ej,Function.comp_def]
   rw [e] at h
   obtain ⟨L1,rfl,h3⟩:=pj h2 (fun b q e=>by cases e;decide) h
   obtain ⟨L2,rfl,h4⟩:=ek (b:=40) (by decide) h3
   have em:b9 (ib 40)=5:=by decide
   rw [em]
   have hnb:aQ (40:: (Lib.join (ks.map aa.text) [44]++41:: r))=false:=by simp [aQ];decide
   rw [hnb]
   by_cases hks:ks=[]
   ·subst hks
    have e2:Lib.join (([]:List aa).map aa.text) [44]++41:: r=41:: r:=by simp [Lib.join]
    rw [e2] at h4
    obtain ⟨Lr,rfl,h5⟩:=ek (b:=41) (by decide) h4
    have em:b9 (ib 41)=6:=by decide
    rw [em]
    refine ⟨Lr,h5,RT.of7 ⟨_,_,rfl,rfl,.inl (by simp)⟩ fun res hr=>PR.el (by simp) (PR.mk1 fun f=>?_) hr⟩
    rw [pP];simp [aU]
   ·obtain ⟨Lr,h5,h6,h7⟩:=EL ks ih hks _ r L2 [] h4
    refine ⟨Lr,h5,RT.of7 ⟨_,_,rfl,rfl,.inl (by simp)⟩ fun res hr=>PR.el (by simp) (PR.mk2 h7 fun f e=>?_) hr⟩
    rw [List.nil_append] at e
    rw [pP]
    have e5:aU 5 (⟨5,0,[],false,aQ (Lib.join (ks.map aa.text) [44]++41:: r)⟩:: L2)=some L2:=by simp [aU]
    simp [e5,h6,e]
  ·intro bl r L hr h
   obtain ⟨s,hs,ho⟩:=qI (k:=k) (by omega)
   have e:(⟨k,0,[],[a]⟩:aa).text++r=s:: (oB 6 (aC a.fKind,a.text)++r):=by
    rw [aa.text_eq];rcases h1 with rfl | rfl<;>simp [ej,hs]
   rw [e] at h
   obtain ⟨L1,rfl,h3⟩:=wU ho h
   obtain ⟨Lr,h4,h5⟩:=oy (ih a (by simp)) 6 hr h3
   have hnb:=BG h3 h5.hd
   rw [hnb]
   have hl:aC k=6:=by rcases h1 with rfl | rfl<;>decide
   refine ⟨Lr,h4,?_⟩
   rw [show aC (aa.fKind ⟨k,0,[],[a]⟩)=6 from hl]
   have hpre:qr [s]=true:=by rw [<-hs];rcases h1 with rfl | rfl<;>decide
   refine RT.of6 ⟨_,_,rfl,rfl,.inr ⟨rfl,rfl,hpre⟩⟩ (fun h=>by omega) fun hst=>PR.mk2 (h5.e6 (by split<;>omega) hst) fun f e9=>?_
   rw [pP]
   simp only [if_true,Bool.false_eq_true,if_false]
   rw [<-hs]
   rcases h1 with rfl | rfl
   ·rw [if_pos (by decide),e9];rfl
   ·rw [if_neg (by decide),if_pos (by decide),e9];rfl
  ·intro bl r L hr h
   have e:(⟨5,0,[],[a,b]⟩:aa).text++r=oB 7 (aC a.fKind,a.text)++60:: (b.text++62:: r):=by
    rw [aa.text_eq];simp [ej]
   rw [e] at h
   obtain ⟨L1,h3,h4⟩:=oy (ih a (by simp)) 7 (C6 _) h
   obtain ⟨L2,rfl,h5⟩:=ek (b:=60) (by decide) h3
   have em:b9 (ib 60)=7:=by decide
   rw [em] at h4
   obtain ⟨L3,h6,h7⟩:=ih b (by simp) false _ L2 (BD r) h5
   obtain ⟨Lr,rfl,h8⟩:=ek (b:=62) (by decide) h6
   have em:b9 (ib 62)=8:=by decide
   rw [em] at h7
   refine ⟨Lr,h8,RT.of7 h4.hd fun res hres=>h4.e7 ?_ res ?_⟩
   ·have:=ca a.fKind
    split<;>omega
   ·refine PR.mk3 (h7.fin (n:=1) (by omega) (by omega) (ca _).1 (iK (by simp)) fun j _ _=>qH (.inr (.inl rfl)) j) hres fun f e1 e2=>?_
    rw [pP,if_pos ⟨rfl,rfl⟩,e1]
    simp [aU,e2]
  ·intro bl r L hr h
   by_cases h7:k=7
   ·subst h7
    have e:(⟨7,0,[],[a,b]⟩:aa).text++r=oB 2 (aC a.fKind,a.text)++32:: (oB 3 (aC b.fKind,b.text)++r):=by
     rw [aa.text_eq];simp [ej]
    rw [e] at h
    obtain ⟨L1,h3,h4⟩:=oy (ih a (by simp)) 2 (lM _) h
    obtain ⟨Lr,h5,h6⟩:=oy (ih b (by simp)) 3 hr (dU h3)
    obtain ⟨t,q,rfl,hb,hkd⟩:=h6.hd
    have hO:B8 t=true:=by
     unfold B8
     rw [hb]
     rcases hkd with (h | h | h | h) | ⟨h,h',h''⟩
     ·rw [h];rfl
     ·rw [h];rfl
     ·rw [h];rfl
     ·rw [h];rfl
     ·rw [h,h',h''];rfl
    have hI:kQ t=false:=by
     unfold kQ
     rcases hkd with (h | h | h | h) | ⟨h,h',h''⟩
     ·rw [h];rfl
     ·rw [h];rfl
     ·rw [h];rfl
     ·rw [h];rfl
     ·rw [h,h'];simp
    refine ⟨Lr,h5,RT.ofBin (m:=2) (by decide) h4.hd fun hst hj res hres=>?_⟩
    refine h4.en 2 (by decide) (by decide) ?_ ?_ ?_ res ?_
    ·have:=ca a.fKind
     split<;>omega
    ·intro t' q' e';cases e';rw [hb];simp
    ·intro j hj1 hj2
     simp only [inf,hI]
     rw [if_neg (by omega)];simp
    ·refine PR.go (by decide) (k:=7) (r:=t:: q) (by simp only [inf];rw [if_pos trivial,if_pos hO]) (h6.fin (n:=3) (by decide) (by decide) ?_ hst fun j a b=>hj j (by omega) b) hres
     have:=ca b.fKind
     split<;>omega
   ·obtain ⟨s,hs,ho⟩:=qI (k:=k) (by omega)
    obtain ⟨m,hm,m1,m4⟩:∃ m:Nat,aC k=m/\1<=m/\m<=4:=by
     have:k=6\/k=8\/k=9\/k=10\/k=11:=by omega
     rcases this with rfl | rfl | rfl | rfl | rfl
     ·exact ⟨1,by decide⟩
     ·exact ⟨3,by decide⟩
     ·exact ⟨3,by decide⟩
     ·exact ⟨4,by decide⟩
     ·exact ⟨4,by decide⟩
    have e:(⟨k,0,[],[a,b]⟩:aa).text++r=oB m (aC a.fKind,a.text)++32:: s:: 32:: (oB (m+1) (aC b.fKind,b.text)++r):=by
     rw [aa.text_eq]
     have:k=6\/k=8\/k=9\/k=10\/k=11:=by omega
     rw [<-hm]
     rcases this with rfl | rfl | rfl | rfl | rfl<;>simp [ej,hs]
    rw [e] at h
    obtain ⟨L1,h3,h4⟩:=oy (ih a (by simp)) m (lM _) h
    obtain ⟨L2,rfl,h5⟩:=wU ho (dU h3)
    obtain ⟨Lr,h6,h8⟩:=oy (ih b (by simp)) (m+1) hr (dU h5)
    have hbl:aQ (32:: (oB (m+1) (aC b.fKind,b.text)++r))=true:=by simp [aQ];decide
    rw [hbl] at h4
    have hop:=fun j=>BE (n:=j) (k:=k) hs.symm (by omega) (by omega) h7
    refine ⟨Lr,h6,?_⟩
    rw [show aC (aa.fKind ⟨k,0,[],[a,b]⟩)=(m:Int) from hm]
    refine RT.ofBin (by omega) h4.hd fun hst hj res hres=>?_
    have hk0:opK m [s]=k:=by rw [hop,if_pos hm.symm]
    have m2:m≠2:=by
     intro e;subst e
     have:k=6\/k=8\/k=9\/k=10\/k=11:=by omega
     rcases this with rfl | rfl | rfl | rfl | rfl<;>revert hm<;>decide
    refine h4.en m m1 (by omega) ?_ (iK (by simp)) ?_ res ?_
    ·have:=ca a.fKind
     split<;>omega
    ·intro j hj1 hj2
     exact y4 (a:=true) (by rw [hop,if_neg (by omega)])
    ·refine PR.go (by omega) (k:=k) (r:=L2) (by rw [DJ (by omega) m2,hk0]) (h8.fin (n:=m+1) (by omega) (by omega) ?_ hst fun j a b=>hj j (by omega) b) hres
     have:=ca b.fKind
     split<;>omega
  ·intro bl r L hr h
   obtain ⟨s,hs,ho⟩:=qI (k:=k) (by omega)
   have hm:aC k=5:=by rcases h1 with rfl | rfl<;>decide
   obtain ⟨t,rfl,hn⟩:∃ t,b=⟨3,0,t,[]⟩/\a6 t=true:=by
    have hb:=hk b (by simp)
    rw [b.good_eq,Bool.and_eq_true] at hb
    rcases ue hb.1 with ⟨t,rfl,_⟩ | ⟨n,rfl,_,_⟩ | ⟨t,rfl,h1⟩ | ⟨k,t,rfl,h0,_⟩ | ⟨t,ks,rfl,_,_⟩ | ⟨k,a,rfl,h0⟩ | ⟨a,b,rfl⟩ | ⟨k,a,b,rfl,h0,_⟩ | ⟨k,a,b,rfl,h0,_⟩
    ·simp at h2
    ·simp at h2
    ·exact ⟨t,rfl,h1⟩
    all_goals (simp only at h2;omega)
   have e:(⟨k,0,[],[a,⟨3,0,t,[]⟩]⟩:aa).text++r=oB 5 (aC a.fKind,a.text)++32:: s:: 32:: (t++r):=by
    rw [aa.text_eq]
    have e3:(⟨3,0,t,[]⟩:aa).text=t:=by simp [aa.text,ej]
    have e7:aC 3=7:=by decide
    rcases h1 with rfl | rfl<;>simp [ej,hs,e3,e7,hm,oB]
   rw [e] at h
   obtain ⟨L1,h3,h4⟩:=oy (ih a (by simp)) 5 (lM _) h
   obtain ⟨L2,rfl,h5⟩:=wU ho (dU h3)
   obtain ⟨Lr,rfl,h6⟩:=pj hn hr.nm (dU h5)
   have hbl:aQ (32:: (t++r))=true:=by simp [aQ];decide
   rw [hbl] at h4
   have hop:=fun j=>BE (n:=j) (k:=k) hs.symm (by omega) (by omega) (by omega)
   refine ⟨Lr,h6,?_⟩
   rw [show aC (aa.fKind ⟨k,0,[],[a,⟨3,0,t,[]⟩]⟩)=((5:Nat):Int) from hm]
   refine RT.ofBin (by omega) h4.hd fun hst hj res hres=>?_
   have hk0:opK 5 [s]=k:=by rw [hop];exact if_pos hm.symm
   refine h4.en 5 (by omega) (by omega) ?_ (iK (by simp)) ?_ res ?_
   ·have:=ca a.fKind
    split<;>omega
   ·intro j hj1 hj2;omega
   ·exact PR.go5 (k:=k) (r:=⟨1,0,t,true,aQ r⟩:: Lr) (by rw [DJ (by omega) (by decide),hk0]) (by simp [dZ]) hres
end Go.Dv.U

namespace Go.Dv.U
open Go Go.Dv Go.Proofs
def Md.w : Md->Nat
 | .lp _ _=>0
 | .ix _=>0
 | _=>1
theorem xT {n:Nat} {ts r:List ae} {k:Int} (h:inf n ts=some (k,r)):r.length<=ts.length:=by
 cases ts with
 | nil=>cases h
 | cons t q=>
  simp only [inf] at h
  split at h
  ·split at h
   ·cases h;exact Nat.le_refl _
   ·cases h
  ·split at h
   ·cases h;simp
   ·cases h
theorem cH {k:Int} {ts r:List ae} (h:aU k ts=some r):ts.length=r.length+1:=by
 cases ts with
 | nil=>cases h
 | cons t q=>
  simp only [aU] at h
  split at h
  ·cases h;rfl
  ·cases h
theorem mb {ts r:List ae} {s:List UInt8} (h:dZ ts=some (s,r)):ts.length=r.length+1:=by
 cases ts with
 | nil=>cases h
 | cons t q=>
  simp only [dZ] at h
  split at h
  ·cases h;rfl
  ·cases h
theorem BI : ∀ (f:Nat) (md:Md) (ts:List ae) (e:aa) (r:List ae),pP f md ts=some (e,r)->r.length+md.w<=ts.length:=by
 intro f
 induction f with
 | zero=>intro md ts e r h;cases h
 | succ f ih=>
  intro md ts e r h
  have bnd:∀ {α:Type} {o:Option α} {g:α->Option (aa×List ae)},o.bind g=some (e,r)->∃ a,o=some a/\g a=some (e,r):=fun h=>Option.bind_eq_some_iff.1 h
  cases md with
  | ex n=>
   rw [pP] at h
   split at h
   ·exact ih .el ts e r h
   ·obtain ⟨⟨l,q⟩,h1,h2⟩:=bnd h
    have:=ih _ _ _ _ h1
    have:=ih _ _ _ _ h2
    simp only [Md.w] at *;omega
  | lp n l=>
   rw [pP] at h
   split at h
   ·cases h;exact Nat.le_refl _
   ·rename_i k q hi
    have hl:=xT hi
    split at h
    ·obtain ⟨⟨s,q2⟩,h1,h2⟩:=bnd h
     have:=mb h1
     have:=ih _ _ _ _ h2
     simp only [Md.w] at *;omega
    ·obtain ⟨⟨y,q2⟩,h1,h2⟩:=bnd h
     have:=ih _ _ _ _ h1
     have:=ih _ _ _ _ h2
     simp only [Md.w] at *;omega
  | el=>
   cases ts with
   | nil=>cases h
   | cons t q=>
    rw [pP] at h
    split at h
    ·split at h
     ·cases h
     split at h
     ·obtain ⟨⟨y,q2⟩,h1,h2⟩:=Option.map_eq_some_iff.1 h
      have:=ih _ _ _ _ h1
      cases h2
      simp only [Md.w,List.length_cons] at *;omega
     split at h
     ·obtain ⟨⟨y,q2⟩,h1,h2⟩:=Option.map_eq_some_iff.1 h
      have:=ih _ _ _ _ h1
      cases h2
      simp only [Md.w,List.length_cons] at *;omega
     split at h
     ·obtain ⟨⟨y,q2⟩,h1,h2⟩:=Option.map_eq_some_iff.1 h
      have:=mb h1
      cases h2
      simp only [Md.w,List.length_cons] at *;omega
     ·cases h
    ·obtain ⟨⟨y,q2⟩,h1,h2⟩:=bnd h
     have:=ih _ _ _ _ h1
     have:=ih _ _ _ _ h2
     simp only [Md.w,List.length_cons] at *;omega
  | pr =>
   cases ts with
   | nil=>cases h
   | cons t q=>
    rw [pP] at h
    split at h
    ·cases h;simp [Md.w]
    split at h
    ·cases h;simp [Md.w]
    split at h
    ·split at h
     ·rename_i r2 _ h5
      have l5:=cH h5
      split at h
      ·rename_i r3 h6
       have l6:=cH h6
       cases h
       simp only [Md.w,List.length_cons] at *;omega
      ·obtain ⟨⟨y,q2⟩,h1,h2⟩:=Option.map_eq_some_iff.1 h
       have:=ih _ _ _ _ h1
       cases h2
       simp only [Md.w,List.length_cons] at *;omega
     ·cases h;simp [Md.w]
    split at h
    ·obtain ⟨⟨y,q2⟩,h1,h2⟩:=bnd h
     obtain ⟨q3,h3,h4⟩:=Option.map_eq_some_iff.1 h2
     have:=ih _ _ _ _ h1
     have:=cH h3
     cases h4
     simp only [Md.w,List.length_cons] at *;omega
    ·cases h
  | ix x=>
   cases ts with
   | nil=>cases h;exact Nat.le_refl _
   | cons t q=>
    rw [pP] at h
    split at h
    ·obtain ⟨⟨y,q2⟩,h1,h2⟩:=bnd h
     obtain ⟨q3,h3,h4⟩:=bnd h2
     have:=ih _ _ _ _ h1
     have:=cH h3
     have:=ih _ _ _ _ h4
     simp only [Md.w,List.length_cons] at *;omega
    ·cases h;exact Nat.le_refl _
  | ar acc=>
   rw [pP] at h
   obtain ⟨⟨y,q2⟩,h1,h2⟩:=bnd h
   have:=ih _ _ _ _ h1
   split at h2
   ·rename_i q3 h3
    have:=cH h3
    have:=ih _ _ _ _ h2
    simp only [Md.w] at *;omega
   ·obtain ⟨q3,h3,h4⟩:=Option.map_eq_some_iff.1 h2
    have:=cH h3
    cases h4
    simp only [Md.w] at *;omega
def Md.rk : Md->Nat
 | .ex n=>10-min n 6
 | .lp _ _=>12
 | .el=>3
 | .pr=>2
 | .ix _=>1
 | .ar _=>12
def Md.need (md:Md) (ts:List ae):Nat:=16*ts.length+md.rk
end Go.Dv.U

namespace Go.Dv.U
open Go Go.Dv Go.Proofs
def kp (ts:List ae):Option (List UInt8×List ae):=(aU 5 ts).bind fun r=>(dZ r).bind fun p=>(aU 6 p.2).map fun r2=>(p.1,r2)
def pTg : Nat->List UInt8->List UInt8->Bool->List ae->Option (ax×List ae)
 | 0,_,_,_,_=>none
 | f+1,s,x,ok,ts=>match dZ ts with
  | none=>if ok=true then some (⟨[],s,x⟩,ts) else none
  | some (w,r)=>if w=[83]/\s=[] then (kp r).bind fun p=>pTg f p.1 x true p.2 else if w=[70]/\x=[] then (kp r).bind fun p=>pTg f s p.1 true p.2 else none
def pGo (f:Nat) (ts:List ae):Option (ax×List ae):=match aU 5 ts with
 | some _=>(kp ts).map fun p=>(⟨p.1,[],[]⟩,p.2)
 | none=>pTg f [] [] false ts
def ip : List ae->Option (List ae)
 | []=>none
 | t:: r=>if kQ t=true/\t.fText=[61] then some r else none
def fC : List ae->Bool
 | []=>true
 | t:: _=>t.fKind==10
theorem wW {bl:Bool} {s r:List UInt8} {L:List ae} (hn:a6 s=true) (h:Sc bl (40:: (s++41:: r)) L):∃ Lr,Sc false r Lr/\kp L=some (s,Lr):=by
 obtain ⟨L1,rfl,h1⟩:=ek (b:=40) (by decide) h
 obtain ⟨L2,rfl,h2⟩:=pj hn (fun b q e=>by cases e;decide) h1
 obtain ⟨L3,rfl,h3⟩:=ek (b:=41) (by decide) h2
 refine ⟨L3,h3,?_⟩
 have e1:b9 (ib 40)=5:=by decide
 have e2:b9 (ib 41)=6:=by decide
 simp [kp,aU,dZ,e1,e2]
theorem uf {bl:Bool} {L:List ae} (h:Sc bl [] L):L=[]:=by
 cases h with
 | nil=>rfl
 | tok _ _ ht _=>cases ht
theorem GV {g:ax} (hg:gOk g=true) (hz:dT g=false) {bl:Bool} {L:List ae} (h:Sc bl (cz g) L):∃ a q,L=⟨10,0,[],bl,a⟩:: q/\∀ f,3<=f->pGo f q=some (g,[]):=by
  obtain ⟨A,S,F⟩:=g
  simp only [gOk,Bool.and_eq_true,Bool.or_eq_true,beq_iff_eq,nmB] at hg
  obtain ⟨h1,⟨hA,hS⟩,hF⟩:=hg
  have e58:b9 (ib 58)=10:=by decide
  have e40:b9 (ib 40)=5:=by decide
  have nS:a6 [83]=true:=by decide
  have nF:a6 [70]=true:=by decide
  by_cases hAn:A=[]
  · subst hAn
    have key:∀ (c:UInt8),a6 [c]=true->∀ (s r:List UInt8),s=[]\/a6 s=true->s≠[]->∀ {bl:Bool} {L:List ae},Sc bl (gL c s++r) L->∃ a q Lr,L=⟨1,0,[c],bl,a⟩:: q/\kp q=some (s,Lr)/\Sc false r Lr:=by
      intro c hc s r hs hne bl L h
      have hs:a6 s=true:=hs.resolve_left hne
      rw [eM hne] at h
      have e:[c,40]++s++[41]++r=[c]++40:: (s++41:: r):=by simp
      rw [e] at h
      obtain ⟨L1,rfl,h2⟩:=pj hc (fun b q e=>by cases e;decide) h
      obtain ⟨Lr,h3,h4⟩:=wW hs h2
      exact ⟨_,_,Lr,rfl,h4,h3⟩
    have hx:∀ {k:Int} {a b:Bool} {t:List UInt8} {q:List ae},aU 5 (⟨1,k,t,a,b⟩:: q)=none:=by intro k a b t q;simp [aU]
    by_cases hSn:S=[]
    · subst hSn
      by_cases hFn:F=[]
      · subst hFn;simp [dT] at hz
      · have e:cz ⟨[],[],F⟩=58:: (gL 70 F++[]):=by
          simp [cz,hY,eM hFn]
        rw [e] at h
        obtain ⟨L1,rfl,h2⟩:=ek (b:=58) (by decide) h
        obtain ⟨a,q,Lr,rfl,h3,h4⟩:=key 70 nF F [] hF hFn h2
        have:=uf h4
        subst this
        refine ⟨_,_,by rw [e58],fun f hf=>?_⟩
        obtain ⟨f,rfl⟩:∃ g,f=g+2:=⟨f-2,by omega⟩
        simp [pGo,hx,pTg,dZ,h3]
    · by_cases hFn:F=[]
      · subst hFn
        have e:cz ⟨[],S,[]⟩=58:: (gL 83 S++[]):=by
          simp [cz,hY,eM hSn]
        rw [e] at h
        obtain ⟨L1,rfl,h2⟩:=ek (b:=58) (by decide) h
        obtain ⟨a,q,Lr,rfl,h3,h4⟩:=key 83 nS S [] hS hSn h2
        have:=uf h4
        subst this
        refine ⟨_,_,by rw [e58],fun f hf=>?_⟩
        obtain ⟨f,rfl⟩:∃ g,f=g+2:=⟨f-2,by omega⟩
        simp [pGo,hx,pTg,dZ,h3]
      · have e:cz ⟨[],S,F⟩=58:: (gL 83 S++(gL 70 F++[])):=by
          simp [cz,eM hSn,eM hFn]
        rw [e] at h
        obtain ⟨L1,rfl,h2⟩:=ek (b:=58) (by decide) h
        obtain ⟨a,q,Lr,rfl,h3,h4⟩:=key 83 nS S _ hS hSn h2
        obtain ⟨a',q',Lr',rfl,h5,h6⟩:=key 70 nF F [] hF hFn h4
        have:=uf h6
        subst this
        refine ⟨_,_,by rw [e58],fun f hf=>?_⟩
        obtain ⟨f,rfl⟩:∃ g,f=g+3:=⟨f-3,by omega⟩
        simp [pGo,hx,pTg,dZ,h3,h5]
  · have h1:=h1.resolve_left hAn
    obtain ⟨rfl,rfl⟩:=h1
    have hA:=hA.resolve_left hAn
    have e:cz ⟨A,[],[]⟩=58:: 40:: (A++41:: []):=by simp [cz,hAn]
    rw [e] at h
    obtain ⟨L1,rfl,h2⟩:=ek (b:=58) (by decide) h
    obtain ⟨Lr,h3,h4⟩:=wW hA h2
    have:=uf h3
    subst this
    refine ⟨_,_,by rw [e58],fun f hf=>?_⟩
    obtain ⟨q,rfl,_⟩:=ek (b:=40) (by decide) h2
    rw [e40] at h4 ⊢
    simp only [pGo,aU,if_true,h4];rfl
end Go.Dv.U

namespace Go.Dv.U
open Go Go.Dv Go.Proofs
def zO (ts:List ae):Prop:=vu ts/\∀ j,inf j ts=none
structure StR (s:ab) (L L1 L2 L3:List ae):Prop where
 s1:s.fHasSubject=true->fC L=false/\PR .el L (s.fSubject,L1)
 s0:s.fHasSubject=false->fC L=true/\L1=L/\L2=L/\L3=L
 p1:s.fHasPattern=true->fC L1=false/\ip L1=none/\(∀ t q,L1=t:: q->t.fBefore=true)/\PR (.ex 1) L1 (s.fPattern,L2)
 p0:s.fHasPattern=false->L2=L1/\(fC L1=true\/∃ q,ip L1=some q)
 r1:s.fHasReplace=true->∃ q,ip L2=some q/\fC q=false/\PR (.ex 1) q (s.fReplace,L3)
 r0:s.fHasReplace=false->ip L2=none/\L3=L2
 g0:dT s.fGoto=true->L3=[]
 g1:dT s.fGoto=false->∃ t q,L3=t:: q/\t.fKind=10/\∀ f,3<=f->pGo f q=some (s.fGoto,[])
theorem mc {x:aa} (h:x.valid=true):x.good=true:=by
 unfold aa.valid at h
 simp only [Bool.and_eq_true] at h
 exact h.1
theorem BJ : zO []:=⟨fun t r e=>(by cases e),fun j=>rfl⟩
theorem xU {a b:Bool} {q:List ae}:zO (⟨10,0,[],a,b⟩:: q):=by
 refine ⟨iK (by simp),fun j=>?_⟩
 simp only [inf,B8,kQ]
 cases a<;>simp
theorem BK {q:List ae}:zO (⟨4,0,[61],true,true⟩:: q):=by
 refine ⟨iK (by simp),fun j=>y4 (a:=true) ?_⟩
 simp [opK]
theorem vz {bl:Bool} {L:List ae} (h:hdO bl L):fC L=false/\ip L=none/\(∀ t q,L=t:: q->t.fBefore=bl):=by
  obtain ⟨t,q,rfl,hb,hk⟩:=h
  refine ⟨?_,?_,fun t q e=>(by cases e;exact hb)⟩
  · show (t.fKind==10)=false
    rw [beq_eq_false_iff_ne];omega
  · have:kQ t=false:=by
      unfold kQ
      rcases hk with (h | h | h | h) | ⟨h,h',_⟩
      · rw [h];rfl
      · rw [h];rfl
      · rw [h];rfl
      · rw [h];rfl
      · rw [h,h'];simp
    simp [ip,this]
theorem C7 {L:List ae} (h:hdO true L):vu L:=by
 obtain ⟨t,q,rfl,hb,hk⟩:=h
 intro t' q' e
 cases e
 rw [hb];simp
theorem DK {s:ab} (hs:io s=true) {L:List ae} (h:Sc true (jv s) L):∃ L1 L2 L3,StR s L L1 L2 L3:=by
 obtain ⟨_,hg,q1,q2,q3⟩:=eS hs
 -- the goto
 have G:∀ {bl:Bool} {L:List ae},Sc bl (if cz s.fGoto=[] then [] else [32]++cz s.fGoto) L->(dT s.fGoto=true->L=[])/\(dT s.fGoto=false->∃ t q,L=t:: q/\t.fKind=10/\∀ f,3<=f->pGo f q=some (s.fGoto,[]))/\zO L/\fC L=true/\ip L=none:=by
  intro bl L h
  by_cases hz:dT s.fGoto=true
  ·rw [if_pos ((lL _).2 hz)] at h
   have:=uf h
   subst this
   exact ⟨fun _=>rfl,fun h=>(by rw [hz] at h;cases h),BJ,rfl,rfl⟩
  ·have hz':dT s.fGoto=false:=by simpa using hz
   rw [if_neg (fun e=>hz ((lL _).1 e))] at h
   obtain ⟨a,q,rfl,h2⟩:=GV hg hz' (dU h)
   exact ⟨fun h=>(by rw [hz'] at h;cases h),fun _=>⟨_,q,rfl,rfl,h2⟩,xU,rfl,rfl⟩
 have okG:okR (if cz s.fGoto=[] then [] else [32]++cz s.fGoto):=by
  split
  ·intro b q e;cases e
  ·exact lM _
 -- the replacement
 have T:∀ {bl:Bool} {L:List ae},Sc bl (qq s) L->∃ L3,(s.fHasReplace=true->∃ q,ip L=some q/\fC q=false/\PR (.ex 1) q (s.fReplace,L3))/\(s.fHasReplace=false->ip L=none/\L3=L/\fC L=true)/\(dT s.fGoto=true->L3=[])/\(dT s.fGoto=false->∃ t q,L3=t:: q/\t.fKind=10/\∀ f,3<=f->pGo f q=some (s.fGoto,[]))/\zO L:=by
  intro bl L h
  unfold qq at h
  by_cases hr:s.fHasReplace=true
  ·rw [if_pos hr,List.append_assoc] at h
   have hv:s.fReplace.valid=true:=by unfold eR at q3;rw [if_pos hr] at q3;exact q3
   obtain ⟨L1,rfl,h2⟩:=wU (b:=61) (by decide) (dU h)
   have hb:aQ (32:: (s.fReplace.text++(if cz s.fGoto=[] then [] else [32]++cz s.fGoto)))=true:=by simp [aQ];decide
   have hb2:aQ (([32]:List UInt8).append (s.fReplace.text++(if cz s.fGoto=[] then [] else [32]++cz s.fGoto)))=true:=hb
   obtain ⟨L3,h3,h4⟩:=vw _ (mc hv) true _ L1 okG (dU h2)
   obtain ⟨g0,g1,st,_,_⟩:=G h3
   obtain ⟨e1,e2,e3⟩:=vz h4.hd
   refine ⟨L3,fun _=>⟨L1,?_,e1,h4.fin (n:=1) (by omega) (by omega) (ca _).1 st.1 fun j _ _=>st.2 j⟩,fun h=>(by rw [hr] at h;cases h),g0,g1,?_⟩
   ·have e:∀ x:Bool,x=true->ip (⟨4,0,[61],true,x⟩:: L1)=some L1:=by intro x hx;subst hx;rfl
    exact e _ hb
   ·have e:∀ x:Bool,x=true->zO (⟨4,0,[61],true,x⟩:: L1):=by intro x hx;subst hx;exact BK
    exact e _ hb
  ·have hr':s.fHasReplace=false:=by simpa using hr
   rw [if_neg hr] at h
   obtain ⟨g0,g1,st,e1,e2⟩:=G h
   exact ⟨L,fun h=>absurd h hr,fun _=>⟨e2,rfl,e1⟩,g0,g1,st⟩
 have okT:okR (qq s):=by
  unfold qq
  split
  ·intro b q e;cases e;left;decide
  ·exact okG
 unfold jv at h
 by_cases hsub:s.fHasSubject=true
 ·have hv:s.fSubject.valid=true:=by unfold eR at q1;rw [if_pos hsub] at q1;exact q1
  rw [if_pos hsub,List.append_assoc,List.append_assoc] at h
  by_cases hp:s.fHasPattern=true
  ·have hvp:s.fPattern.valid=true:=by unfold eR at q2;rw [if_pos hp] at q2;exact q2
   rw [if_pos hp,List.append_assoc] at h
   obtain ⟨L1,h1,h2⟩:=oy (vw _ (mc hv)) 6 (lM _) (dU h)
   obtain ⟨L2,h3,h4⟩:=vw _ (mc hvp) true _ L1 okT (dU h1)
   obtain ⟨L3,r1,r0,g0,g1,st⟩:=T h3
   obtain ⟨e1,e2,e3⟩:=vz h4.hd
   refine ⟨L1,L2,L3,⟨fun _=>⟨(vz h2.hd).1,h2.e6 (by split<;>omega) (C7 h4.hd)⟩,fun h=>(by rw [hsub] at h;cases h),fun _=>⟨e1,e2,e3,h4.fin (n:=1) (by omega) (by omega) (ca _).1 st.1 fun j _ _=>st.2 j⟩,fun h=>(by rw [hp] at h;cases h),r1,fun h=>⟨(r0 h).1,(r0 h).2.1⟩,g0,g1⟩⟩
  ·rw [if_neg hp,List.nil_append] at h
   obtain ⟨L1,h1,h2⟩:=oy (vw _ (mc hv)) 6 okT (dU h)
   obtain ⟨L3,r1,r0,g0,g1,st⟩:=T h1
   refine ⟨L1,L1,L3,⟨fun _=>⟨(vz h2.hd).1,h2.e6 (by split<;>omega) st.1⟩,fun h=>(by rw [hsub] at h;cases h),fun h=>absurd h hp,fun _=>⟨rfl,?_⟩,r1,fun h=>⟨(r0 h).1,(r0 h).2.1⟩,g0,g1⟩⟩
   cases hr:s.fHasReplace with
   | true=>obtain ⟨q,hq,_⟩:=r1 hr;exact .inr ⟨q,hq⟩
   | false=>exact .inl (r0 hr).2.2
 ·have hsub':s.fHasSubject=false:=by simpa using hsub
  have hn:s.fHasPattern=false/\s.fHasReplace=false:=by
   unfold io at hs
   simp only [hsub',Bool.and_eq_true,Bool.false_or,Bool.not_eq_true'] at hs
   exact hs.1.1.2
  rw [if_neg hsub,if_neg (by rw [hn.1];decide),List.nil_append,List.nil_append] at h
  obtain ⟨L3,r1,r0,g0,g1,st⟩:=T h
  obtain ⟨a,b,c⟩:=r0 hn.2
  subst b
  exact ⟨L3,L3,L3,⟨fun h=>absurd h hsub,fun _=>⟨c,rfl,rfl,rfl⟩,fun h=>(by rw [hn.1] at h;cases h),fun _=>⟨rfl,.inl c⟩,r1,fun _=>⟨a,rfl⟩,g0,g1⟩⟩
end Go.Dv.U

namespace Go.Dv.U
open Go Go.Dv Go.Proofs
theorem xV : ∀ (a r cur:List UInt8),(∀ b∈a,ib b≠39/\ib b≠34/\ib b≠59)->sst 0 cur (a++r)=sst 0 (cur++a) r
 | [],r,cur,_=>by simp
 | b:: a,r,cur,h=>by
  obtain ⟨h1,h2,h3⟩:=h b (by simp)
  rw [List.cons_append,sst,if_neg (by decide),if_neg h1,if_neg h2,if_neg h3,xV a r _ fun c hc=>h c (by simp [hc])]
  simp
theorem BL (q:Int) (hq:q≠0):∀ (a r cur:List UInt8),(∀ b∈a,ib b≠q)->sst q cur (a++r)=sst q (cur++a) r
 | [],r,cur,_=>by simp
 | b:: a,r,cur,h=>by
  rw [List.cons_append,sst,if_pos hq,if_neg (h b (by simp)),BL q hq a r _ fun c hc=>h c (by simp [hc])]
  simp
theorem EM {s:List UInt8} {k m:Int} {t:List UInt8} {w:Nat} (ht:iZ s=some (k,m,t,w)) (cur:List UInt8):sst 0 cur s=sst 0 (cur++s.take w) (s.drop w):=by
 have hf:∀ b:UInt8,(bI (ib b)=true\/bc (ib b)=true\/lG (ib b)=true\/b9 (ib b)≠0)->ib b≠39/\ib b≠34/\ib b≠59:=dH (by decide +kernel)
 have run:(∀ b∈s.take w,bI (ib b)=true\/bc (ib b)=true\/lG (ib b)=true\/b9 (ib b)≠0)->sst 0 cur s=sst 0 (cur++s.take w) (s.drop w):=by
  intro h
  have:=xV (s.take w) (s.drop w) cur fun b hb=>hf b (h b hb)
  rwa [List.take_append_drop] at this
 cases s with
 | nil=>cases ht
 | cons b r=>
  rw [b0] at ht
  split at ht
  ·split at ht
   ·cases ht
    exact run fun c hc=>.inl (List.all_eq_true.1 (ge bI (b:: r)) c hc)
   ·cases ht
  split at ht
  ·split at ht
   ·cases ht
    exact run fun c hc=>.inr (.inl (List.all_eq_true.1 (ge bc (b:: r)) c hc))
   ·cases ht
  split at ht
  ·rename_i hq
   split at ht
   ·rename_i hc
    obtain ⟨hc1,hc2⟩:=hc
    cases ht
    generalize hn:aG (fun c=>c !=ib b) r=n at hc1 hc2
    have hall:∀ c∈r.take n,ib c≠ib b:=by
     intro c hc
     have:=List.all_eq_true.1 (ge (fun c=>c !=ib b) r) c (by rw [hn];exact hc)
     simpa using this
    have hq0:ib b≠0:=by omega
    obtain ⟨c,q,hd⟩:∃ c q,r.drop n=c:: q:=by
     cases h:r.drop n with
     | nil=>have:=congrArg List.length h;rw [List.length_drop] at this;simp at this;omega
     | cons c q=>exact ⟨c,q,rfl⟩
    have hcb:ib c=ib b:=by
     have:=oq (p:=fun c=>c !=ib b) r c q (by rw [hn];exact hd)
     simpa using this
    have e0:sst 0 cur (b:: r)=sst (ib b) (cur++[b]) r:=by
     rw [sst,if_neg (by decide)]
     rcases hq with h | h
     ·rw [if_pos h,h]
     ·rw [if_neg (by omega),if_pos h,h]
    have e1:=BL (ib b) hq0 (r.take n) (r.drop n) (cur++[b]) hall
    rw [List.take_append_drop] at e1
    rw [e0,e1,hd,sst,if_pos hq0,if_pos hcb]
    have e2:(b:: r).take (n+2)=b:: (r.take n++[c]):=by
     rw [List.take_succ_cons,List.take_add_one]
     have:r[n]?=some c:=by rw [<-List.head?_drop,hd];rfl
     rw [this];rfl
    have e3:(b:: r).drop (n+2)=q:=by
     rw [List.drop_succ_cons,<-List.drop_drop,hd];rfl
    rw [e2,e3];simp
   ·cases ht
  split at ht
  ·rename_i ho
   cases ht
   exact run fun c hc=>by
    have:c=b:=by simpa using hc
    subst this;exact .inr (.inr (.inl ho))
  split at ht
  ·rename_i hm
   cases ht
   exact run fun c hc=>by
    have:c=b:=by simpa using hc
    subst this;exact .inr (.inr (.inr hm))
  ·cases ht
theorem DL {bl:Bool} {s:List UInt8} {L:List ae} (h:Sc bl s L):∀ cur,sst 0 cur s=[cur++s]:=by
 induction h with
 | nil=>intro cur;simp [sst]
 | @bl _ r _ h ih=>
  intro cur
  have e:ib 32=32:=by decide
  rw [sst,if_neg (by decide),if_neg (by rw [e];decide),if_neg (by rw [e];decide),if_neg (by rw [e];decide),ih]
  simp
 | @tok _ s _ _ _ w _ hb ht h ih=>
  intro cur
  rw [EM ht,ih,List.append_assoc,List.take_append_drop]
end Go.Dv.U

namespace Go.Dv.U
open Go Go.Dv Go.Proofs
theorem BM {s:List UInt8} (hb:ud s=true):∀ {bl:Bool} {L:List ae},Sc bl s L->L=[]:=by
 induction s with
 | nil=>intro bl L h;exact uf h
 | cons b r ih=>
  intro bl L h
  simp only [ud,List.all_cons,Bool.and_eq_true,beq_iff_eq] at hb
  obtain ⟨rfl,hb⟩:=hb
  exact ih hb (dU h)
theorem y5 {x:List UInt8} (h:(eG x).2.2=0):ei x=true/\x.length<=4000/\Sc true x (eG x).1:=by
 unfold eG at h ⊢
 by_cases hc:x.length<=4000/\ei x=true
 ·rw [if_pos hc] at h ⊢
  obtain ⟨L,h1,h2⟩:=qF x.length x true [] 0 (fN x.length x true [] 0).1 (fN x.length x true [] 0).2.1 (Nat.le_refl _) (by rw [<-h])
  rw [h2]
  exact ⟨hc.2,hc.1,h1⟩
 ·rw [if_neg hc] at h;cases h
theorem ug {s:List UInt8} (h:a6 s=true):(∀ b∈s,bI (ib b)=true)/\∃ b r,s=b:: r/\gk (ib b)=true:=by
 cases s with
 | nil=>simp [a6] at h
 | cons b r=>
  simp only [a6,Bool.and_eq_true] at h
  exact ⟨List.all_eq_true.1 h.2,b,r,rfl,h.1.2⟩
theorem pk (s:ab):jv s=[]\/∃ r,jv s=32:: r:=by
 unfold jv qq
 repeat' split
 all_goals first | (right;exact ⟨_,rfl⟩) | (left;rfl)
theorem C8 {s:ab} (h:da s=true):(ud (cf s)=false/\ei (cf s)=true/\sst 0 [] (cf s)=[cf s])/\HF (cf s)=false/\HG (cf s)=false:=by
  unfold da at h
  simp only [Bool.and_eq_true,beq_iff_eq] at h
  obtain ⟨hf,_,hsc⟩:=h
  obtain ⟨p1,p2,p3⟩:=y5 hsc
  obtain ⟨hl,_⟩:=eS hf
  have hN:∀ b:UInt8,bI (ib b)=true->C2 b=true/\ib b≠39/\ib b≠34/\ib b≠59:=dH (by decide +kernel)
  have hS:∀ b:UInt8,gk (ib b)=true->(b==32)=false/\(b==42)=false/\(b==43)=false:=dH (by decide +kernel)
  by_cases he:s.fLabel=[]
  · have et : cf s=jv s:=by unfold cf;rw [he];rfl
    rw [et]
    have hb : ud (jv s)=false:=by
      cases hb:ud (jv s) with
      | false=>rfl
      | true=>
        have h0:=BM hb p3
        obtain ⟨L1,L2,L3,H⟩:=DK hf p3
        rw [h0] at H
        by_cases hs:s.fHasSubject=true
        · have:=(H.s1 hs).1;cases this
        · have hs':s.fHasSubject=false:=by simpa using hs
          obtain ⟨_,_,_,e3⟩:=H.s0 hs'
          have hz:dT s.fGoto=false:=by
            unfold io at hf
            simp only [he,hs',Bool.and_eq_true,Bool.not_eq_true'] at hf
            simpa using hf.2
          obtain ⟨t,q,e4,_⟩:=H.g1 hz
          rw [e4] at e3;cases e3
    refine ⟨⟨hb,p1,by rw [DL p3];rfl⟩,?_⟩
    rcases pk s with e | ⟨r,e⟩
    · rw [e];exact ⟨rfl,rfl⟩
    · rw [e];exact ⟨rfl,rfl⟩
  · have hn:a6 s.fLabel=true:=by
      unfold nmB at hl
      simpa [he] using hl
    obtain ⟨n1,b,r,e,n2⟩:=ug hn
    have hh:=hS b n2
    refine ⟨⟨?_,?_,?_⟩,?_⟩
    · unfold cf;rw [e];simp [ud,hh.1]
    · unfold cf ei
      rw [List.all_append,Bool.and_eq_true]
      exact ⟨List.all_eq_true.2 fun c hc=>(hN c (n1 c hc)).1,p1⟩
    · unfold cf
      rw [xV _ _ _ fun c hc=>(hN c (n1 c hc)).2,DL p3]
      simp
    · unfold cf;rw [e]
      exact ⟨hh.2.1,hh.2.2⟩
end Go.Dv.U

namespace Go.Dv.U
open Go Go.Dv Go.Proofs
def bx (T:List ae) (a:Nat):(List ae×Int×Unit)×Unit:=((T,(a:Int),()),())
def jw : aa:=⟨0,0,[],[]⟩
theorem pm {T:List ae} {a:Nat} (h:a<=T.length):(a=T.length/\T.drop a=[])\/∃ t,a<T.length/\idx T (a:Int)=some t/\T.drop a=t:: T.drop (a+1)/\t∈T:=by
 by_cases e:a=T.length
 ·exact .inl ⟨e,by rw [e,List.drop_length]⟩
 ·have hlt:a<T.length:=by omega
  exact .inr ⟨T[a],hlt,by rw [ch,List.getElem?_eq_getElem hlt],List.drop_eq_getElem_cons hlt,List.getElem_mem hlt⟩
theorem B9 {T:List ae} {a:Nat} (hT:T.length<=1000) (h:a<T.length):w64 ((a:Int)+1)=((a+1:Nat):Int):=by rw [aS (by omega) (by omega)];omega
theorem sR {T:List ae} {a:Nat} (h:a<=T.length) (k:Int):co T a k=some (aU k (T.drop a)).isSome:=by
 rw [r9]
 rcases pm h with ⟨rfl,e⟩ | ⟨t,hlt,hi,e,_⟩
 ·rw [if_neg (by simp [am]),e];rfl
 ·rw [if_pos (by simp [am];omega),hi,e]
  simp only [Option.bind_some,aU]
  by_cases hk:t.fKind=k<;>simp [hk]
theorem i7 {T:List ae} {a:Nat} (hT:T.length<=1000) (h:a<=T.length) (k:Int):
  (aU k (T.drop a)=some (T.drop (a+1))/\a<T.length/\aV k T a=some (true,bx T (a+1)))\/(aU k (T.drop a)=none/\aV k T a=some (false,bx T a)):=by
 rw [qc,sR h]
 rcases pm h with ⟨rfl,e⟩ | ⟨t,hlt,hi,e,_⟩
 ·rw [e];exact .inr ⟨rfl,rfl⟩
 ·rw [e]
  by_cases hk:t.fKind=k
  ·refine .inl ⟨by simp [aU,hk],hlt,?_⟩
   simp [aU,hk,B9 hT hlt,bx]
  ·exact .inr ⟨by simp [aU,hk],by simp [aU,hk,bx]⟩
theorem vA {T:List ae} {a:Nat} (hT:T.length<=1000) (h:a<=T.length):
    (∃ s,dZ (T.drop a)=some (s,T.drop (a+1))/\a<T.length/\ci T a=some ((s,true),bx T (a+1)))\/(dZ (T.drop a)=none/\ci T a=some (([],false),bx T a)):=by
  rw [qi]
  rcases i7 hT h 1 with ⟨e1,hlt,e3⟩ | ⟨e1,e3⟩
  · rcases pm h with ⟨e,_⟩ | ⟨t,_,hi,e,_⟩
    · omega
    rw [e] at e1
    have hk:t.fKind=1:=by
      simp only [aU] at e1
      split at e1
      · assumption
      · cases e1
    refine .inl ⟨t.fText,by rw [e];simp [dZ,hk],hlt,?_⟩
    rw [e3]
    have w:w64 (((a+1:Nat):Int)-1)=(a:Int):=by rw [aS (by omega) (by omega)];omega
    simp only [Option.bind_some,bx,Bool.not_true,Bool.false_eq_true,if_false,w,hi]
  · have hn:dZ (T.drop a)=none:=by
      rcases pm h with ⟨_,e⟩ | ⟨t,_,_,e,_⟩
      · rw [e];rfl
      · rw [e] at e1 ⊢
        simp only [aU] at e1
        split at e1
        · cases e1
        · rename_i hk;simp [dZ,hk]
    exact .inr ⟨hn,by rw [e3];simp [bx]⟩
theorem FK {t:ae} (ht:tOk t) (h:t.fKind=4):∃ b,t.fText=[b]:=by
 rcases ht.2 with h1 | h1 | h1 | h1 | h1
 ·omega
 ·omega
 ·omega
 ·exact ⟨_,h1.2.2.choose_spec.1⟩
 ·omega
theorem BN {T:List ae} {a:Nat} {t:ae} (hi:idx T (a:Int)=some t) (ht:tOk t):dx T a=some (B8 t):=by
 rw [iX,hi]
 simp only [Option.bind_some,gH,gI]
 unfold B8
 by_cases k1:t.fKind=1
 ·simp [k1]
 by_cases k2:t.fKind=2
 ·simp [k2]
 by_cases k3:t.fKind=3
 ·simp [k3]
 by_cases k5:t.fKind=5
 ·simp [k5]
 by_cases k4:t.fKind=4
 ·obtain ⟨b,hb⟩:=FK ht k4
  have f:∀ b:UInt8,hasB (ib b) [45,42,36,46,64]=qr [b]:=dH (by decide +kernel)
  rw [hb,gJ (by decide),f]
  cases hB:t.fBefore<;>cases hA:t.fAfter<;>simp [k4]
 ·simp [k1,k2,k3,k4,k5]
theorem uh {t:ae} (ht:tOk t):oa t=some (kQ t):=by
 rw [wK,y2 ht]
 simp only [Option.bind_some,if_true,kQ]
 cases t.fBefore<;>by_cases h:t.fKind=4<;>simp [h]
theorem EN {T:List ae} {a:Nat} (hT:T.length<=1000) (hlt:a<T.length) {t:ae} (ht:tOk t) {n:Nat} (h5:n<=5) (hn:n≠2):
  ∀ (m j:Nat),j+m=14->6<=j->cr n j T a t.fKind t.fNum t.fText t.fBefore t.fAfter =
   if kQ t=true then (match ((List.range 14).drop j).find? fun (k:Nat)=>k !=7&&aC k==(n:Int)&&(t.fText==qG k) with | some k=>some (((k:Int),true),bx T (a+1)) | none=>some ((0,false),bx T a)) else some ((0,false),bx T a):=by
 intro m
 induction m with
 | zero=>
  intro j hj h6
  have:j=14:=by omega
  subst this
  rw [gv,if_neg (by simp)]
  have:((List.range 14).drop 14)=[]:=rfl
  rw [this]
  split<;>rfl
 | succ m ih=>
  intro j hj h6
  have hj13:j<=13:=by omega
  have w:w64 ((j:Int)+1)=((j+1:Nat):Int):=by rw [aS (by omega) (by omega)];omega
  have hd:(List.range 14).drop j=j:: (List.range 14).drop (j+1):=by
   rw [List.drop_eq_getElem_cons (by simp;omega)];simp
  have ih':=ih (j+1) (by omega) (by omega)
  rw [gv,if_pos (by simp;omega)]
  have hl8:ct n j T a t.fKind t.fNum t.fText t.fBefore t.fAfter=cr n ((j+1:Nat):Int) T a t.fKind t.fNum t.fText t.fBefore t.fAfter:=by
   rw [mv,w]
  rw [hl8,ih',hd,List.find?_cons,ph]
  have he:ae.mk t.fKind t.fNum t.fText t.fBefore t.fAfter=t:=by cases t;rfl
  rw [he,uh ht,di (by omega) (by omega)]
  simp only [Option.bind_some,lC,B9 hT hlt]
  have hz:(((j:Int) !=7)=(j !=7)):=by
   rw [Bool.eq_iff_iff];simp;omega
  rw [hz]
  cases kQ t with
  | false=>
   simp only [Bool.false_eq_true,if_false]
   split<;>(try split)<;>rfl
  | true=>
   simp only [if_true]
   cases (j !=7) with
   | false=>simp
   | true=>
    simp only [if_true,Bool.true_and]
    cases he2:(aC (j:Int)==(n:Int)) with
    | false=>simp
    | true=>
     simp only [if_true,Bool.true_and]
     cases (t.fText==qG (j:Int)) with
     | false=>simp
     | true=>simp [bx]
theorem C9 {n:Nat} (h1:1<=n) (h5:n<=5) (hn:n≠2) (s:List UInt8):(((List.range 14).drop 6).find? fun (k:Nat)=>k !=7&&aC k==(n:Int)&&(s==qG k)).map (fun k:Nat=>(k:Int))=if opK n s=0 then none else some (opK n s):=by
 have e:(List.range 14).drop 6=[6,7,8,9,10,11,12,13]:=rfl
 rw [e]
 have:n=1\/n=3\/n=4\/n=5:=by omega
 rcases this with rfl | rfl | rfl | rfl
 ·cases h:(s==[124])<;>simp [aC,qG,opK,List.find?,h]<;>simp_all
 ·cases h:(s==[43])<;>cases h2:(s==[45])<;>simp [aC,qG,opK,List.find?,h,h2]<;>simp_all
 ·cases h:(s==[42])<;>cases h2:(s==[47])<;>simp [aC,qG,opK,List.find?,h,h2]<;>simp_all
 ·cases h:(s==[46])<;>cases h2:(s==[36])<;>simp [aC,qG,opK,List.find?,h,h2]<;>simp_all
theorem Da {T:List ae} {a:Nat} (hT:T.length<=1000) (hok:∀ t∈T,tOk t) (h:a<=T.length) {n:Nat} (h1:1<=n) (h5:n<=5):
  (∃ k a',inf n (T.drop a)=some (k,T.drop a')/\a'<=T.length/\eB n T a=some ((k,true),bx T a'))\/(inf n (T.drop a)=none/\∃ k,eB n T a=some ((k,false),bx T a)):=by
 rw [pf]
 rcases pm h with ⟨e0,e⟩ | ⟨t,hlt,hi,e,hm⟩
 ·rw [e,if_pos (by simp [am,e0])]
  exact .inr ⟨rfl,0,rfl⟩
 ·have ht:=hok t hm
  rw [if_neg (by simp [am];omega),hi]
  simp only [Option.bind_some]
  by_cases h2:n=2
  ·subst h2
   rw [if_pos (by decide),BN hi ht]
   cases hb:B8 t with
   | true=>exact .inl ⟨7,a,by rw [e];simp [inf,hb],h,rfl⟩
   | false=>exact .inr ⟨by rw [e];simp [inf,hb],7,rfl⟩
  ·rw [if_neg (by simp;omega)]
   have hL:=EN hT hlt ht h5 h2 8 6 rfl (by omega)
   have hL:cr n 6 T a t.fKind t.fNum t.fText t.fBefore t.fAfter=_:=hL
   rw [hL]
   have hf:=C9 h1 h5 h2 t.fText
   cases hI:kQ t with
   | false=>exact .inr ⟨by rw [e];simp [inf,h2,hI],0,by simp⟩
   | true=>
    rw [if_pos rfl]
    by_cases hz:opK n t.fText=0
    ·rw [if_pos hz,Option.map_eq_none_iff] at hf
     rw [hf]
     exact .inr ⟨by rw [e];simp [inf,h2,hI,hz],0,rfl⟩
    ·rw [if_neg hz,Option.map_eq_some_iff] at hf
     obtain ⟨k,hk,hk2⟩:=hf
     rw [hk]
     exact .inl ⟨opK n t.fText,a+1,by rw [e];simp [inf,h2,hI,hz],by omega,by rw [<-hk2]⟩
end Go.Dv.U

namespace Go.Dv.U
open Go Go.Dv Go.Proofs
theorem nB (k n:Int) (t:List UInt8) (ks:List aa):(aa.mk k n t ks).m=t.length+(ks.length+aA aa.m ks):=aa.m_eq _
theorem BO (l:List aa) (e:aa):aA aa.m (l++[e])=aA aa.m l+e.m:=by
 induction l with
 | nil=>simp [aA]
 | cons y r ih=>simp only [List.cons_append,aA,ih];omega
def Md.m0 : Md->Nat
 | .lp _ l=>l.m+10
 | .ix e=>e.m+10
 | .ar acc=>acc.length+aA aa.m acc
 | _=>0
def Md.mR : Md->aa->Nat
 | .ar _,x=>x.m
 | _,x=>x.m+10
theorem EO {n:Nat} {ts r:List ae} {k:Int} (h:inf n ts=some (k,r)):∀ t∈r,t∈ts:=by
 cases ts with
 | nil=>cases h
 | cons t q=>
  simp only [inf] at h
  split at h
  ·split at h
   ·cases h;exact fun t h=>h
   ·cases h
  ·split at h
   ·cases h;exact fun t h=>List.mem_cons_of_mem _ h
   ·cases h
theorem gO {k:Int} {ts r:List ae} (h:aU k ts=some r):∀ t∈r,t∈ts:=by
 cases ts with
 | nil=>cases h
 | cons t q=>
  simp only [aU] at h
  split at h
  ·cases h;exact fun t h=>List.mem_cons_of_mem _ h
  ·cases h
theorem ui {ts r:List ae} {s:List UInt8} (h:dZ ts=some (s,r)):(∀ t∈r,t∈ts)/\∃ t∈ts,s=t.fText:=by
 cases ts with
 | nil=>cases h
 | cons t q=>
  simp only [dZ] at h
  split at h
  ·cases h;exact ⟨fun t h=>List.mem_cons_of_mem _ h,t,by simp,rfl⟩
  ·cases h
theorem EP : ∀ (f:Nat) (md:Md) (ts:List ae) (x:aa) (r:List ae),pP f md ts=some (x,r)->(∀ t∈ts,t.fText.length<=200)->(∀ t∈r,t∈ts)/\md.mR x+600*r.length<=md.m0+600*ts.length:=by
 intro f
 induction f with
 | zero=>intro md ts x r h;cases h
 | succ f ih=>
  intro md ts x r h ht
  have bnd:∀ {α:Type} {o:Option α} {g:α->Option (aa×List ae)},o.bind g=some (x,r)->∃ a,o=some a/\g a=some (x,r):=fun h=>Option.bind_eq_some_iff.1 h
  cases md with
  | ex n=>
   rw [pP] at h
   split at h
   ·exact ih .el ts x r h ht
   ·obtain ⟨⟨l,q⟩,h1,h2⟩:=bnd h
    obtain ⟨a1,a2⟩:=ih _ _ _ _ h1 ht
    obtain ⟨b1,b2⟩:=ih _ _ _ _ h2 fun t hq=>ht t (a1 t hq)
    simp only [Md.mR,Md.m0] at *
    exact ⟨fun t hq=>a1 t (b1 t hq),by omega⟩
  | lp n l=>
   rw [pP] at h
   split at h
   ·cases h;simp only [Md.mR,Md.m0];exact ⟨fun t h=>h,Nat.le_refl _⟩
   ·rename_i k q hi
    have hl:=xT hi
    have hm:=EO hi
    split at h
    ·obtain ⟨⟨s,q2⟩,h1,h2⟩:=bnd h
     have hl2:=mb h1
     obtain ⟨hm2,t0,ht0,rfl⟩:=ui h1
     have:=ht t0 (hm t0 ht0)
     obtain ⟨b1,b2⟩:=ih _ _ _ _ h2 fun t hq=>ht t (hm t (hm2 t hq))
     simp only [Md.mR,Md.m0,nB,aA,List.length_cons,List.length_nil] at *
     exact ⟨fun t hq=>hm t (hm2 t (b1 t hq)),by omega⟩
    ·obtain ⟨⟨y,q2⟩,h1,h2⟩:=bnd h
     obtain ⟨a1,a2⟩:=ih _ _ _ _ h1 fun t hq=>ht t (hm t hq)
     obtain ⟨b1,b2⟩:=ih _ _ _ _ h2 fun t hq=>ht t (hm t (a1 t hq))
     simp only [Md.mR,Md.m0,nB,aA,List.length_cons,List.length_nil] at *
     exact ⟨fun t hq=>hm t (a1 t (b1 t hq)),by omega⟩
  | el=>
   cases ts with
   | nil=>cases h
   | cons t q=>
    have htq:∀ t∈q,t.fText.length<=200:=fun u hu=>ht u (by simp [hu])
    rw [pP] at h
    split at h
    ·split at h
     ·cases h
     split at h
     ·obtain ⟨⟨y,q2⟩,h1,h2⟩:=Option.map_eq_some_iff.1 h
      obtain ⟨a1,a2⟩:=ih _ _ _ _ h1 htq
      cases h2
      simp only [Md.mR,Md.m0,nB,aA,List.length_cons,List.length_nil] at *
      exact ⟨fun t hq=>by simp [a1 t hq],by omega⟩
     split at h
     ·obtain ⟨⟨y,q2⟩,h1,h2⟩:=Option.map_eq_some_iff.1 h
      obtain ⟨a1,a2⟩:=ih _ _ _ _ h1 htq
      cases h2
      simp only [Md.mR,Md.m0,nB,aA,List.length_cons,List.length_nil] at *
      exact ⟨fun t hq=>by simp [a1 t hq],by omega⟩
     split at h
     ·obtain ⟨⟨y,q2⟩,h1,h2⟩:=Option.map_eq_some_iff.1 h
      have hl2:=mb h1
      obtain ⟨hm2,t0,ht0,rfl⟩:=ui h1
      have:=htq t0 ht0
      cases h2
      simp only [Md.mR,Md.m0,nB,aA,List.length_cons,List.length_nil] at *
      exact ⟨fun t hq=>by simp [hm2 t hq],by omega⟩
     ·cases h
    ·obtain ⟨⟨y,q2⟩,h1,h2⟩:=bnd h
     obtain ⟨a1,a2⟩:=ih _ _ _ _ h1 ht
     obtain ⟨b1,b2⟩:=ih _ _ _ _ h2 fun t hq=>ht t (a1 t hq)
     simp only [Md.mR,Md.m0] at *
     exact ⟨fun t hq=>a1 t (b1 t hq),by omega⟩
  | pr =>
   cases ts with
   | nil=>cases h
   | cons t q=>
    have htq:∀ t∈q,t.fText.length<=200:=fun u hu=>ht u (by simp [hu])
    have ht0:=ht t (by simp)
    have tl:∀ u∈q,u∈t:: q:=fun u hu=>List.mem_cons_of_mem _ hu
    rw [pP] at h
    split at h
    ·cases h
     simp only [Md.mR,Md.m0,nB,aA,List.length_cons,List.length_nil] at *
     exact ⟨tl,by omega⟩
    split at h
    ·cases h
     simp only [Md.mR,Md.m0,nB,aA,List.length_cons,List.length_nil] at *
     exact ⟨tl,by omega⟩
    split at h
    ·split at h
     ·rename_i r2 _ h5
      have l5:=cH h5
      have m5:=gO h5
      split at h
      ·rename_i r3 h6
       have l6:=cH h6
       have m6:=gO h6
       cases h
       simp only [Md.mR,Md.m0,nB,aA,List.length_cons,List.length_nil] at *
       exact ⟨fun u hu=>tl u (m5 u (m6 u hu)),by omega⟩
      ·obtain ⟨⟨y,q2⟩,h1,h2⟩:=Option.map_eq_some_iff.1 h
       obtain ⟨a1,a2⟩:=ih _ _ _ _ h1 fun u hu=>htq u (m5 u hu)
       cases h2
       have e:=nB y.fKind y.fNum y.fText y.fKids
       rw [aa.eta] at e
       simp only [Md.mR,Md.m0,nB,aA,List.length_cons,List.length_nil] at *
       exact ⟨fun u hu=>tl u (m5 u (a1 u hu)),by omega⟩
     ·cases h
      simp only [Md.mR,Md.m0,nB,aA,List.length_cons,List.length_nil] at *
      exact ⟨tl,by omega⟩
    split at h
    ·obtain ⟨⟨y,q2⟩,h1,h2⟩:=bnd h
     obtain ⟨q3,h3,h4⟩:=Option.map_eq_some_iff.1 h2
     obtain ⟨a1,a2⟩:=ih _ _ _ _ h1 htq
     have l3:=cH h3
     have m3:=gO h3
     cases h4
     simp only [Md.mR,Md.m0,List.length_cons] at *
     exact ⟨fun u hu=>tl u (a1 u (m3 u hu)),by omega⟩
    ·cases h
  | ix e=>
   cases ts with
   | nil=>cases h;simp only [Md.mR,Md.m0];exact ⟨fun t h=>h,Nat.le_refl _⟩
   | cons t q=>
    have htq:∀ t∈q,t.fText.length<=200:=fun u hu=>ht u (by simp [hu])
    have tl:∀ u∈q,u∈t:: q:=fun u hu=>List.mem_cons_of_mem _ hu
    rw [pP] at h
    split at h
    ·obtain ⟨⟨y,q2⟩,h1,h2⟩:=bnd h
     obtain ⟨q3,h3,h4⟩:=bnd h2
     obtain ⟨a1,a2⟩:=ih _ _ _ _ h1 htq
     have l3:=cH h3
     have m3:=gO h3
     obtain ⟨b1,b2⟩:=ih _ _ _ _ h4 fun u hu=>htq u (a1 u (m3 u hu))
     simp only [Md.mR,Md.m0,nB,aA,List.length_cons,List.length_nil] at *
     exact ⟨fun u hu=>tl u (a1 u (m3 u (b1 u hu))),by omega⟩
    ·cases h;simp only [Md.mR,Md.m0];exact ⟨fun t h=>h,Nat.le_refl _⟩
  | ar acc=>
   rw [pP] at h
   obtain ⟨⟨y,q2⟩,h1,h2⟩:=bnd h
   obtain ⟨a1,a2⟩:=ih _ _ _ _ h1 ht
   split at h2
   ·rename_i q3 h3
    have l3:=cH h3
    have m3:=gO h3
    obtain ⟨b1,b2⟩:=ih _ _ _ _ h2 fun u hu=>ht u (a1 u (m3 u hu))
    simp only [Md.mR,Md.m0,BO,List.length_append,List.length_singleton] at *
    exact ⟨fun u hu=>a1 u (m3 u (b1 u hu)),by omega⟩
   ·obtain ⟨q3,h3,h4⟩:=Option.map_eq_some_iff.1 h2
    have l3:=cH h3
    have m3:=gO h3
    cases h4
    simp only [Md.mR,Md.m0,nB,BO,List.length_append,List.length_singleton,List.length_nil] at *
    exact ⟨fun u hu=>a1 u (m3 u hu),by omega⟩
theorem vB {t:ae} (h:tOk t):t.fText.length<=200:=by
 rcases h.2 with h1 | h1 | h1 | h1 | h1
 ·have:=h1.2.2
  cases ht:t.fText with
  | nil=>simp
  | cons b q=>
   rw [ht] at this
   simp only [a6,Bool.and_eq_true,decide_eq_true_eq] at this
   omega
 ·rw [h1.2.1];simp
 ·have:=h1.2.2
  simp only [sW,Bool.and_eq_true,decide_eq_true_eq] at this
  exact this.1.1
 ·obtain ⟨b,hb,_⟩:=h1.2.2
  rw [hb];simp
 ·rw [h1.2.2];simp
end Go.Dv.U

namespace Go.Dv.U
open Go Go.Dv Go.Proofs
def Ans {α:Type} (o:Option ((α×Bool)×((List ae×Int×Unit)×Unit))) (T:List ae) (g:aa->α) (res:Option (aa×List ae)):Prop:=
 (∃ x a',res=some (x,T.drop a')/\a'<=T.length/\o=some ((g x,true),bx T a'))\/(res=none/\∃ (e:α) (b:Int),o=some ((e,false),((T,b,()),())))
def idE (x:aa):aa:=x
theorem EQ (x0:Int) (x1:List ae) (x2 x3 x4:Int) (x5:List UInt8) (x6:List aa) (x7 x8:Int) (x9:List UInt8) (x10:List aa):gh x0 x1 x2 x3 x4 x5 x6 x7 x8 x9 x10=bE x0 x1 x2 x3 x4 x5 x6 x7 x8 x9 x10:=by
 rw [nt,fB]
theorem Db (x0:Bool) (x1:List ae) (x2 x3 x4:Int) (x5:List UInt8) (x6:List aa) (x7 x8:Int) (x9:List UInt8) (x10:List aa):dh x0 x1 x2 x3 x4 x5 x6 x7 x8 x9 x10=bW x0 x1 x2 x3 x4 x5 x6 x7 x8 x9 x10:=by
 rw [fA,eE]
 simp only [kP,eF,fm,dY]
theorem Dc (s:List UInt8) (T:List ae) (a:Nat) (hT:T.length<=1000) (hlt:a<T.length):iT s T a =
  if s=[45]\/s=[36] then (cc T ((a+1:Nat):Int)).bind fun r=>some ((⟨if s=[45] then 14 else 15,0,[],[r.1.1]⟩,r.1.2),r.2)
  else if qr s=true then (ci T ((a+1:Nat):Int)).bind fun r=>some ((⟨E6 s,0,r.1.1,[]⟩,r.1.2),r.2) else some ((jw,false),bx T a):=by
 have s14:qG 14=[45]:=rfl
 have s15:qG 15=[36]:=rfl
 have s16:qG 16=[46]:=rfl
 have s17:qG 17=[42]:=rfl
 have s18:qG 18=[64]:=rfl
 have w14:w64 (14+1)=15:=aS (by omega) (by omega)
 have w15:w64 (15+1)=16:=aS (by omega) (by omega)
 have w16:w64 (16+1)=17:=aS (by omega) (by omega)
 have w17:w64 (17+1)=18:=aS (by omega) (by omega)
 have w18:w64 (18+1)=19:=aS (by omega) (by omega)
 have hp:∀ (r:(aa×Bool)×((List ae×Int×Unit)×Unit)),(((Prod.fst (Prod.fst (Prod.snd r))),(Prod.fst (Prod.snd (Prod.fst (Prod.snd r)))),()),())=r.2:=fun r=>rfl
 rw [pd,bQ,if_pos (by decide),di (by decide) (by decide),dI]
 simp only [Option.bind_some,s14,w14]
 by_cases h1:s=[45]
 ·subst h1
  simp [B9 hT hlt,aa.eta]
 rw [if_pos (by simpa using fun e=>h1 e.symm),bQ,if_pos (by decide),di (by decide) (by decide),dI]
 simp only [Option.bind_some,s15,w15]
 by_cases h2:s=[36]
 ·subst h2
  simp [B9 hT hlt,aa.eta]
 rw [if_pos (by simpa using fun e=>h2 e.symm),bQ,if_pos (by decide),di (by decide) (by decide),dI]
 simp only [Option.bind_some,s16,w16]
 by_cases h3:s=[46]
 ·subst h3
  simp [B9 hT hlt,qr,E6]
 rw [if_pos (by simpa using fun e=>h3 e.symm),bQ,if_pos (by decide),di (by decide) (by decide),dI]
 simp only [Option.bind_some,s17,w17]
 by_cases h4:s=[42]
 ·subst h4
  simp [B9 hT hlt,qr,E6]
 rw [if_pos (by simpa using fun e=>h4 e.symm),bQ,if_pos (by decide),di (by decide) (by decide),dI]
 simp only [Option.bind_some,s18,w18]
 by_cases h5:s=[64]
 ·subst h5
  simp [B9 hT hlt,qr,E6]
 rw [if_pos (by simpa using fun e=>h5 e.symm),bQ,if_neg (by decide)]
 simp [h1,h2,h3,h4,h5,qr,jw,bx]
def Stp (T:List ae) (f:Nat):Md->Nat->Prop
 | .ex n,a=>1<=n->n<=6->Ans (aW n T a) T idE (pP f (.ex n) (T.drop a))
 | .lp n l,a=>1<=n->n<=5->∀ x3 x4 x5 x6,Ans (bE n T a x3 x4 x5 x6 l.fKind l.fNum l.fText l.fKids) T idE (pP f (.lp n l) (T.drop a))
 | .el,a=>Ans (cc T a) T idE (pP f .el (T.drop a))
 | .pr,a=>Ans (dn T a) T idE (pP f .pr (T.drop a))
 | .ix e,a=>∀ x3 x4 x5 x6,Ans (bW true T a x3 x4 x5 x6 e.fKind e.fNum e.fText e.fKids) T idE (pP f (.ix e) (T.drop a))
 | .ar acc,a=>acc.length<=a->Ans (eL T a acc) T aa.fKids (pP f (.ar acc) (T.drop a))
theorem cY (T:List ae) {a:Nat} (h:a<=T.length):(T.drop a).length+a=T.length:=by rw [List.length_drop];omega
theorem GW {T:List ae} (hT:T.length<=1000) (hok:∀ t∈T,tOk t):∀ (f:Nat) (md:Md) (a:Nat),a<=T.length->md.need (T.drop a)<=f->Stp T f md a:=by
 intro f
 induction f with
 | zero=>
  intro md a _ h
  exfalso
  have:0<md.rk:=by cases md<;>simp only [Md.rk]<;>omega
  unfold Md.need at h;omega
 | succ f ih=>
  intro md a ha hf
  have hda:=cY T ha
  have hlen:∀ (md:Md) (b:Nat) (x:aa) (a':Nat),b<=T.length->a'<=T.length->pP f md (T.drop b)=some (x,T.drop a')->b+md.w<=a':=fun md b x a' hb ha' h=>by
   have h1:=BI f md _ _ _ h
   have h2:=cY T hb
   have h3:=cY T ha'
   omega
  simp only [Md.need] at hf
  cases md with
  | ex n=>
   intro h1 h6
   rw [qk,pP]
   by_cases e6:n=6
   ·subst e6
    rw [if_pos (by decide),if_pos (by omega)]
    rcases ih .el a ha (by simp only [Md.need,Md.rk] at hf ⊢;omega) with ⟨x,a',e1,h2,e2⟩ | ⟨e1,e,b,e2⟩
    ·rw [e1,e2]
     exact .inl ⟨x,a',rfl,h2,by simp only [Option.bind_some,idE,aa.eta,bx]⟩
    ·rw [e1,e2]
     exact .inr ⟨rfl,e,b,by simp only [Option.bind_some,aa.eta]⟩
   ·have w:w64 ((n:Int)+1)=((n+1:Nat):Int):=by rw [aS (by omega) (by omega)];omega
    rw [if_neg (by simp;omega),if_neg (by omega),w]
    rcases ih (.ex (n+1)) a ha (by simp only [Md.need,Md.rk] at hf ⊢;omega) (by omega) (by omega) with ⟨x,a',e1,h2,e2⟩ | ⟨e1,e,b,e2⟩
    ·have hl:=hlen _ _ _ _ ha h2 e1
     have hda':=cY T h2
     rw [e1,e2]
     simp only [Option.bind_some,idE,bx,Bool.not_true,Bool.false_eq_true,if_false,EQ]
     exact ih (.lp n x) a' h2 (by simp only [Md.need,Md.rk,Md.w] at hf hl ⊢;omega) h1 (by omega) _ _ _ _
    ·rw [e1,e2]
     exact .inr ⟨rfl,jw,b,by simp [jw]⟩
  | lp n l=>
   intro h1 h5 x3 x4 x5 x6
   rw [fB,pP]
   rcases Da hT hok ha h1 h5 with ⟨k,a',e1,h2,e2⟩ | ⟨e1,k,e2⟩
   ·rw [e1,e2]
    have hil:=xT e1
    have hda':=cY T h2
    simp only [Option.bind_some,bx,Bool.not_true,Bool.false_eq_true,if_false]
    by_cases e5:n=5
    ·subst e5
     rw [if_pos (by decide),if_pos rfl]
     rcases vA hT h2 with ⟨s,e3,hlt,e4⟩ | ⟨e3,e4⟩
     ·rw [e3,e4]
      simp only [Option.bind_some,bx,Bool.not_true,Bool.false_eq_true,if_false,aa.eta]
      have hda2:=cY T (a:=a'+1) (by omega)
      exact ih (.lp 5 ⟨k,0,[],[l,⟨3,0,s,[]⟩]⟩) (a'+1) (by omega) (by simp only [Md.need,Md.rk] at hf ⊢;omega) h1 h5 _ _ _ _
     ·rw [e3,e4]
      exact .inr ⟨rfl,jw,a',by simp [bx,jw]⟩
    ·have w:w64 ((n:Int)+1)=((n+1:Nat):Int):=by rw [aS (by omega) (by omega)];omega
     rw [if_neg (by simp;omega),if_neg e5,w]
     rcases ih (.ex (n+1)) a' h2 (by simp only [Md.need,Md.rk] at hf ⊢;omega) (by omega) (by omega) with ⟨x,a2,e3,h3,e4⟩ | ⟨e3,e,b,e4⟩
     ·have hl:=hlen _ _ _ _ h2 h3 e3
      have hda2:=cY T h3
      rw [e3,e4]
      simp only [Option.bind_some,idE,bx,Bool.not_true,Bool.false_eq_true,if_false,aa.eta]
      exact ih (.lp n ⟨k,0,[],[l,x]⟩) a2 h3 (by simp only [Md.need,Md.rk,Md.w] at hf hl ⊢;omega) h1 h5 _ _ _ _
     ·rw [e3,e4]
      exact .inr ⟨rfl,jw,b,by simp [jw]⟩
   ·rw [e1,e2]
    exact .inl ⟨l,a,rfl,ha,by simp [bx,idE,aa.eta]⟩
  | el =>
   show Ans (cc T a) T idE (pP (f+1) .el (T.drop a))
   rw [nr,sR ha]
   have rest:Ans ((dn T a).bind fun r198=>dh (Prod.snd (Prod.fst r198)) (Prod.fst (Prod.fst (Prod.snd r198))) (Prod.fst (Prod.snd (Prod.fst (Prod.snd r198)))) 0 0 [] ([]) (aa.fKind (Prod.fst (Prod.fst r198))) (aa.fNum (Prod.fst (Prod.fst r198))) (aa.fText (Prod.fst (Prod.fst r198))) (aa.fKids (Prod.fst (Prod.fst r198)))) T idE ((pP f .pr (T.drop a)).bind fun p=>pP f (.ix p.1) p.2):=by
    rcases ih .pr a ha (by simp only [Md.need,Md.rk] at hf ⊢;omega) with ⟨x,a',e1,h2,e2⟩ | ⟨e1,e,b,e2⟩
    ·have hl:=hlen _ _ _ _ ha h2 e1
     have hda':=cY T h2
     rw [e1,e2]
     simp only [Option.bind_some,idE,bx,Db]
     exact ih (.ix x) a' h2 (by simp only [Md.need,Md.rk,Md.w] at hf hl ⊢;omega) _ _ _ _
    ·rw [e1,e2]
     refine .inr ⟨rfl,e,b,?_⟩
     simp only [Option.bind_some]
     rw [fA,if_neg (by decide),fm,aa.eta]
   rcases pm ha with ⟨e0,e⟩ | ⟨t,hlt,hi,e,hm⟩
   ·rw [e] at rest ⊢
    simp only [aU,Option.isSome_none,Option.bind_some,Bool.false_eq_true,if_false]
    have:pP f .pr []=none:=by cases f<;>rfl
    rw [this] at rest
    exact rest
   ·rw [e] at rest ⊢
    rw [pP]
    by_cases h4:t.fKind=4
    ·rw [if_pos h4]
     simp only [aU,h4,if_true,Option.isSome_some,Option.bind_some,hi]
     cases hA:t.fAfter with
     | true=>exact .inr ⟨by simp,jw,a,by simp [jw]⟩
     | false=>
      simp only [Bool.false_eq_true,if_false]
      rw [Dc _ _ _ hT hlt]
      have hda1:=cY T (a:=a+1) (by omega)
      have hel:=ih .el (a+1) (by omega) (by simp only [Md.need,Md.rk] at hf ⊢;omega)
      have elc:∀ (k:Int),Ans ((cc T ((a+1:Nat):Int)).bind fun r=>some (((⟨k,0,[],[r.1.1]⟩:aa),r.1.2),r.2)) T idE ((pP f .el (T.drop (a+1))).map fun p=>(⟨k,0,[],[p.1]⟩,p.2)):=by
       intro k
       rcases hel with ⟨x,a',e1,h2,e2⟩ | ⟨e1,e,b,e2⟩
       ·rw [e1,e2];exact .inl ⟨_,a',rfl,h2,rfl⟩
       ·rw [e1,e2];exact .inr ⟨rfl,_,b,rfl⟩
      have fin:∀ {o:Option ((aa×Bool)×((List ae×Int×Unit)×Unit))} {res:Option (aa×List ae)},Ans o T idE res->Ans (o.bind fun r196=>some (((aa.mk (aa.fKind (Prod.fst (Prod.fst r196))) (aa.fNum (Prod.fst (Prod.fst r196))) (aa.fText (Prod.fst (Prod.fst r196))) (aa.fKids (Prod.fst (Prod.fst r196)))),(Prod.snd (Prod.fst r196))),(((Prod.fst (Prod.fst (Prod.snd r196))),(Prod.fst (Prod.snd (Prod.fst (Prod.snd r196)))),()),()))) T idE res:=by
       intro o res h
       rcases h with ⟨x,a',e1,h2,e2⟩ | ⟨e1,e,b,e2⟩
       ·rw [e2];exact .inl ⟨x,a',e1,h2,by simp only [Option.bind_some,aa.eta,bx,idE]⟩
       ·rw [e2];exact .inr ⟨e1,e,b,by simp only [Option.bind_some,aa.eta]⟩
      by_cases q1:t.fText=[45]
      ·simp only [q1,true_or,if_true]
       exact fin (elc 14)
      ·by_cases q2:t.fText=[36]
       ·have q3:¬ ([36]:List UInt8)=[45]:=by decide
        simp only [q2,q3,or_true,if_true,if_false]
        exact fin (elc 15)
       ·rw [if_neg (by simp [q1,q2]),if_neg q1,if_neg q2]
        cases hp:qr t.fText with
        | false=>exact .inr ⟨by simp,jw,a,by simp [jw,bx]⟩
        | true=>
         simp only [if_true]
         refine fin ?_
         rcases vA hT (a:=a+1) (by omega) with ⟨s,e3,hlt2,e4⟩ | ⟨e3,e4⟩
         ·rw [e3,e4];exact .inl ⟨_,a+1+1,rfl,by omega,rfl⟩
         ·rw [e3,e4];exact .inr ⟨rfl,_,_,rfl⟩
    ·rw [if_neg h4]
     simp only [aU,h4,if_false,Option.isSome_none,Option.bind_some,Bool.false_eq_true]
     exact rest
  | pr =>
   show Ans (dn T a) T idE (pP (f+1) .pr (T.drop a))
   rw [nu]
   rcases pm ha with ⟨e0,e⟩ | ⟨t,hlt,hi,e,hm⟩
   ·rw [e,if_pos (by simp [am,e0])]
    exact .inr ⟨rfl,jw,a,by simp [jw]⟩
   ·rw [e,if_neg (by simp [am];omega),hi,pP]
    have hda1:=cY T (a:=a+1) (by omega)
    simp only [Option.bind_some,B9 hT hlt]
    by_cases k3:t.fKind=3
    ·rw [if_pos (by simp [k3]),if_pos k3]
     exact .inl ⟨_,a+1,rfl,by omega,rfl⟩
    rw [if_neg (by simpa using k3),if_neg k3]
    by_cases k2:t.fKind=2
    ·rw [if_pos (by simp [k2]),if_pos k2]
     exact .inl ⟨_,a+1,rfl,by omega,rfl⟩
    rw [if_neg (by simpa using k2),if_neg k2]
    by_cases k1:t.fKind=1
    ·rw [if_pos (by simp [k1]),if_pos k1]
     cases hA:t.fAfter with
     | true=>
      simp only [Bool.not_true,Bool.false_eq_true,if_false]
      exact .inl ⟨_,a+1,rfl,by omega,rfl⟩
     | false=>
      simp only [Bool.not_false,if_true]
      rcases i7 hT (a:=a+1) (by omega) 5 with ⟨e1,hlt2,e2⟩ | ⟨e1,e2⟩
      ·rw [e1,e2]
       simp only [Option.bind_some,if_true,bx]
       rw [ql]
       have hda2:=cY T (a:=a+1+1) (by omega)
       rcases i7 hT (a:=a+1+1) (by omega) 6 with ⟨e3,hlt3,e4⟩ | ⟨e3,e4⟩
       ·rw [e3,e4]
        exact .inl ⟨_,a+1+1+1,rfl,by omega,rfl⟩
       ·rw [e3,e4]
        simp only [Option.bind_some,Bool.false_eq_true,if_false,bx]
        rcases ih (.ar []) (a+1+1) (by omega) (by simp only [Md.need,Md.rk] at hf ⊢;omega) (by simp) with ⟨x,a',e5,h5,e6⟩ | ⟨e5,ks,b,e6⟩
        ·rw [e5,e6]
         exact .inl ⟨_,a',rfl,h5,rfl⟩
        ·rw [e5,e6]
         exact .inr ⟨rfl,_,b,rfl⟩
      ·rw [e1,e2]
       simp only [Option.bind_some,Bool.false_eq_true,if_false]
       exact .inl ⟨_,a+1,rfl,by omega,rfl⟩
    rw [if_neg (by simpa using k1),if_neg k1]
    by_cases k5:t.fKind=5
    ·rw [if_pos (by simp [k5]),if_pos k5]
     rcases ih (.ex 1) (a+1) (by omega) (by simp only [Md.need,Md.rk] at hf ⊢;omega) (by omega) (by omega) with ⟨x,a',e1,h2,e2⟩ | ⟨e1,e,b,e2⟩
     ·have e2:aW 1 T ((a+1:Nat):Int)=_:=e2
      rw [e1,e2]
      simp only [Option.bind_some,if_true,bx,idE,aa.eta]
      rcases i7 hT (a:=a') h2 6 with ⟨e3,hlt3,e4⟩ | ⟨e3,e4⟩
      ·rw [e3,e4]
       exact .inl ⟨_,a'+1,rfl,by omega,rfl⟩
      ·rw [e3,e4]
       exact .inr ⟨rfl,_,_,rfl⟩
     ·have e2:aW 1 T ((a+1:Nat):Int)=_:=e2
      rw [e1,e2]
      exact .inr ⟨rfl,e,b,by simp [aa.eta]⟩
    ·rw [if_neg (by simpa using k5),if_neg k5]
     exact .inr ⟨rfl,jw,a,by simp [jw]⟩
  | ix x0=>
   intro x3 x4 x5 x6
   rw [eE,if_pos rfl,sR ha]
   simp only [Option.bind_some,dY,aa.eta]
   rcases pm ha with ⟨e0,e⟩ | ⟨t,hlt,hi,e,hm⟩
   ·rw [e]
    exact .inl ⟨x0,a,by rw [e];rfl,ha,by simp [aU,idE,bx]⟩
   ·rw [e,pP]
    have hstop:Ans (some ((x0,true),((T,(a:Int),()),()))) T idE (some (x0,t:: T.drop (a+1))):=.inl ⟨x0,a,by rw [e],ha,rfl⟩
    by_cases h7:t.fKind=7
    ·have hE:aU 7 (t:: T.drop (a+1))=some (T.drop (a+1)):=by simp [aU,h7]
     rw [hE]
     simp only [h7,Option.isSome_some,if_true,hi,Option.bind_some]
     cases hB:t.fBefore with
     | true=>
      simp only [Bool.not_true,Bool.false_eq_true,if_false,and_false]
      exact hstop
     | false=>
      simp only [Bool.not_false,if_true,and_self]
      have hda1:=cY T (a:=a+1) (by omega)
      rw [eF,B9 hT hlt]
      rcases ih (.ex 1) (a+1) (by omega) (by simp only [Md.need,Md.rk] at hf ⊢;omega) (by omega) (by omega) with ⟨x,a',e1,h2,e2⟩ | ⟨e1,e,b,e2⟩
      ·have e2:aW 1 T ((a+1:Nat):Int)=_:=e2
       have hl:=hlen _ _ _ _ (by omega) h2 e1
       rw [e1,e2]
       simp only [Option.bind_some,bx,idE,aa.eta,Bool.not_true,Bool.false_eq_true,if_false]
       rcases i7 hT (a:=a') h2 8 with ⟨e3,hlt3,e4⟩ | ⟨e3,e4⟩
       ·rw [e3,e4]
        simp only [Option.bind_some,bx,Bool.not_true,Bool.false_eq_true,if_false]
        have hda2:=cY T (a:=a'+1) (by omega)
        exact ih (.ix ⟨5,0,[],[x0,x]⟩) (a'+1) (by omega) (by simp only [Md.need,Md.rk,Md.w] at hf hl ⊢;omega) _ _ _ _
       ·rw [e3,e4]
        exact .inr ⟨rfl,jw,a',by simp [bx,jw]⟩
      ·have e2:aW 1 T ((a+1:Nat):Int)=_:=e2
       rw [e1,e2]
       exact .inr ⟨rfl,jw,b,by simp [jw]⟩
    ·have hE:aU 7 (t:: T.drop (a+1))=none:=by simp [aU,h7]
     rw [hE]
     simp only [h7,if_false,false_and,Option.isSome_none,Bool.false_eq_true]
     exact hstop
  | ar acc=>
   intro hacc
   rw [nv,pP]
   rcases ih (.ex 1) a ha (by simp only [Md.need,Md.rk] at hf ⊢;omega) (by omega) (by omega) with ⟨x,a',e1,h2,e2⟩ | ⟨e1,e,b,e2⟩
   ·have e2:aW 1 T (a:Int)=_:=e2
    have hl:=hlen _ _ _ _ ha h2 e1
    have hda':=cY T h2
    rw [e1,e2]
    simp only [Option.bind_some,bx,idE,aa.eta,Bool.not_true,Bool.false_eq_true,if_false]
    rw [av (by simp;omega)]
    simp only [Option.bind_some]
    rcases i7 hT (a:=a') h2 9 with ⟨e3,hlt3,e4⟩ | ⟨e3,e4⟩
    ·rw [e3,e4]
     simp only [Option.bind_some,bx,Bool.not_true,Bool.false_eq_true,if_false]
     have hda2:=cY T (a:=a'+1) (by omega)
     exact ih (.ar (acc++[x])) (a'+1) (by omega) (by simp only [Md.need,Md.rk,Md.w] at hf hl ⊢;omega) (by simp only [Md.w,List.length_append,List.length_singleton] at hl ⊢;omega)
    ·rw [e3,e4]
     simp only [Option.bind_some,bx,Bool.not_false,if_true]
     rcases i7 hT (a:=a') h2 6 with ⟨e5,hlt5,e6⟩ | ⟨e5,e6⟩
     ·rw [e5,e6]
      exact .inl ⟨_,a'+1,rfl,by omega,rfl⟩
     ·rw [e5,e6]
      exact .inr ⟨rfl,_,_,rfl⟩
   ·have e2:aW 1 T (a:Int)=_:=e2
    rw [e1,e2]
    exact .inr ⟨rfl,[],b,by simp⟩
end Go.Dv.U

namespace Go.Dv.U
open Go Go.Dv Go.Proofs
def zP (n:Nat) (ts:List ae):Nat:=(Md.ex n).need ts
def fw (n:Nat) (ts:List ae):Int×aa×List ae:=match pP (zP n ts) (.ex n) ts with
 | none=>(2,jw,ts)
 | some (x,r)=>if x.valid=true then (0,x,r) else (6,jw,ts)
theorem zQ {T:List ae} (hT:T.length<=1000) (hok:∀ t∈T,tOk t):bN T=some true:=by
 rw [eD]
 refine db (xs:=T) (by omega) (P:=fun i _=>aZ T (len T) (i:Int)=some true) ?_ ?_
 ·rw [b8,if_neg (by simp [am])]
 ·intro i y l _ hlt hy hi hw ih
  rw [b8,if_pos (by simp [am];omega),hi]
  simp only [Option.bind_some]
  have e:ae.mk y.fKind y.fNum y.fText y.fBefore y.fAfter=y:=by cases y;rfl
  simp only [e,y2 (hok y hy),Option.bind_some,Bool.not_true,Bool.false_eq_true,if_false,hw]
  exact ih
theorem zR {T:List ae} (hT:T.length<=120) (hok:∀ t∈T,tOk t) {a:Nat} (ha:a<=T.length) {n:Nat} (h1:1<=n) (h6:n<=6):
  (∃ x a',fw n (T.drop a)=(0,x,T.drop a')/\a'<=T.length/\x.valid=true/\n9 T a n=some (x,((a':Nat):Int),0))\/(∃ c b,c≠0/\fw n (T.drop a)=(c,jw,T.drop a)/\n9 T a n=some (jw,b,c)):=by
 rw [wJ,if_neg (by simp [am];omega),zQ (by omega) hok]
 simp only [Option.bind_some,Bool.not_true,Bool.false_eq_true,if_false]
 rw [hU]
 have hw:(decide (0<=(a:Int))&&decide ((a:Int)<=len T))=true:=by simp [am];omega
 rw [hw]
 simp only [Option.bind_some,Bool.not_true,Bool.false_eq_true,if_false]
 rw [sG]
 unfold fw
 rcases GW (by omega) hok (zP n (T.drop a)) (.ex n) a ha (Nat.le_refl _) h1 h6 with ⟨x,a',e1,h2,e2⟩ | ⟨e1,e,b,e2⟩
 ·rw [e1,e2]
  simp only [Option.bind_some,bx,idE,aa.eta,Bool.not_true,Bool.false_eq_true,if_false]
  have hsz:=(EP _ _ _ _ _ e1 fun t ht=>vB (hok t (List.mem_of_mem_drop ht))).2
  have hdl:=cY T ha
  simp only [Md.mR,Md.m0] at hsz
  rw [mK (by omega)]
  simp only [Option.bind_some]
  cases hv:x.valid with
  | true=>exact .inl ⟨x,a',by simp,h2,hv,by simp⟩
  | false=>exact .inr ⟨6,a,by decide,by simp,by simp [jw]⟩
 ·rw [e1,e2]
  exact .inr ⟨2,b,by decide,rfl,by simp [jw]⟩
end Go.Dv.U

namespace Go.Dv.U
open Go Go.Dv Go.Proofs
def GX {α:Type} (o:Option ((α×Bool)×((List ae×Int×Unit)×Unit))) (T:List ae) (res:Option (α×List ae)):Prop:=
 (∃ x a',res=some (x,T.drop a')/\a'<=T.length/\o=some ((x,true),bx T a'))\/(res=none/\∃ (e:α) (b:Int),o=some ((e,false),((T,b,()),())))
theorem sS {T:List ae} {a:Nat} (hT:T.length<=1000) (ha:a<=T.length):
  (∃ s a',kp (T.drop a)=some (s,T.drop a')/\a<a'/\a'<=T.length/\cW T a=some ((s,true),bx T a'))\/(kp (T.drop a)=none/\∃ (e:List UInt8) (b:Int),cW T a=some ((e,false),((T,b,()),()))):=by
 rw [og]
 unfold kp
 rcases i7 hT ha 5 with ⟨e1,hlt,e2⟩ | ⟨e1,e2⟩
 ·rw [e1,e2]
  simp only [Option.bind_some,bx,Bool.not_true,Bool.false_eq_true,if_false]
  rcases vA hT (a:=a+1) (by omega) with ⟨s,e3,hlt2,e4⟩ | ⟨e3,e4⟩
  ·rw [e3,e4]
   simp only [Option.bind_some,bx,if_true]
   rcases i7 hT (a:=a+1+1) (by omega) 6 with ⟨e5,hlt3,e6⟩ | ⟨e5,e6⟩
   ·rw [e5,e6]
    exact .inl ⟨s,a+1+1+1,rfl,by omega,by omega,rfl⟩
   ·rw [e5,e6]
    exact .inr ⟨rfl,s,_,rfl⟩
  ·rw [e3,e4]
   exact .inr ⟨rfl,[],_,by simp only [Option.bind_some,bx,Bool.false_eq_true,if_false];rfl⟩
 ·rw [e1,e2]
  exact .inr ⟨rfl,[],a,by simp [bx]⟩
theorem GY {T:List ae} (hT:T.length<=1000):∀ (f a:Nat) (s x:List UInt8) (ok:Bool) (x3 x4 x5:List UInt8),a<=T.length->(T.drop a).length<f ->
    GX (df ok T a x3 x4 x5 [] s x) T (pTg f s x ok (T.drop a)):=by
  intro f
  induction f with
  | zero=>intro a s x ok x3 x4 x5 _ h;omega
  | succ f ih =>
    intro a s x ok x3 x4 x5 ha hf
    have hda:=cY T ha
    rw [kN,sR ha]
    rcases vA hT ha with ⟨w,e1,hlt,e2⟩ | ⟨e1,e2⟩
    · have hx : (aU 1 (T.drop a)).isSome=true:=by
        rcases pm ha with ⟨e0,_⟩ | ⟨t,_,_,e,_⟩
        · omega
        · rw [e] at e1 ⊢
          simp only [dZ,aU] at e1 ⊢
          split at e1
          · rename_i hk;simp [hk]
          · cases e1
      rw [hx]
      simp only [Option.bind_some,if_true,e2,pTg,e1,bx]
      have bad:GX (bZ T ((a+1:Nat):Int) x3 x4 x5) T (none:Option (ax×List ae)):=by
        rw [kO];exact .inr ⟨rfl,_,_,rfl⟩
      by_cases h1:w=[83]
      · subst h1
        rw [if_pos (by simp)]
        by_cases h2:s=[]
        · subst h2
          rw [if_pos (by simp),if_pos ⟨rfl,rfl⟩]
          rcases sS hT (a:=a+1) (by omega) with ⟨l,a',e3,h3,h4,e4⟩ | ⟨e3,e,b,e4⟩
          · rw [e3,e4]
            simp only [Option.bind_some,bx,cm,Bool.not_true,Bool.false_eq_true,if_false]
            have hda':=cY T h4
            exact ih a' l x true _ _ _ h4 (by omega)
          · rw [e3,e4]
            simp only [Option.bind_some,cm,Bool.not_false,if_true]
            exact .inr ⟨rfl,_,_,rfl⟩
        · have b2:(s==[])=false:=by simpa using h2
          have b3:(([83]:List UInt8)==[70])=false:=by decide
          have n3:¬ ([83]:List UInt8)=[70]:=by decide
          simp only [b2,b3,n3,h2,Bool.false_eq_true,if_false,and_false,false_and]
          exact bad
      · have b1:(w==[83])=false:=by simpa using h1
        simp only [b1,h1,Bool.false_eq_true,if_false,false_and]
        by_cases h3:w=[70]
        · subst h3
          rw [if_pos (by simp)]
          by_cases h2:x=[]
          · subst h2
            rw [if_pos (by simp),if_pos ⟨rfl,rfl⟩,jY]
            rcases sS hT (a:=a+1) (by omega) with ⟨l,a',e3,h3,h4,e4⟩ | ⟨e3,e,b,e4⟩
            · rw [e3,e4]
              simp only [Option.bind_some,bx,cm,Bool.not_true,Bool.false_eq_true,if_false]
              have hda':=cY T h4
              exact ih a' s l true _ _ _ h4 (by omega)
            · rw [e3,e4]
              simp only [Option.bind_some,cm,Bool.not_false,if_true]
              exact .inr ⟨rfl,_,_,rfl⟩
          · have b2:(x==[])=false:=by simpa using h2
            simp only [b2,h2,Bool.false_eq_true,if_false,and_false]
            exact bad
        · have b3:(w==[70])=false:=by simpa using h3
          simp only [b3,h3,Bool.false_eq_true,if_false,false_and]
          exact bad
    · have hx:(aU 1 (T.drop a)).isSome=false:=by
        rcases pm ha with ⟨e0,e⟩ | ⟨t,_,_,e,_⟩
        · rw [e];rfl
        · rw [e] at e1 ⊢
          simp only [dZ,aU] at e1 ⊢
          split at e1
          · cases e1
          · rename_i hk;simp [hk]
      rw [hx]
      simp only [Option.bind_some,Bool.false_eq_true,if_false,pTg,e1]
      cases ok with
      | true=>exact .inl ⟨_,a,by simp,ha,rfl⟩
      | false=>exact .inr ⟨by simp,_,_,rfl⟩
theorem GZ {T:List ae} (hT:T.length<=1000) {a f:Nat} (ha:a<=T.length) (hf:(T.drop a).length<f):GX (dm T a) T (pGo f (T.drop a)):=by
 rw [ng,sR ha]
 unfold pGo
 cases he:aU 5 (T.drop a) with
 | some r=>
  simp only [Option.isSome_some,Option.bind_some,if_true]
  rcases sS hT ha with ⟨l,a',e3,h3,h4,e4⟩ | ⟨e3,e,b,e4⟩
  ·rw [e3,e4];exact .inl ⟨_,a',rfl,h4,rfl⟩
  ·rw [e3,e4];exact .inr ⟨rfl,_,_,rfl⟩
 | none=>
  simp only [Option.isSome_none,Option.bind_some,Bool.false_eq_true,if_false]
  exact GY hT _ a [] [] false _ _ _ ha hf
end Go.Dv.U

namespace Go.Dv.U
open Go Go.Dv Go.Proofs
theorem Dd {c:UInt8} {s t:List UInt8} (h:hasB (ib c) s=false) (j:Nat):Lib.occAt s (c:: t) j=false:=by
 cases ho:Lib.occAt s (c:: t) j with
 | false=>rfl
 | true=>
  have h1:=Lib.occAt_head (c:=c) (t:=t) rfl ho
  have:hasB (ib c) s=true:=by
   simp only [hasB,List.any_eq_true,beq_iff_eq]
   exact ⟨c,List.mem_of_getElem? h1,rfl⟩
  rw [h] at this;cases this
theorem xW {c:UInt8} {s t:List UInt8} (h:hasB (ib c) s=false):Lib.index s (c:: t) = -1:=Lib.index_none fun j _=>Dd h j
theorem xX {c:UInt8} {a r t:List UInt8} (h:hasB (ib c) a=false) (ht:(c:: t).isPrefixOf r=true):Lib.index (a++r) (c:: t)=(a.length:Int):=by
 refine Lib.index_first (by simp) ?_ ?_
 ·unfold Lib.occAt
  rw [List.drop_left];exact ht
 ·intro j hj
  unfold Lib.occAt
  rw [List.drop_append_of_le_length (by omega),List.drop_eq_getElem_cons hj]
  simp only [List.cons_append,List.isPrefixOf,Bool.and_eq_false_iff]
  left
  rw [beq_eq_false_iff_ne]
  intro e
  have:hasB (ib c) a=true:=by
   simp only [hasB,List.any_eq_true,beq_iff_eq]
   exact ⟨a[j],List.getElem_mem hj,by rw [<-e]⟩
  rw [h] at this;cases this
theorem ER {c:UInt8} {a r:List UInt8} (h:hasB (ib c) a=false):Lib.cut (a++c:: r) [c]=(a,r,true):=by
 have hi:Lib.index (a++c:: r) [c]=(a.length:Int):=xX h (by simp [List.isPrefixOf])
 unfold Lib.cut
 rw [hi,if_pos (by omega)]
 simp [List.drop_append]
theorem De {c:UInt8} {s:List UInt8} (h:hasB (ib c) s=false):Lib.cut s [c]=(s,[],false):=by
 unfold Lib.cut
 rw [xW h,if_neg (by decide)]
end Go.Dv.U

namespace Go.Dv.U
open Go Go.Dv Go.Proofs
theorem FL {T:List ae} {a b:Nat} (h:bx T a=bx T b):a=b:=by
 unfold bx at h
 have:=congrArg (fun p:(List ae×Int×Unit)×Unit=>p.1.2.1) h
 simp only at this;omega
theorem ES {ts:List ae} (hT:ts.length<=1000) (hok:∀ t∈ts,tOk t) {n:Nat} (h1:1<=n) (h6:n<=6) {x:aa} {r:List ae} (h:PR (.ex n) ts (x,r)):pP (zP n ts) (.ex n) ts=some (x,r):=by
 obtain ⟨f,hf⟩:=h
 have w1:=GW hT hok (zP n ts) (.ex n) 0 (Nat.zero_le _) (Nat.le_refl _) h1 h6
 have w2:=GW hT hok (max f (zP n ts)) (.ex n) 0 (Nat.zero_le _) (Nat.le_max_right _ _) h1 h6
 rw [List.drop_zero] at w1 w2
 rw [hf _ (Nat.le_max_left _ _)] at w2
 rcases w2 with ⟨x2,a2,e1,_,e2⟩ | ⟨e1,_⟩
 ·rcases w1 with ⟨x1,a1,e3,_,e4⟩ | ⟨e3,e,b,e4⟩
  ·rw [e2] at e4
   simp only [Option.some.injEq,Prod.mk.injEq,idE,and_true] at e4
   obtain ⟨rfl,e5⟩:=e4
   have:=FL e5
   subst this
   rw [e3,e1]
  ·rw [e2] at e4
   simp at e4
 ·cases e1
theorem vC {ts:List ae} (hT:ts.length<=1000) (hok:∀ t∈ts,tOk t) {n:Nat} (h1:1<=n) (h6:n<=6) {x:aa} {r:List ae} (h:PR (.ex n) ts (x,r)) (hv:x.valid=true):fw n ts=(0,x,r):=by
 unfold fw
 rw [ES hT hok h1 h6 h]
 simp [hv]
theorem BP {md:Md} {ts:List ae} {x:aa} {r:List ae} (h:PR md ts (x,r)) (hok:∀ t∈ts,tOk t):(∀ t∈r,tOk t)/\r.length<=ts.length:=by
 obtain ⟨f,hf⟩:=h
 have h1:=hf f (Nat.le_refl _)
 exact ⟨fun t ht=>hok t ((EP _ _ _ _ _ h1 fun t ht=>vB (hok t ht)).1 t ht),by have:=BI _ _ _ _ _ h1;omega⟩
def mM (lab:List UInt8):ab:=⟨lab,false,jw,false,jw,false,jw,⟨[],[],[]⟩⟩
def BQ (s:ab) (r:List ae):Int×ab×List ae:=match ip r with
 | none=>(0,s,r)
 | some r2=>if fC r2=true then (0,{s with fHasReplace:=true,fReplace:=⟨1,0,[],[]⟩},r2) else ((fw 1 r2).1,{s with fHasReplace:=true,fReplace:=(fw 1 r2).2.1},(fw 1 r2).2.2)
def bfr : List ae->Bool
 | []=>false
 | t:: _=>t.fBefore
def Gr (s:ab) (r:List ae):Int×ab×List ae:=
 if (fw 1 r).1≠0 then ((fw 1 r).1,{s with fHasPattern:=true,fPattern:=(fw 1 r).2.1},(fw 1 r).2.2) else BQ {s with fHasPattern:=true,fPattern:=(fw 1 r).2.1} (fw 1 r).2.2
def Gs (s:ab) (r:List ae):Int×ab×List ae:=
 if fC r=true\/(ip r).isSome=true then BQ s r else if bfr r=false then (2,s,r) else Gr s r
def kR (s:ab) (ts:List ae):Int×ab×List ae:=
 if (fw 6 ts).1≠0 then ((fw 6 ts).1,{s with fHasSubject:=true,fSubject:=(fw 6 ts).2.1},(fw 6 ts).2.2) else Gs {s with fHasSubject:=true,fSubject:=(fw 6 ts).2.1} (fw 6 ts).2.2
def BR (s:ab) (ts:List ae):Int×ab:=match aU 10 ts with
 | some r=>match pGo (r.length+4) r with
  | some (g,r2)=>(if r2=[] then 0 else 2,{s with fGoto:=g})
  | none=>(2,s)
 | none=>(if ts=[] then 0 else 2,s)
def pSt (s:ab) (ts:List ae):Int×ab:=
 if fC ts=true then BR s ts else if (kR s ts).1≠0 then ((kR s ts).1,(kR s ts).2.1) else BR (kR s ts).2.1 (kR s ts).2.2
def mw : List UInt8->Bool
 | []=>false
 | b:: _=>b==32
def BS (s:List UInt8):ab×Int:=
 if 4000<s.length\/ei s=false then (mM [],1)
 else
  let lab:=if mw s=true then [] else (Lib.cut s [32]).1
  if mw s=false/\a6 lab=false then (mM [],2)
  else
   let k:=eG (s.drop lab.length)
   if k.2.2≠0 then (mM [],k.2.2)
   else
    let p:=pSt (mM lab) k.1
    if p.1≠0 then (mM [],p.1) else if p.2.fLabel=[]/\p.2.fHasSubject=false/\dT p.2.fGoto=true then (mM [],2)
    else if da p.2=true then (p.2,0) else (mM [],6)
theorem FM {e:aa} (h:zE e=true):e=jw:=by
 cases e
 simp only [zE,Bool.and_eq_true_iff,beq_iff_eq,decide_eq_true_eq] at h
 obtain ⟨⟨⟨h1,h2⟩,h3⟩,h4⟩:=h
 have:=List.eq_nil_of_length_eq_zero h4
 subst h1;subst h2;subst h3;subst this
 rfl
theorem oz {b:Bool} {e:aa} (h:eR b e=true) (hb:b=false):e=jw:=by
 subst hb
 exact FM (by simpa [eR] using h)
theorem pn {b:Bool} {e:aa} (h:eR b e=true) (hb:b=true):e.valid=true:=by
 subst hb
 simpa [eR] using h
theorem FN {s:ab} (hs:io s=true) {L L1 L2 L3:List ae} (h:StR s L L1 L2 L3) (hL:L.length<=120) (hok:∀ t∈L,tOk t):pSt (mM s.fLabel) L=(0,s):=by
 obtain ⟨_,_,q1,q2,q3⟩:=eS hs
 -- the goto
 have hE:∀ (s0:ab),s0.fGoto=⟨[],[],[]⟩->BR s0 L3=(0,{s0 with fGoto:=s.fGoto}):=by
  intro s0 h0
  unfold BR
  cases hz:dT s.fGoto with
  | true=>
   rw [h.g0 hz]
   have hg:s.fGoto=⟨[],[],[]⟩:=by
    cases hg:s.fGoto with
    | mk A S F=>
     rw [hg] at hz
     simp only [dT,Bool.and_eq_true_iff,beq_iff_eq] at hz
     obtain ⟨⟨h1,h2⟩,h3⟩:=hz
     rw [h1,h2,h3]
   simp only [aU,if_true,hg,Prod.mk.injEq,true_and]
   rw [<-h0]
  | false=>
   obtain ⟨t,q,e,hk,hg⟩:=h.g1 hz
   rw [e]
   simp only [aU,hk,if_true]
   rw [hg (q.length+4) (by omega)]
   simp
 cases hsub:s.fHasSubject with
 | false=>
  obtain ⟨e1,e2,e3,e4⟩:=h.s0 hsub
  unfold pSt
  rw [if_pos e1,<-e4,hE _ rfl]
  have hn:s.fHasPattern=false/\s.fHasReplace=false:=by
   unfold io at hs
   simp only [hsub,Bool.and_eq_true,Bool.false_or,Bool.not_eq_true'] at hs
   exact hs.1.1.2
  have a1:=oz q1 hsub
  have a2:=oz q2 hn.1
  have a3:=oz q3 hn.2
  cases s
  simp only at hsub hn a1 a2 a3
  obtain ⟨b1,b2⟩:=hn
  subst hsub;subst a1;subst a2;subst a3;subst b1;subst b2
  rfl
 | true=>
  obtain ⟨e1,e2⟩:=h.s1 hsub
  have v1:=pn q1 hsub
  obtain ⟨ok1,len1⟩:=BP e2 hok
  have p6:=vC (by omega) hok (by omega) (by omega) (PR.ex6 e2) v1
  -- behind the pattern
  have hR:∀ (s0:ab),s0.fGoto=⟨[],[],[]⟩->s0.fReplace=jw->s0.fHasReplace=false->L2.length<=120->(∀ t∈L2,tOk t)->BQ s0 L2=(0,{s0 with fHasReplace:=s.fHasReplace,fReplace:=s.fReplace},L3):=by
   intro s0 _ h1 h0 hl2 hk2
   unfold BQ
   cases hr:s.fHasReplace with
   | false=>
    obtain ⟨r1,r2⟩:=h.r0 hr
    rw [r1,r2,oz q3 hr]
    simp only
    rw [<-h1,<-h0]
   | true=>
    obtain ⟨q,r1,r2,r3⟩:=h.r1 hr
    have hq:(∀ t∈q,t∈L2)/\q.length<=L2.length:=by
     cases L2 with
     | nil=>cases r1
     | cons t l=>
      simp only [ip] at r1
      split at r1
      ·cases r1;exact ⟨fun t ht=>List.mem_cons_of_mem _ ht,by simp⟩
      ·cases r1
    rw [r1]
    simp only [r2,Bool.false_eq_true,if_false]
    rw [vC (by omega) (fun t ht=>hk2 t (hq.1 t ht)) (by omega) (by omega) r3 (pn q3 hr)]
  have fin:∀ (b:Int×ab×List ae),b=(0,{(mM s.fLabel) with fHasSubject:=true,fSubject:=s.fSubject,fHasPattern:=s.fHasPattern,fPattern:=s.fPattern,fHasReplace:=s.fHasReplace,fReplace:=s.fReplace},L3)->kR (mM s.fLabel) L=b->pSt (mM s.fLabel) L=(0,s):=by
   intro b hb hB
   unfold pSt
   rw [if_neg (by rw [e1];decide),hB,hb]
   simp only [ne_eq,not_true_eq_false,if_false]
   rw [hE _ rfl]
   cases s
   simp only at hsub
   subst hsub
   rfl
  refine fin _ rfl ?_
  unfold kR
  rw [p6]
  simp only [ne_eq,not_true_eq_false,if_false]
  unfold Gs
  cases hp:s.fHasPattern with
  | false=>
   obtain ⟨f1,f2⟩:=h.p0 hp
   rw [if_pos (by
    rcases f2 with f2 | ⟨q,f2⟩
    ·exact .inl f2
    ·exact .inr (by rw [f2];rfl)),<-f1,hR _ rfl rfl rfl (by rw [f1];omega) (by rw [f1];exact ok1),oz q2 hp]
   rfl
  | true=>
   obtain ⟨f1,f2,f3,f4⟩:=h.p1 hp
   obtain ⟨ok2,len2⟩:=BP f4 ok1
   have hb:bfr L1=true:=by
    cases L1 with
    | nil=>cases f1
    | cons t q=>exact f3 t q rfl
   rw [if_neg (by rw [f1,f2];simp),if_neg (by rw [hb];decide)]
   unfold Gr
   rw [vC (by omega) ok1 (by omega) (by omega) f4 (pn q2 hp)]
   simp only [ne_eq,not_true_eq_false,if_false]
   rw [hR _ rfl rfl rfl (by omega) ok2]
end Go.Dv.U

namespace Go.Dv.U
open Go Go.Dv Go.Proofs
theorem xY {x:List UInt8} (h:(eG x).2.2=0):Sc true x (eG x).1/\(∀ t∈(eG x).1,tOk t)/\(eG x).1.length<=120:=by
 obtain ⟨_,_,h1⟩:=y5 h
 obtain ⟨_,h2,h3,_⟩:=zM (x:=x) (L:=(eG x).1) (e:=(eG x).2.1) (by rw [<-h])
 exact ⟨h1,h2,h3⟩
theorem BT {s:List UInt8} (h:a6 s=true):hasB (ib 32) s=false/\mw s=false:=by
 obtain ⟨h1,b,r,rfl,_⟩:=ug h
 have h2:∀ b:UInt8,bI (ib b)=true->¬ ib b=32:=dH (by decide +kernel)
 refine ⟨?_,?_⟩
 ·simp only [hasB,List.any_eq_false,beq_iff_eq]
  intro c hc e
  exact h2 c (h1 c hc) (by rw [e];decide)
 ·have:=h2 b (h1 b (by simp))
  simp only [mw,beq_eq_false_iff_ne]
  rintro rfl
  exact this (by decide)
theorem zS {s:ab} (h:io s=true):¬ (s.fLabel=[]/\s.fHasSubject=false/\dT s.fGoto=true):=by
 rintro ⟨h1,h2,h3⟩
 unfold io at h
 simp [h1,h2,h3] at h
theorem xZ {s:ab} (hv:da s=true):BS (cf s)=(s,0):=by
  obtain ⟨⟨_,hpl,_⟩,_⟩:=C8 hv
  have hv0:=hv
  unfold da at hv
  simp only [Bool.and_eq_true_iff,decide_eq_true_eq,beq_iff_eq] at hv
  obtain ⟨hf,hl,hsc⟩:=hv
  obtain ⟨k1,k2,k3⟩:=xY hsc
  obtain ⟨L1,L2,L3,hst⟩:=DK hf k1
  have hp:=FN hf hst k3 k2
  have hne:=zS hf
  obtain ⟨hlab,_⟩:=eS hf
  have key:∀ (lab:List UInt8),lab=s.fLabel->(if mw (cf s)=true then [] else (Lib.cut (cf s) [32]).1)=lab->(mw (cf s)=false->a6 lab=true)->BS (cf s)=(s,0):=by
    intro lab e1 e2 e3
    subst e1
    unfold BS
    rw [if_neg (by rw [hpl];simp;omega)]
    simp only [e2]
    rw [if_neg (by rintro ⟨a,b⟩;rw [e3 a] at b;cases b)]
    have hd:(cf s).drop s.fLabel.length=jv s:=by unfold cf;simp
    rw [hd,if_neg (by rw [hsc];decide),hp]
    simp only [ne_eq,not_true_eq_false,if_false]
    rw [if_neg hne,if_pos hv0]
  by_cases hl0:s.fLabel=[]
  · have:∃ r,jv s=32:: r:=by
      rcases pk s with h | h
      · exfalso
        apply hne
        unfold jv qq at h
        simp only [List.append_eq_nil_iff] at h
        obtain ⟨⟨h1,_⟩,_,h3⟩:=h
        refine ⟨hl0,?_,?_⟩
        · cases hs:s.fHasSubject with
          | false=>rfl
          | true=>rw [if_pos hs] at h1;simp at h1
        · by_cases hg:cz s.fGoto=[]
          · exact (lL _).1 hg
          · rw [if_neg hg] at h3;simp at h3
      · exact h
    obtain ⟨r,hr⟩:=this
    have hs:mw (cf s)=true:=by unfold cf;rw [hl0,hr];rfl
    exact key [] hl0.symm (by rw [if_pos hs]) fun h=>by rw [hs] at h;cases h
  · have hn:a6 s.fLabel=true:=by
      rw [DI,if_neg hl0] at hlab
      exact hlab
    obtain ⟨h1,h2⟩:=BT hn
    have hs:mw (cf s)=false:=by
      unfold cf
      cases hq:s.fLabel with
      | nil=>exact absurd hq hl0
      | cons b q=>rw [hq] at h2;exact h2
    refine key s.fLabel rfl ?_ fun _=>hn
    rw [if_neg (by rw [hs];decide)]
    unfold cf
    rcases pk s with h | ⟨r,h⟩
    · rw [h,List.append_nil,De h1]
    · rw [h,ER h1]
theorem zT {t:List UInt8} (h:(BS t).2=0):da (BS t).1=true:=by
 revert h
 unfold BS
 split
 ·intro h;simp at h
 generalize (if mw t=true then [] else (Lib.cut t [32]).1)=lab
 simp only
 split
 ·intro h;simp at h
 split
 ·intro h;rename_i h2;exact absurd h h2
 split
 ·intro h;rename_i h2;exact absurd h h2
 split
 ·intro h;simp at h
 split
 ·intro _;assumption
 ·intro h;simp at h
end Go.Dv.U
