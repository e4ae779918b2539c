/- Plain laws about these equations. -/
import Derived.Test.YtpjcbihleclioaaGreatDoorFnStmtRoundPua
set_option linter.all false
set_option linter.unusedVariables false
set_option linter.unusedSimpArgs false
namespace Go.Dv.U
open Go Go.Dv Go.Proofs
def pL (s:ab):List UInt8×Bool×Int×Int×List UInt8×List aa×Bool×Int×Int×List UInt8×List aa×Bool×Int×Int×List UInt8×List aa×List UInt8×List UInt8×List UInt8×Unit:=
 (s.fLabel,s.fHasSubject,s.fSubject.fKind,s.fSubject.fNum,s.fSubject.fText,s.fSubject.fKids,s.fHasPattern,s.fPattern.fKind,s.fPattern.fNum,s.fPattern.fText,s.fPattern.fKids,s.fHasReplace,s.fReplace.fKind,s.fReplace.fNum,s.fReplace.fText,s.fReplace.fKids,s.fGoto.fAlways,s.fGoto.fSuccess,s.fGoto.fFailure,())
def bx2 (T:List ae) (a:Int) (s:ab):=(((T,a,()),pL s,()):(List ae×Int×Unit)×(List UInt8×Bool×Int×Int×List UInt8×List aa×Bool×Int×Int×List UInt8×List aa×Bool×Int×Int×List UInt8×List aa×List UInt8×List UInt8×List UInt8×Unit)×Unit)
theorem vD {T:List ae} {a:Nat} (ha:a<=T.length):dt T a=some (fC (T.drop a)):=by
 rw [oU,sR ha]
 rcases pm ha with ⟨e0,e⟩ | ⟨t,hlt,hi,e,_⟩
 ·rw [if_pos (by simp [am,e0]),e];rfl
 ·rw [if_neg (by simp [am];omega),e]
  simp only [Option.bind_some,aU,fC]
  by_cases h:t.fKind=10<;>simp [h]
theorem sT {T:List ae} {a:Nat} (hok:∀ t∈T,tOk t) (ha:a<=T.length):dR T a=some (ip (T.drop a)).isSome/\∀ q,ip (T.drop a)=some q->a<T.length/\q=T.drop (a+1):=by
 rw [mo,sR ha]
 rcases pm ha with ⟨e0,e⟩ | ⟨t,hlt,hi,e,hm⟩
 ·rw [e];exact ⟨rfl,fun q h=>by cases h⟩
 ·rw [e]
  refine ⟨?_,fun q h=>⟨hlt,?_⟩⟩
  ·simp only [aU,ip,hi]
   by_cases h4:t.fKind=4
   ·simp only [h4,if_true,Option.isSome_some,Option.bind_some,uh (hok t hm)]
    cases hI:kQ t with
    | false=>simp
    | true=>by_cases h:t.fText=[61]<;>simp [h]
   ·have hI:kQ t=false:=by unfold kQ;simp [h4]
    simp [h4,hI]
  ·simp only [ip] at h
   split at h
   ·cases h;rfl
   ·cases h
theorem ya {T:List ae} (hT:T.length<=120) (hok:∀ t∈T,tOk t) {a:Nat} (ha:a<=T.length) {n:Nat} (h1:1<=n) (h6:n<=6):
  ∃ x c a',fw n (T.drop a)=(c,x,T.drop a')/\a'<=T.length/\cM n T a=some ((x,c),bx T a'):=by
 rw [qf]
 rcases zR hT hok ha h1 h6 with ⟨x,a',e1,h2,_,e2⟩ | ⟨c,b,hc,e1,e2⟩
 ·rw [e2]
  exact ⟨x,0,a',e1,h2,by simp [bx,aa.eta]⟩
 ·rw [e2]
  refine ⟨jw,c,a,e1,ha,?_⟩
  simp only [Option.bind_some]
  rw [if_neg (by simpa using hc)]
  simp [bx,jw]
theorem DM {T:List ae} (hT:T.length<=120) (hok:∀ t∈T,tOk t) {a:Nat} (ha:a<=T.length) (s:ab):
  ∃ a':Nat,a'<=T.length/\(BQ s (T.drop a)).2.2=T.drop a'/\cV T a s.fLabel s.fHasSubject s.fSubject.fKind s.fSubject.fNum s.fSubject.fText s.fSubject.fKids s.fHasPattern s.fPattern.fKind s.fPattern.fNum s.fPattern.fText s.fPattern.fKids s.fHasReplace s.fReplace.fKind s.fReplace.fNum s.fReplace.fText s.fReplace.fKids s.fGoto.fAlways s.fGoto.fSuccess s.fGoto.fFailure =
   some ((BQ s (T.drop a)).1,bx2 T a' (BQ s (T.drop a)).2.1):=by
 obtain ⟨h1,h2⟩:=sT hok ha
 rw [mq,h1]
 unfold BQ
 cases hq:ip (T.drop a) with
 | none=>exact ⟨a,ha,rfl,by simp [bx2,pL]⟩
 | some q=>
  obtain ⟨hlt,rfl⟩:=h2 q hq
  have w:w64 ((a:Int)+1)=((a+1:Nat):Int):=B9 (by omega) hlt
  simp only [Option.isSome_some,Option.bind_some,Bool.not_true,Bool.false_eq_true,if_false,w,vD (show a+1<=T.length by omega)]
  cases hE:fC (T.drop (a+1)) with
  | true=>exact ⟨a+1,by omega,by simp,by simp [bx2,pL]⟩
  | false=>
   simp only [Bool.false_eq_true,if_false]
   obtain ⟨x,c,a',e1,h3,e2⟩:=ya hT hok (a:=a+1) (by omega) (n:=1) (by omega) (by omega)
   have e2:cM 1 T ((a+1:Nat):Int)=_:=e2
   rw [e2,e1]
   exact ⟨a',h3,rfl,by simp [bx2,pL,bx]⟩
theorem ET {T:List ae} (hT:T.length<=120) (hok:∀ t∈T,tOk t) {a:Nat} (ha:a<=T.length) (s:ab):
  ∃ a':Nat,a'<=T.length/\(kR s (T.drop a)).2.2=T.drop a'/\eK T a s.fLabel s.fHasSubject s.fSubject.fKind s.fSubject.fNum s.fSubject.fText s.fSubject.fKids s.fHasPattern s.fPattern.fKind s.fPattern.fNum s.fPattern.fText s.fPattern.fKids s.fHasReplace s.fReplace.fKind s.fReplace.fNum s.fReplace.fText s.fReplace.fKids s.fGoto.fAlways s.fGoto.fSuccess s.fGoto.fFailure =
   some ((kR s (T.drop a)).1,bx2 T a' (kR s (T.drop a)).2.1):=by
 obtain ⟨x,c,a1,e1,h1,e2⟩:=ya hT hok ha (n:=6) (by omega) (by omega)
 have e2:cM 6 T (a:Int)=_:=e2
 rw [nf,e2]
 unfold kR
 rw [e1]
 simp only [Option.bind_some,bx]
 by_cases hc:c=0
 ·subst hc
  simp only [bne_self_eq_false,Bool.false_eq_true,if_false,ne_eq,not_true_eq_false]
  obtain ⟨k1,k2⟩:=sT hok h1
  rw [vD h1,k1]
  unfold Gs
  have rep:=fun s=>DM hT hok h1 s
  cases hE:fC (T.drop a1) with
  | true=>
   simp only [Option.bind_some,Bool.not_true,Bool.false_eq_true,if_false,true_or,if_true]
   exact rep {s with fHasSubject:=true,fSubject:=x}
  | false=>
   cases hA:(ip (T.drop a1)).isSome with
   | true=>
    simp only [Option.bind_some,Bool.not_false,Bool.not_true,Bool.false_eq_true,if_false,or_true,if_true]
    exact rep {s with fHasSubject:=true,fSubject:=x}
   | false=>
    simp only [Option.bind_some,Bool.not_false,Bool.false_eq_true,if_false,or_self,if_true]
    rcases pm h1 with ⟨e0,e⟩ | ⟨t,hlt,hi,e,hm⟩
    ·rw [e] at hE;cases hE
    ·rw [hi,e]
     have hbf:bfr (t:: T.drop (a1+1))=t.fBefore:=rfl
     rw [hbf]
     simp only [Option.bind_some]
     by_cases hB:t.fBefore=true
     ·simp only [hB,Bool.not_true,Bool.false_eq_true,if_false,Bool.true_eq_false]
      rw [<-e]
      obtain ⟨y,d,a2,e3,h3,e4⟩:=ya hT hok h1 (n:=1) (by omega) (by omega)
      have e4:cM 1 T (a1:Int)=_:=e4
      rw [e4]
      unfold Gr
      rw [e3]
      simp only [Option.bind_some,bx]
      by_cases hd:d=0
      ·subst hd
       simp only [bne_self_eq_false,Bool.false_eq_true,if_false,ne_eq,not_true_eq_false]
       exact DM hT hok h3 {s with fHasSubject:=true,fSubject:=x,fHasPattern:=true,fPattern:=y}
      ·have hd2:(d !=0)=true:=by simpa using hd
       simp only [hd2,hd,if_true,ne_eq,not_false_eq_true]
       exact ⟨a2,h3,rfl,by simp [bx2,pL]⟩
     ·have hB':t.fBefore=false:=by simpa using hB
      simp only [hB',Bool.not_false,if_true]
      exact ⟨a1,h1,e.symm,by simp [bx2,pL]⟩
 ·have hc2:(c !=0)=true:=by simpa using hc
  simp only [hc2,hc,if_true,ne_eq,not_false_eq_true]
  exact ⟨a1,h1,rfl,by simp [bx2,pL]⟩
theorem DN {T:List ae} (hT:T.length<=120) {a:Nat} (ha:a<=T.length) (s:ab) (o:Option (Int×((List ae×Int×Unit)×(List UInt8×Bool×Int×Int×List UInt8×List aa×Bool×Int×Int×List UInt8×List aa×Bool×Int×Int×List UInt8×List aa×List UInt8×List UInt8×List UInt8×Unit)×Unit)))
  (ho:o=(aV 10 T a).bind fun r198=>if Prod.fst r198=true then (dm (Prod.fst (Prod.fst (Prod.snd r198))) (Prod.fst (Prod.snd (Prod.fst (Prod.snd r198))))).bind fun r196=>aY (Prod.snd (Prod.fst r196)) (Prod.fst (Prod.fst (Prod.snd r196))) (Prod.fst (Prod.snd (Prod.fst (Prod.snd r196)))) s.fLabel s.fHasSubject s.fSubject.fKind s.fSubject.fNum s.fSubject.fText s.fSubject.fKids s.fHasPattern s.fPattern.fKind s.fPattern.fNum s.fPattern.fText s.fPattern.fKids s.fHasReplace s.fReplace.fKind s.fReplace.fNum s.fReplace.fText s.fReplace.fKids (ax.fAlways (Prod.fst (Prod.fst r196))) (ax.fSuccess (Prod.fst (Prod.fst r196))) (ax.fFailure (Prod.fst (Prod.fst r196)))
   else aY true (Prod.fst (Prod.fst (Prod.snd r198))) (Prod.fst (Prod.snd (Prod.fst (Prod.snd r198)))) s.fLabel s.fHasSubject s.fSubject.fKind s.fSubject.fNum s.fSubject.fText s.fSubject.fKids s.fHasPattern s.fPattern.fKind s.fPattern.fNum s.fPattern.fText s.fPattern.fKids s.fHasReplace s.fReplace.fKind s.fReplace.fNum s.fReplace.fText s.fReplace.fKids s.fGoto.fAlways s.fGoto.fSuccess s.fGoto.fFailure):
  ∃ (b:Int) (s':ab),o=some ((BR s (T.drop a)).1,bx2 T b s')/\((BR s (T.drop a)).1=0->s'=(BR s (T.drop a)).2):=by
 subst ho
 have fin:∀ (a':Nat),a'<=T.length->∀ (c:Bool),((a':Int)==len T)=c->(T.drop a'=[]↔c=true):=by
  intro a' h c hc
  have hl:=cY T h
  subst hc
  rw [beq_iff_eq,am]
  constructor
  ·intro e;rw [e] at hl;simp at hl;omega
  ·intro e;exact List.eq_nil_of_length_eq_zero (by omega)
 unfold BR
 rcases i7 (by omega) ha 10 with ⟨e1,hlt,e2⟩ | ⟨e1,e2⟩
 ·rw [e1,e2]
  simp only [Option.bind_some,bx,if_true]
  rcases GZ (f:=(T.drop (a+1)).length+4) (T:=T) (by omega) (a:=a+1) (by omega) (by omega) with ⟨g,a',e3,h3,e4⟩ | ⟨e3,g,b,e4⟩
  ·rw [e3,e4]
   simp only [Option.bind_some,bx,cy,if_true,g8]
   have h5:=fin a' h3 _ rfl
   rcases Bool.eq_false_or_eq_true ((a':Int)==len T) with hc | hc
   ·have hy:=h5.2 hc
    simp only [hc,hy,if_true]
    exact ⟨a',{s with fGoto:=g},rfl,fun _=>rfl⟩
   ·have hn:¬ T.drop a'=[]:=fun e=>by rw [h5.1 e] at hc;cases hc
    simp only [hc,hn,Bool.false_eq_true,if_false]
    exact ⟨a',{s with fGoto:=g},rfl,fun _=>rfl⟩
  ·rw [e3,e4]
   simp only [Option.bind_some,cy,Bool.false_eq_true,if_false,g8]
   exact ⟨b,{s with fGoto:=g},rfl,fun h=>by simp at h⟩
 ·rw [e1,e2]
  simp only [Option.bind_some,bx,Bool.false_eq_true,if_false,cy,if_true,g8]
  have h5:=fin a ha _ rfl
  rcases Bool.eq_false_or_eq_true ((a:Int)==len T) with hc | hc
  ·have hy:=h5.2 hc
   simp only [hc,hy,if_true]
   exact ⟨a,s,rfl,fun _=>rfl⟩
  ·have hn:¬ T.drop a=[]:=fun e=>by rw [h5.1 e] at hc;cases hc
   simp only [hc,hn,Bool.false_eq_true,if_false]
   exact ⟨a,s,rfl,fun _=>rfl⟩
theorem wX {T:List ae} (hT:T.length<=120) (hok:∀ t∈T,tOk t) (s:ab):
  ∃ (b:Int) (s':ab),cL T 0 s.fLabel s.fHasSubject s.fSubject.fKind s.fSubject.fNum s.fSubject.fText s.fSubject.fKids s.fHasPattern s.fPattern.fKind s.fPattern.fNum s.fPattern.fText s.fPattern.fKids s.fHasReplace s.fReplace.fKind s.fReplace.fNum s.fReplace.fText s.fReplace.fKids s.fGoto.fAlways s.fGoto.fSuccess s.fGoto.fFailure =
   some ((pSt s T).1,bx2 T b s')/\((pSt s T).1=0->s'=(pSt s T).2):=by
 have hE:=vD (T:=T) (a:=0) (Nat.zero_le _)
 rw [List.drop_zero] at hE
 have hE:dt T 0=some (fC T):=hE
 rw [jq,hE]
 unfold pSt
 simp only [Option.bind_some]
 cases he:fC T with
 | true=>
  simp only [Bool.not_true,Bool.false_eq_true,if_false,if_true]
  have:=DN hT (a:=0) (Nat.zero_le _) s _ rfl
  rw [List.drop_zero] at this
  exact this
 | false=>
  simp only [Bool.not_false,Bool.false_eq_true,if_false,if_true]
  obtain ⟨a',h1,e1,e2⟩:=ET hT hok (a:=0) (Nat.zero_le _) s
  rw [List.drop_zero] at e1 e2
  have e2:eK T 0 _ _ _ _ _ _ _ _ _ _ _ _ _ _ _ _ _ _ _=_:=e2
  rw [e2,e1]
  simp only [Option.bind_some]
  by_cases hc:(kR s T).1=0
  ·rw [if_neg (by simpa using hc),if_neg (by simpa using hc)]
   exact DN hT h1 (kR s T).2.1 _ rfl
  ·rw [if_pos (by simpa using hc),if_pos hc]
   exact ⟨a',(kR s T).2.1,rfl,fun _=>rfl⟩
end Go.Dv.U

namespace Go.Dv.U
open Go Go.Dv Go.Proofs
theorem BU (a b:Int):rR [a,b]=some (if a≠0 then a else b):=by
 have w1:w64 (0+1)=1:=aS (by omega) (by omega)
 have w2:w64 (1+1)=2:=aS (by omega) (by omega)
 have l2:len ([a,b]:List Int)=2:=rfl
 rw [ub,dS,l2,if_pos (by decide),jD]
 simp only [List.getElem?_cons_zero,Option.bind_some,w1]
 by_cases ha:a=0
 ·rw [if_neg (by simpa using ha),if_neg (by simpa using ha),dS,if_pos (by decide),oK]
  simp only [List.getElem?_cons_succ,List.getElem?_cons_zero,Option.bind_some,w2]
  by_cases hb:b=0
  ·rw [if_neg (by simpa using hb),dS,if_neg (by decide),hb]
  ·rw [if_pos (by simpa using hb)]
 ·rw [if_pos (by simpa using ha),if_pos ha]
def SB (s:ab):Prop:=s.fSubject.m<=72000/\s.fPattern.m<=72000/\s.fReplace.m<=72000
def SmT (ts:List ae):Prop:=ts.length<=120/\∀ t∈ts,t.fText.length<=200
theorem wY : jw.m=0:=by unfold jw;rw [nB];rfl
theorem vE {ts:List ae} (h:SmT ts) (n:Nat):(fw n ts).2.1.m<=72000/\SmT (fw n ts).2.2:=by
 unfold fw
 cases hp:pP (zP n ts) (.ex n) ts with
 | none=>exact ⟨by rw [wY];omega,h⟩
 | some p=>
  obtain ⟨x,r⟩:=p
  obtain ⟨h1,h2⟩:=EP _ _ _ _ _ hp h.2
  have hl:=BI _ _ _ _ _ hp
  have:=h.1
  simp only [Md.mR,Md.m0] at h2
  simp only
  split
  ·exact ⟨by show x.m<=72000;omega,by show r.length<=120;omega,fun t ht=>h.2 t (h1 t ht)⟩
  ·exact ⟨by show jw.m<=72000;rw [wY];omega,h⟩
theorem Df {ts q:List ae} (h:SmT ts) (he:ip ts=some q):SmT q:=by
 cases ts with
 | nil=>cases he
 | cons t l=>
  simp only [ip] at he
  split at he
  ·cases he
   have:=h.1
   simp only [List.length_cons] at this
   exact ⟨by omega,fun u hu=>h.2 u (List.mem_cons_of_mem _ hu)⟩
  ·cases he
theorem BV {s:ab} {ts:List ae} (hs:SB s) (h:SmT ts):SB (BQ s ts).2.1/\(BQ s ts).2.1.fLabel=s.fLabel:=by
 unfold BQ
 cases he:ip ts with
 | none=>exact ⟨hs,rfl⟩
 | some q=>
  simp only
  split
  ·exact ⟨⟨hs.1,hs.2.1,by rw [nB];simp [aA]⟩,rfl⟩
  ·exact ⟨⟨hs.1,hs.2.1,(vE (Df h he) 1).1⟩,rfl⟩
theorem Dg {s:ab} {ts:List ae} (hs:SB s) (h:SmT ts):SB (kR s ts).2.1/\(kR s ts).2.1.fLabel=s.fLabel:=by
 obtain ⟨h1,h2⟩:=vE h 6
 have hs1:SB {s with fHasSubject:=true,fSubject:=(fw 6 ts).2.1}:=⟨h1,hs.2.1,hs.2.2⟩
 unfold kR
 split
 ·exact ⟨hs1,rfl⟩
 unfold Gs
 split
 ·exact BV hs1 h2
 split
 ·exact ⟨hs1,rfl⟩
 obtain ⟨h3,h4⟩:=vE h2 1
 unfold Gr
 split
 ·exact ⟨⟨h1,h3,hs.2.2⟩,rfl⟩
 ·exact BV (s:={s with fHasSubject:=true,fSubject:=(fw 6 ts).2.1,fHasPattern:=true,fPattern:=(fw 1 (fw 6 ts).2.2).2.1}) ⟨h1,h3,hs.2.2⟩ h4
theorem BW {s:ab} {ts:List ae} (hs:SB s):SB (BR s ts).2/\(BR s ts).2.fLabel=s.fLabel:=by
 unfold BR
 split
 ·split
  ·exact ⟨hs,rfl⟩
  ·exact ⟨hs,rfl⟩
 ·exact ⟨hs,rfl⟩
theorem DO {s:ab} {ts:List ae} (hs:SB s) (h:SmT ts):SB (pSt s ts).2/\(pSt s ts).2.fLabel=s.fLabel:=by
 unfold pSt
 split
 ·exact BW hs
 obtain ⟨h1,h2⟩:=Dg hs h
 split
 ·exact ⟨h1,h2⟩
 ·obtain ⟨h3,h4⟩:=BW (ts:=(kR s ts).2.2) h1
  exact ⟨h3,h4.trans h2⟩
theorem yb (lab:List UInt8):SB (mM lab):=⟨by show jw.m<=_;rw [wY];omega,by show jw.m<=_;rw [wY];omega,by show jw.m<=_;rw [wY];omega⟩
def Gt (lab rest:List UInt8):ab×Int:=
 let k:=eG rest
 if k.2.2≠0 then (mM [],k.2.2)
 else
  let p:=pSt (mM lab) k.1
  if p.1≠0 then (mM [],p.1) else if p.2.fLabel=[]/\p.2.fHasSubject=false/\dT p.2.fGoto=true then (mM [],2)
  else if da p.2=true then (p.2,0) else (mM [],6)
def EU (c:Int) (b:Bool) (s:ab):ab×Int:=if c≠0 then (mM [],c) else if b=false then (mM [],2) else if da s=true then (s,0) else (mM [],6)
theorem DP (c:Int) (b:Bool) (x2:List UInt8) (x3:Bool) (x4 x5:Int) (x6:List UInt8) (x7:List aa) (x8:Bool) (x9 x10:Int) (x11:List UInt8) (x12:List aa) (x13:Bool) (x14 x15:Int) (x16:List UInt8) (x17:List aa) (x18 x19 x20:List UInt8) (s:ab) (hs:c=0->SB s):
  aN c b x2 x3 x4 x5 x6 x7 x8 x9 x10 x11 x12 x13 x14 x15 x16 x17 x18 x19 x20 s.fLabel s.fHasSubject s.fSubject.fKind s.fSubject.fNum s.fSubject.fText s.fSubject.fKids s.fHasPattern s.fPattern.fKind s.fPattern.fNum s.fPattern.fText s.fPattern.fKids s.fHasReplace s.fReplace.fKind s.fReplace.fNum s.fReplace.fText s.fReplace.fKids s.fGoto.fAlways s.fGoto.fSuccess s.fGoto.fFailure =
   some (EU c b s):=by
 unfold EU
 have es:ab.mk s.fLabel s.fHasSubject (aa.mk s.fSubject.fKind s.fSubject.fNum s.fSubject.fText s.fSubject.fKids) s.fHasPattern (aa.mk s.fPattern.fKind s.fPattern.fNum s.fPattern.fText s.fPattern.fKids) s.fHasReplace (aa.mk s.fReplace.fKind s.fReplace.fNum s.fReplace.fText s.fReplace.fKids) (ax.mk s.fGoto.fAlways s.fGoto.fSuccess s.fGoto.fFailure)=s:=by
  simp only [aa.eta]
 have ez:∀ d:Int,(ab.mk [] false (aa.mk (Int.ofNat 0) (Int.ofNat 0) [] []) false (aa.mk (Int.ofNat 0) (Int.ofNat 0) [] []) false (aa.mk (Int.ofNat 0) (Int.ofNat 0) [] []) (ax.mk [] [] []),d)=(mM [],d):=fun d=>rfl
 rw [ii,g8,es]
 by_cases hc:c=0
 ·subst hc
  have hs:=hs rfl
  cases b with
  | false=>
   simp only [Bool.false_eq_true,if_false,Option.bind_some,BU,ez]
   rfl
  | true=>
   simp only [if_true,Option.bind_some,BU]
   rw [ic (by have:=hs.1;omega) (by have:=hs.2.1;omega) (by have:=hs.2.2;omega)]
   simp only [Option.bind_some,ez]
   cases da s<;>simp
 ·have:∀ d:Int,(if c≠0 then c else d)=c:=fun d=>if_pos hc
  have hb:(if b=true then some (0:Int) else some 2)=some (if b=true then 0 else 2):=by cases b<;>rfl
  rw [hb]
  simp only [Option.bind_some,BU,this,ez]
  rw [if_pos (by simpa using hc),if_pos hc]
theorem G0 (s:ab) (c:Int):(if (!s.fLabel==[])=true then some (EU c true s) else if s.fHasSubject=true then some (EU c true s) else some (EU c (!(s.fGoto.fAlways==[]&&(s.fGoto.fSuccess==[]&&(s.fGoto.fFailure==[]&&true)))) s)) =
  some (if c≠0 then (mM [],c) else if s.fLabel=[]/\s.fHasSubject=false/\dT s.fGoto=true then (mM [],2) else if da s=true then (s,0) else (mM [],6)):=by
 have hg:(s.fGoto.fAlways==[]&&(s.fGoto.fSuccess==[]&&(s.fGoto.fFailure==[]&&true)))=dT s.fGoto:=by
  unfold dT;rw [Bool.and_true,Bool.and_assoc]
 rw [hg]
 unfold EU
 by_cases hc:c=0
 ·by_cases h1:s.fLabel=[]
  ·cases h2:s.fHasSubject<;>cases h3:dT s.fGoto<;>simp [hc,h1]
  ·simp [hc,h1]
 ·simp only [hc,ne_eq,not_false_eq_true,if_true]
  split
  ·rfl
  ·split<;>rfl
theorem FO {lab rest:List UInt8} (hr:rest.length<=4000) (x1:List UInt8) (x2:Bool) (x3 x4:Int) (x5:List UInt8) (x6:List aa) (x7:Bool) (x8 x9:Int) (x10:List UInt8) (x11:List aa) (x12:Bool) (x13 x14:Int) (x15:List UInt8) (x16:List aa) (x17 x18 x19:List UInt8):
  cA rest x1 x2 x3 x4 x5 x6 x7 x8 x9 x10 x11 x12 x13 x14 x15 x16 x17 x18 x19 lab false 0 0 [] [] false 0 0 [] [] false 0 0 [] [] [] [] []=some (Gt lab rest):=by
 rw [iU,lI (by omega)]
 simp only [Option.bind_some]
 unfold Gt
 by_cases hk:(eG rest).2.2=0
 ·obtain ⟨_,k2,k3⟩:=xY hk
  have hk2:((eG rest).2.2==0)=true:=by simpa using hk
  obtain ⟨b,s',e1,e2⟩:=wX (T:=(eG rest).1) k3 k2 (mM lab)
  have e1:cL (eG rest).1 0 lab false 0 0 [] [] false 0 0 [] [] false 0 0 [] [] [] [] []=_:=e1
  have hsm:=DO (yb lab) (ts:=(eG rest).1) ⟨k3,fun t ht=>vB (k2 t ht)⟩
  have hs':(pSt (mM lab) (eG rest).1).1=0->SB s':=fun h=>by rw [e2 h];exact hsm.1
  simp only [hk2,if_true,e1,Option.bind_some,bx2,pL,DP _ _ _ _ _ _ _ _ _ _ _ _ _ _ _ _ _ _ _ _ _ s' hs',hk,ne_eq,not_true_eq_false,if_false]
  refine (G0 s' _).trans ?_
  by_cases hc:(pSt (mM lab) (eG rest).1).1=0
  ·rw [e2 hc]
  ·simp only [hc,ne_eq,not_false_eq_true,if_true]
 ·have hk2:((eG rest).2.2==0)=false:=by simpa using hk
  have L:∀ b:Bool,aN (eG rest).2.2 b x1 x2 x3 x4 x5 x6 x7 x8 x9 x10 x11 x12 x13 x14 x15 x16 x17 x18 x19 lab false 0 0 [] [] false 0 0 [] [] false 0 0 [] [] [] [] []=some (mM [],(eG rest).2.2):=fun b=>by
   have:=DP (eG rest).2.2 b x1 x2 x3 x4 x5 x6 x7 x8 x9 x10 x11 x12 x13 x14 x15 x16 x17 x18 x19 (mM lab) (fun h=>absurd h hk)
   unfold EU at this
   rw [if_pos hk] at this
   exact this
  simp only [hk2,Bool.false_eq_true,if_false,L,hk,ne_eq,not_false_eq_true,if_true]
  split
  ·rfl
  ·rfl
theorem BX (s:List UInt8):BS s=if 4000<s.length\/ei s=false then (mM [],1) else if mw s=false/\a6 (if mw s=true then [] else (Lib.cut s [32]).1)=false then (mM [],2) else Gt (if mw s=true then [] else (Lib.cut s [32]).1) (s.drop (if mw s=true then [] else (Lib.cut s [32]).1).length):=rfl
theorem fR {s:List UInt8} (h:s.length<=1000000000):dl s=some (BS s):=by
 rw [mZ,BX]
 by_cases hl:4000<s.length
 ·rw [if_pos (by simp [am];omega),if_pos (.inl hl)];rfl
 rw [if_neg (by simp [am];omega),gl (by omega)]
 simp only [Option.bind_some]
 cases hp:ei s with
 | false=>rw [if_pos (by rfl),if_pos (.inr rfl)];rfl
 | true=>
  have hf:dN s [32]=some (mw s):=by
   rw [vt];cases s<;>rfl
  rw [if_neg (by decide),if_neg (by simp;omega),hf]
  simp only [Option.bind_some]
  cases hs:mw s with
  | true=>
   simp only [Bool.not_true,Bool.false_eq_true,if_false,if_true,Bool.true_eq_false,false_and]
   exact FO (by omega) _ _ _ _ _ _ _ _ _ _ _ _ _ _ _ _ _ _ _
  | false=>
   have hcl:(Lib.cut s [32]).1.length<=s.length:=by
    unfold Lib.cut
    split
    ·simp only [List.length_take];omega
    ·exact Nat.le_refl _
   simp only [Bool.not_false,if_true,Bool.false_eq_true,if_false,true_and]
   unfold CW
   rw [if_pos (by omega)]
   simp only [Option.bind_some,Option.getD_none,am]
   rw [nT hcl (Nat.le_refl _),lJ]
   simp only [Option.bind_some,List.take_length]
   cases hn:a6 (Lib.cut s [32]).1 with
   | false=>rfl
   | true=>
    simp only [Bool.not_true,Bool.false_eq_true,if_false,Bool.true_eq_false]
    exact FO (by rw [List.length_drop];omega) _ _ _ _ _ _ _ _ _ _ _ _ _ _ _ _ _ _ _
end Go.Dv.U

namespace Go.Dv.U
open Go Go.Dv Go.Proofs
theorem iL (xs:List (List UInt8)) (hx:xs≠[]) (hl:∀ t∈xs,t.length<=20) {c:List Int} {a s B:Int} (h:gK c a B) (hB:B<=4611686018427387000):Dr (aK xs c a s) (B+2) (fun v=>v.length<=20):=
 (kD xs hx h hB).le (Int.le_refl _) fun v hv=>hl v hv
theorem my (k n:Int) (t:List UInt8) (ks:List aa):(aa.mk k n t ks).m=t.length+(ks.length+aA aa.m ks):=aa.m_eq _
theorem BY (e:aa):aa.mk e.fKind e.fNum e.fText e.fKids=e:=by cases e;rfl
theorem fq {c:List Int} {a s B:Int} (h:gK c a B) (hB:B<=4611686018427380000) (x3 x4:Int) (x5:List UInt8) (x6:List aa):Dr (eW c a s x3 x4 x5 x6) (B+10) (fun e=>e.m<=20):=by
 rw [r4]
 refine (iL _ (by simp) (by decide) h (by omega)).bind fun v c a s h hv=>?_
 exact Dr.some (h.le (by omega)) (by rw [my];simp [aA];omega)
theorem lN {c:List Int} {a s B:Int} (x0:Int) (h:gK c a B) (hB:B<=4611686018427380000) (x3 x4:Int) (x5:List UInt8) (x6:List aa):Dr (iy x0 c a s x3 x4 x5 x6) (B+10) (fun e=>e.m<=20):=by
 rw [r5]
 split
 ·refine (jt _ (by simp) h (by omega)).bind fun v c a s h hv=>?_
  exact Dr.some (h.le (by omega)) (by rw [my];simp [aA])
 split
 ·refine (jt _ (by simp) h (by omega)).bind fun v c a s h hv=>?_
  exact Dr.some (h.le (by omega)) (by rw [my];simp [aA])
 split
 ·refine (aM _ h (by omega)).bind fun v c a s h hv=>?_
  simp only
  refine (iL _ (by simp) (by decide) h (by omega)).bind fun v c a s h hv=>?_
  exact Dr.some (h.le (by omega)) (by rw [my];simp [aA];omega)
 ·refine (iL _ (by simp) (by decide) h (by omega)).bind fun v c a s h hv=>?_
  exact Dr.some (h.le (by omega)) (by rw [my];simp [aA];omega)
theorem Dh (l:List aa) (e:aa):aA aa.m (l++[e])=aA aa.m l+e.m:=by
 induction l with
 | nil=>simp [aA]
 | cons y r ih=>simp only [List.cons_append,aA,ih];omega
theorem qt (n:Nat) (p:Nat) (hp:1<=p) (hp2:p<=1000) (ih:∀ {c:List Int} {a s B:Int},gK c a B->B+100*p<=4611686018427000000->Dr (cu (n:Int) c a s) (B+100*p) (fun e=>e.m<=40*p)) (hn:n<=100) (x5 x6:Int) (x7:List UInt8) (x8:List aa) (x9 x10:Int) (x11:List UInt8) (h11:x11.length<=20):
  ∀ (k:Nat) {c:List Int} {a s B:Int} (acc:List aa),gK c a B->B+100*p*k<=4611686018427000000->acc.length+k<=2->aA aa.m acc+40*p*k<=80*p->Dr (gB ((n+1:Nat):Int) (k:Int) c a s x5 x6 x7 x8 x9 x10 x11 acc) (B+100*p*k) (fun e=>e.m<=80*p+22):=by
 intro k
 induction k with
 | zero=>
  intro c a s B acc h hB hl hm
  rw [kB,if_neg (by simp)]
  exact Dr.some (h.le (by simp)) (by rw [my];omega)
 | succ k ihk=>
  intro c a s B acc h hB hl hm
  have e1:100*(p:Int)*((k+1:Nat):Int)=100*p*k+100*p:=by
   rw [show ((k+1:Nat):Int)=(k:Int)+1 by omega,Int.mul_add,Int.mul_one]
  have e2:40*p*(k+1)=40*p*k+40*p:=by rw [Nat.mul_add,Nat.mul_one]
  have e3:0<=100*(p:Int)*(k:Int):=Int.mul_nonneg (by omega) (by omega)
  rw [e1] at hB ⊢
  rw [e2] at hm
  rw [kB,if_pos (by simp only [decide_eq_true_eq];omega)]
  have w1:w64 (((n+1:Nat):Int)-1)=(n:Int):=by rw [aS (by omega) (by omega)];omega
  have w2:w64 (((k+1:Nat):Int)-1)=(k:Int):=by rw [aS (by omega) (by omega)];omega
  rw [w1,w2]
  refine (ih h (by omega)).bind fun v c a s h hv=>?_
  simp only
  rw [av (by simp;omega)]
  simp only [Option.bind_some]
  refine (ihk (acc++[v]) h (by omega) (by simp;omega) (by rw [Dh];omega)).le (by omega) fun _ h=>h
theorem pM : ∀ (n p:Nat),n<=3->p=4 ^ n->∀ {c:List Int} {a s B:Int},gK c a B->B+100*p<=4611686018427000000->Dr (cu (n:Int) c a s) (B+100*p) (fun e=>e.m<=40*p):=by
 intro n
 induction n with
 | zero=>
  intro p _ hp c a s B h hB
  have hp1:p=1:=by simpa using hp
  subst hp1
  rw [pI,if_pos (by simp)]
  refine (aM _ h (by omega)).bind fun v c a s h hv=>?_
  simp only
  split
  ·exact (fq h (by omega) _ _ _ _).le (by omega) fun e he=>by omega
  split
  ·exact (fq h (by omega) _ _ _ _).le (by omega) fun e he=>by omega
  ·exact (lN _ h (by omega) _ _ _ _).le (by omega) fun e he=>by omega
 | succ n ihn=>
  intro P hn hP c a s B h hB
  have hP2:P=4*4 ^ n:=by rw [hP,Nat.pow_succ];omega
  have hpos:1<=4 ^ n:=by
   rcases Nat.eq_zero_or_pos (4 ^ n) with e | e
   ·simp at e
   ·exact e
  have hle:4 ^ n<=16:=Nat.pow_le_pow_right (n:=4) (by omega) (show n<=2 by omega)
  have ih:=@ihn (4 ^ n) (by omega) rfl
  generalize 4 ^ n=p at hP2 hpos hle ih
  have w1:w64 (((n+1:Nat):Int)-1)=(n:Int):=by rw [aS (by omega) (by omega)];omega
  rw [pI,if_neg (by simp;omega),w1]
  refine (dG _ h (by omega)).bind fun v c a s h _=>?_
  simp only
  split
  ·refine (aM _ h (by omega)).bind fun v c a s h hv=>?_
   simp only
   split
   ·exact (fq h (by omega) _ _ _ _).le (by omega) fun e he=>by omega
   split
   ·exact (fq h (by omega) _ _ _ _).le (by omega) fun e he=>by omega
   ·exact (lN _ h (by omega) _ _ _ _).le (by omega) fun e he=>by omega
  ·refine (ih h (by omega)).bind fun A c a s h hA=>?_
   simp only
   refine (aM _ h (by omega)).bind fun v c a s h hv=>?_
   simp only [BY]
   split
   ·refine (aM _ h (by omega)).bind fun v c a s h hv=>?_
    simp only [BY,aa.re_eq]
    exact Dr.some (h.le (by omega)) (by rw [my];simp [aA];omega)
   split
   ·refine (aM _ h (by omega)).bind fun v c a s h hv=>?_
    simp only
    refine (iL _ (by simp) (by decide) h (by omega)).bind fun v c a s h hv=>?_
    simp only [ls,Option.bind_some,BY,aa.re_eq]
    exact Dr.some (h.le (by omega)) (by rw [my];simp [aA,my];omega)
   split
   ·refine (iL _ (by simp) (by decide) h (by omega)).bind fun t c a s h ht=>?_
    simp only
    refine (aM _ h (by omega)).bind fun v c a s h hv=>?_
    simp only
    obtain ⟨k,rfl⟩:∃ k:Nat,v=k:=⟨v.toNat,by omega⟩
    have hk:k<=2:=by have:=hv.2.1 (by decide);omega
    have e1:100*(p:Int)*(k:Int)<=200*p:=by
     have:100*(p:Int)*(k:Int)<=100*p*2:=Int.mul_le_mul_of_nonneg_left (by omega) (by omega)
     omega
    have e2:40*p*k<=80*p:=by
     have:40*p*k<=40*p*2:=Nat.mul_le_mul_left _ hk
     omega
    refine (qt n p hpos (by omega) ih (by omega) _ _ _ _ _ _ _ ht k [] h (by omega) (by simp;omega) (by simpa [aA] using e2)).le (by omega) fun e he=>by omega
   split
   ·refine (ih h (by omega)).bind fun D c a s h hD=>?_
    simp only [ls,Option.bind_some,BY,aa.re_eq]
    exact Dr.some (h.le (by omega)) (by rw [my];simp [aA];omega)
   ·refine (aM _ h (by omega)).bind fun v c a s h hv=>?_
    simp only
    refine (ih h (by omega)).bind fun D c a s h hD=>?_
    simp only [ls,Option.bind_some,BY,aa.re_eq]
    exact Dr.some (h.le (by omega)) (by rw [my];simp [aA];omega)
theorem Di {c:List Int} {a s B:Int} (h:gK c a B) (hB:B<=4611686018426990000):Dr (cu 2 c a s) (B+6400) (fun e=>e.fText.length+(e.fKids.length+aA aa.m e.fKids)<=2560):=
 (pM 2 16 (by omega) rfl h (by omega)).le (by omega) fun e he=>by rw [<-aa.m_eq];omega
theorem Dj {c:List Int} {a s B:Int} (h:gK c a B) (hB:B<=4611686018426990000):Dr (cu 3 c a s) (B+6400) (fun e=>e.fText.length+(e.fKids.length+aA aa.m e.fKids)<=2560):=
 (pM 3 64 (by omega) rfl h (by omega)).le (by omega) fun e he=>by rw [<-aa.m_eq];omega
theorem iM {c:List Int} {a s B:Int} (h:gK c a B) (hB:B<=4611686018427300000):Dr (bK c a s) (B+2) (fun v=>v.length<=20):=by
 rw [oP]
 refine (iL _ (by simp) (by decide) h (by omega)).bind fun v c a s h hv=>?_
 exact Dr.some h hv
theorem EV {c:List Int} {a s B:Int} (h:gK c a B) (hB:B<=4611686018427200000):Dr (jF c a s) (B+20) (fun g=>g.fAlways.length<=20/\g.fSuccess.length<=20/\g.fFailure.length<=20):=by
 rw [pV]
 refine (aM _ h (by omega)).bind fun v c a s h hv=>?_
 simp only
 split
 ·refine (iM h (by omega)).bind fun v c a s h hv=>?_
  exact Dr.some (h.le (by omega)) ⟨hv,by simp,by simp⟩
 split
 ·refine (iM h (by omega)).bind fun v c a s h hv=>?_
  exact Dr.some (h.le (by omega)) ⟨by simp,hv,by simp⟩
 split
 ·refine (iM h (by omega)).bind fun v c a s h hv=>?_
  exact Dr.some (h.le (by omega)) ⟨by simp,by simp,hv⟩
 split
 ·refine (iM h (by omega)).bind fun v c a s h hv=>?_
  simp only
  refine (iM h (by omega)).bind fun u c a s h hu=>?_
  exact Dr.some (h.le (by omega)) ⟨by simp,hv,hu⟩
 split
 ·refine (dG _ h (by omega)).bind fun v c a s h _=>?_
  simp only
  split
  ·refine (iM h (by omega)).bind fun v c a s h hv=>?_
   simp only
   refine (iM h (by omega)).bind fun u c a s h hu=>?_
   exact Dr.some (h.le (by omega)) ⟨hv,by simp,hu⟩
  ·exact Dr.some (h.le (by omega)) ⟨by simp,by simp,by simp⟩
 ·exact Dr.some (h.le (by omega)) ⟨by simp,by simp,by simp⟩
end Go.Dv.U

namespace Go.Dv.U
open Go Go.Dv Go.Proofs
set_option maxHeartbeats 8000000 in
theorem pN {c:List Int} {a s B:Int} (h:gK c a B) (hB:B<=4611686018426900000):Dr (nV c a s) (B+30000) (fun x=>x.m<=9000):=by
 rw [ww]
 refine (EV h (by omega)).bind fun g c a s h hg=>?_
 dsimp only
 obtain ⟨hg1,hg2,hg3⟩:=hg
 repeat' first
  | (rw [p8];exact Dr.some (h.le (by omega)) (by simp only [ab.m_eq,my,ax.m_eq,aA,List.length_nil];omega))
  | (rw [nh];exact Dr.some (h.le (by omega)) (by simp only [ab.m_eq,my,ax.m_eq,aA,List.length_nil];omega))
  | (rw [ni];exact Dr.some (h.le (by omega)) (by simp only [ab.m_eq,my,ax.m_eq,aA,List.length_nil];omega))
  | (rw [nj];exact Dr.some (h.le (by omega)) (by simp only [ab.m_eq,my,ax.m_eq,aA,List.length_nil];omega))
  | (rw [nk];exact Dr.some (h.le (by omega)) (by simp only [ab.m_eq,my,ax.m_eq,aA,List.length_nil];omega))
  | rw [pX]
  | rw [na]
  | rw [nb]
  | rw [nc]
  | rw [nd]
  | rw [pW]
  | rw [m9]
  | (refine (dG _ h (by omega)).bind fun v c a s h _=>?_;dsimp only)
  | (refine (aM _ h (by omega)).bind fun v c a s h _=>?_;dsimp only)
  | (refine (iM h (by omega)).bind fun v c a s h hv=>?_;dsimp only)
  | (refine (iL _ (by simp) (by decide) h (by omega)).bind fun v c a s h hv=>?_;dsimp only)
  | (refine (Di h (by omega)).bind fun v c a s h hv=>?_;dsimp only)
  | (refine (Dj h (by omega)).bind fun v c a s h hv=>?_;dsimp only)
  | split
def BZ (xs:List ab) (n:Nat):Prop:=xs.length<=n/\aA ab.m xs<=10000*xs.length
theorem BZ.le {xs:List ab} {n m:Nat} (h:BZ xs n) (hm:n<=m):BZ xs m:=⟨by have:=h.1;omega,h.2⟩
theorem BZ.prog {xs:List ab} (h:BZ xs 90):(aT.mk xs).m<=1000000:=by
 rw [aT.m_eq]
 have h1:=h.1
 have h2:=h.2
 show xs.length+aA ab.m xs<=_
 omega
end Go.Dv.U

namespace Go.Dv.U
open Go Go.Dv Go.Proofs
theorem EW : ∀ (N:Nat) (e:aa),e.m<N->N<=1100000->nZ e.fKind e.fNum e.fText e.fKids e.fKind e.fNum e.fText e.fKids=some true:=by
 intro N
 induction N with
 | zero=>intro e h;omega
 | succ N ih=>
  intro e h hN
  have hm:=e.m_eq
  rw [pJ,if_neg (by simp),if_neg (by simp),if_neg (by simp),if_neg (by simp),lw]
  refine db (xs:=e.fKids) (by omega) (P:=fun i _=>iC e.fKind e.fNum e.fText e.fKids e.fKind e.fNum e.fText e.fKids (i:Int)=some true) ?_ ?_
  ·rw [hC,if_neg (by simp [am])]
  ·intro i y l _ hlt hy hi hw ih2
   have:=k8 (m:=aa.m) hy
   have hpos:0<e.fKids.length:=List.length_pos_of_mem hy
   rw [hC,if_pos (by simp [am];omega),hi]
   simp only [Option.bind_some]
   rw [ih y (by omega) (by omega)]
   simp only [Option.bind_some,Bool.not_true,Bool.false_eq_true,if_false,hw]
   exact ih2
theorem y6 {s:ab} (h1:s.fSubject.m<=1048576) (h2:s.fPattern.m<=1048576) (h3:s.fReplace.m<=1048576):fc s s=some true:=by
 have key:∀ e:aa,e.m<=1048576->gN (aa.mk e.fKind e.fNum e.fText e.fKids) (aa.mk e.fKind e.fNum e.fText e.fKids)=some true:=by
  intro e he
  rw [aa.eta,oe,EW 1048577 e (by omega) (by omega)];rfl
 rw [od,if_neg (by simp),if_neg (by simp),if_neg (by simp),if_neg (by simp),if_neg (by simp),lr,key _ h1,key _ h2,key _ h3]
 rfl
theorem B0 (x:ab):ab.mk x.fLabel x.fHasSubject (aa.mk x.fSubject.fKind x.fSubject.fNum x.fSubject.fText x.fSubject.fKids) x.fHasPattern (aa.mk x.fPattern.fKind x.fPattern.fNum x.fPattern.fText x.fPattern.fKids) x.fHasReplace (aa.mk x.fReplace.fKind x.fReplace.fNum x.fReplace.fText x.fReplace.fKids) x.fGoto=x:=by
 simp only [aa.eta]
theorem FP (x:ab):ab.mk x.fLabel x.fHasSubject x.fSubject x.fHasPattern x.fPattern x.fHasReplace x.fReplace x.fGoto=x:=rfl
theorem B1 {x:ab} {n:Nat} (h:x.m<=n):x.fSubject.m<=n/\x.fPattern.m<=n/\x.fReplace.m<=n:=by
 have:=x.m_eq;omega
theorem vF {s:ab} (h:da s=true):(cf s).length<=4000:=by
 unfold da at h
 simp only [Bool.and_eq_true_iff,decide_eq_true_eq] at h
 exact h.2.1
theorem vG {t:List UInt8} (hl:t.length<=4000) (hne:t≠[]) {c:List Int} {a s B:Int} (h:gK c a B) (hB:B<=4611686018427000000):∃ u,bH t c a s=some u/\u.length<=10000:=by
 have hpos:0<t.length:=List.length_pos_iff.2 hne
 rw [gZ]
 obtain ⟨v,c1,a1,s1,e1,h1,hv⟩:=aM (s:=s) (len t) h (by omega)
 rw [e1]
 simp only [Option.bind_some]
 obtain ⟨w,c2,a2,s2,e2,h2,hw⟩:=aM (s:=s1) 4 h1 (by omega)
 rw [e2]
 simp only [Option.bind_some]
 obtain ⟨k,rfl⟩:∃ k:Nat,v=k:=⟨v.toNat,by omega⟩
 have hk:k<t.length:=by
  have q1:=hv.2.1
  have q2:=hv.2.2
  rw [am] at q1 q2
  by_cases h1:1<(t.length:Int)
  ·have:=q1 h1;omega
  ·have:=q2 (by omega);omega
 have w1:w64 ((k:Int)+1)=((k+1:Nat):Int):=by rw [aS (by omega) (by omega)];omega
 have c1:cut t 0 (k:Int)=some ((t.take k).drop 0):=nT (a:=0) (by omega) (by omega)
 have c2:cut t ((k+1:Nat):Int) (t.length:Int)=some ((t.take t.length).drop (k+1)):=nT (by omega) (Nat.le_refl _)
 have c3:cut t (k:Int) (t.length:Int)=some ((t.take t.length).drop k):=nT (by omega) (Nat.le_refl _)
 simp only [Option.getD_some,Option.getD_none,am,w1,c1,c2,c3,Option.bind_some,List.drop_zero,List.take_length]
 have l1:(t.take k).length<=4000:=by rw [List.length_take];omega
 have l2:(t.drop (k+1)).length<=4000:=by rw [List.length_drop];omega
 have l3:(t.drop k).length<=4000:=by rw [List.length_drop];omega
 split
 ·rw [av (by omega)]
  exact ⟨_,rfl,by rw [List.length_append];omega⟩
 split
 ·obtain ⟨x,c3,a3,s3,e3,h3,hx⟩:=iL (s:=s2) [[32],[61],[58],[40],[39],[46]] (by simp) (by decide) h2 (by omega)
  rw [e3]
  simp only [Option.bind_some]
  rw [av (by omega)]
  simp only [Option.bind_some]
  rw [av (by rw [List.length_append];omega)]
  exact ⟨_,rfl,by simp only [List.length_append];omega⟩
 split
 ·exact ⟨_,rfl,by omega⟩
 ·rw [av (by simp;omega)]
  simp only [Option.bind_some]
  rw [av (by simp;omega)]
  exact ⟨_,rfl,by simp only [List.length_append,List.length_cons,List.length_nil];omega⟩
theorem B2 {x:List Int} (hx:k7 x):∃ t,d8 x=some t/\t.length<=10000:=by
 rw [jV]
 obtain ⟨v,c,a,s,e,h,_⟩:=dG (s:=0) 4 (c:=x) (a:=0) (B:=0) ⟨hx.2,hx.1,by omega,by omega⟩ (by omega)
 rw [e]
 simp only [Option.bind_some]
 split
 ·obtain ⟨t,c2,a2,s2,e2,_,ht⟩:=kD (s:=s) [[32,65,32,61],[76],[76,32],[32,58,40,76,41],[32,65,32,66,32,61,67],[32,65,32,61,32,58,83,40,76,41],[76,32,65,58,70,40,77,41,83,40,76,41],[32,65,32,58,83,40,76,41,83,40,77,41],[32,65,40,66,41],[32,65,32,40,66,41],[32,65,32,45,66],[32,65,32,45,32,66],[32,40,65,32,66,41,32,67,32,61,32,68,32,58,40,69,78,68,41],[32,79,85,84,80,85,84,32,61,32,39,97,59,98,39],[32,65,32,66,32,67,32,68,32,61,32,69,32,58,70,40,76,41],[32,65,32,58,71,40,76,41],[32,61,32,66],[32,65,32,61,32,61,32,66],[32,65,60,49,62,32,61,32,50],[49,32,65],[32,65,32,58,40,32,76,32,41],[32,65,32,58,32,83,32,40,32,76,32,41,32,70,32,40,32,77,32,41]] (by simp) h (by omega)
  rw [e2]
  have hall:∀ y∈([[32,65,32,61],[76],[76,32],[32,58,40,76,41],[32,65,32,66,32,61,67],[32,65,32,61,32,58,83,40,76,41],[76,32,65,58,70,40,77,41,83,40,76,41],[32,65,32,58,83,40,76,41,83,40,77,41],[32,65,40,66,41],[32,65,32,40,66,41],[32,65,32,45,66],[32,65,32,45,32,66],[32,40,65,32,66,41,32,67,32,61,32,68,32,58,40,69,78,68,41],[32,79,85,84,80,85,84,32,61,32,39,97,59,98,39],[32,65,32,66,32,67,32,68,32,61,32,69,32,58,70,40,76,41],[32,65,32,58,71,40,76,41],[32,61,32,66],[32,65,32,61,32,61,32,66],[32,65,60,49,62,32,61,32,50],[49,32,65],[32,65,32,58,40,32,76,32,41],[32,65,32,58,32,83,32,40,32,76,32,41,32,70,32,40,32,77,32,41]]:List (List UInt8)),y.length<=100:=by decide
  exact ⟨t,rfl,by have:=hall t ht;omega⟩
 ·obtain ⟨x,c2,a2,s2,e2,h2,hm⟩:=pN (s:=s) h (by omega)
  rw [e2]
  obtain ⟨m1,m2,m3⟩:=B1 hm
  simp only [Option.bind_some,B0]
  rw [eT (by omega) (by omega) (by omega)]
  simp only [Option.bind_some]
  have fin:∀ (t:List UInt8),t.length<=4000->∃ u,((aP 3 c2 a2 s2).bind fun r194=>if (Prod.fst r194)=true then a7 t else if (t==[])=true then a7 t else bH t (Prod.fst (Prod.fst (Prod.snd r194))) (Prod.fst (Prod.snd (Prod.fst (Prod.snd r194)))) (Prod.fst (Prod.snd (Prod.snd (Prod.fst (Prod.snd r194))))))=some u/\u.length<=10000:=by
   intro t ht
   obtain ⟨v,c3,a3,s3,e3,h3,_⟩:=dG (s:=s2) 3 h2 (by omega)
   rw [e3]
   simp only [Option.bind_some]
   split
   ·rw [dX];exact ⟨t,rfl,by omega⟩
   split
   ·rw [dX];exact ⟨t,rfl,by omega⟩
   ·rename_i hne
    exact vG ht (by simpa using hne) h3 (by omega)
  cases hv:da x with
  | true=>
   simp only [Bool.not_true,Bool.false_eq_true,if_false]
   rw [ko (sP hv)]
   exact fin _ (vF hv)
  | false=>
   simp only [Bool.not_false,if_true]
   have hL:io ⟨[76],false,⟨0,0,[],[]⟩,false,⟨0,0,[],[]⟩,false,⟨0,0,[],[]⟩,⟨[],[],[]⟩⟩=true:=by decide
   have ep:gM (ab.mk [76] false (aa.mk (Int.ofNat 0) (Int.ofNat 0) [] []) false (aa.mk (Int.ofNat 0) (Int.ofNat 0) [] []) false (aa.mk (Int.ofNat 0) (Int.ofNat 0) [] []) (ax.mk [] [] []))=some (cf ⟨[76],false,⟨0,0,[],[]⟩,false,⟨0,0,[],[]⟩,false,⟨0,0,[],[]⟩,⟨[],[],[]⟩⟩):=ko hL
   rw [ep]
   exact fin _ (by decide)
theorem EX (t:List UInt8):SB (BS t).1:=by
 have hz:SB (mM []):=yb []
 rw [BX]
 split
 ·exact hz
 generalize (if mw t=true then [] else (Lib.cut t [32]).1)=lab
 split
 ·exact hz
 unfold Gt
 simp only
 split
 ·exact hz
 rename_i hk
 have hk:(eG (t.drop lab.length)).2.2=0:=by simpa using hk
 obtain ⟨_,k2,k3⟩:=xY hk
 split
 ·exact hz
 split
 ·exact hz
 split
 ·exact (DO (yb lab) ⟨k3,fun t ht=>vB (k2 t ht)⟩).1
 ·exact hz
theorem sU {x:List Int} (hx:k7 x):dM x=some true:=by
 rw [mg]
 obtain ⟨t,e,ht⟩:=B2 hx
 rw [e]
 simp only [Option.bind_some]
 rw [fR (by omega)]
 simp only [Option.bind_some,B0]
 have hs:=EX t
 by_cases h0:(BS t).2=0
 ·rw [if_neg (by simpa using h0)]
  have hv:=zT h0
  rw [ie (by have:=hs.1;omega) (by have:=hs.2.1;omega) (by have:=hs.2.2;omega),if_pos hv]
  simp only [Option.bind_some]
  rw [fR (by have:=vF hv;omega),xZ hv]
  simp only [Option.bind_some,beq_self_eq_true,if_true]
  rw [eT (by have:=hs.1;omega) (by have:=hs.2.1;omega) (by have:=hs.2.2;omega),hv]
  simp only [Option.bind_some,if_true,B0]
  rw [y6 (by have:=hs.1;omega) (by have:=hs.2.1;omega) (by have:=hs.2.2;omega)]
  rfl
 ·rw [if_pos (by simpa using h0)]
theorem Dk {s:ab} (hv:da s=true):cf s≠[]:=by
 intro e
 have h1:=xZ hv
 rw [e] at h1
 have h2:(BS []).2=2:=by decide
 rw [h1] at h2
 cases h2
theorem qu {x y:List Int} (hx:k7 x) (hy:k7 y):jE x y=some true:=by
 rw [pT,rU,rU]
 simp only [Option.bind_some]
 split
 ·rfl
 split
 ·rfl
 rw [jU]
 obtain ⟨p,c,a,s,e,_,hp⟩:=pN (c:=x) (a:=0) (s:=0) (B:=0) ⟨hx.2,hx.1,by omega,by omega⟩ (by omega)
 rw [e]
 obtain ⟨m1,m2,m3⟩:=B1 hp
 simp only [Option.bind_some,B0,aa.re_eq,FP]
 rw [ie (by omega) (by omega) (by omega)]
 simp only [Option.bind_some]
 cases hv:da p with
 | false=>
  simp only [Bool.false_eq_true,if_false,beq_self_eq_true,if_true]
  rw [eT (by omega) (by omega) (by omega),hv]
  simp only [Option.bind_some,Bool.false_eq_true,if_false]
  exact sU hy
 | true=>
  have hne:=Dk hv
  have hb:(cf p==[])=false:=by simpa using hne
  simp only [if_true,hb,Bool.false_eq_true,if_false]
  rw [fR (by have:=vF hv;omega),xZ hv]
  simp only [Option.bind_some,bne_self_eq_false,Bool.false_eq_true,if_false,B0]
  rw [y6 (by omega) (by omega) (by omega)]
  simp only [Option.bind_some,Bool.not_true,Bool.false_eq_true,if_false]
  exact sU hy
end Go.Dv.U
