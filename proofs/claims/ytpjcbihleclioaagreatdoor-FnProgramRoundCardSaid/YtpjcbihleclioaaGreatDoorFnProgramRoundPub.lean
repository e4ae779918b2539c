/- Plain laws about these equations. -/
import Derived.Test.YtpjcbihleclioaaGreatDoorFnProgramRoundPua
set_option linter.all false
set_option linter.unusedVariables false
set_option linter.unusedSimpArgs false
namespace Go.Dv.U
open Go Go.Dv Go.Proofs
theorem pZ (k n:Int) (t:List UInt8) (ks:List ab):(ab.mk k n t ks).m=t.length+(ks.length+aG ab.m ks):=ab.m_eq _
theorem Fa (l:List ab) (e:ab):aG ab.m (l++[e])=aG ab.m l+e.m:=by
 induction l with
 | nil=>simp [aG]
 | cons y r ih=>simp only [List.cons_append,aG,ih];omega
def Md.m0 : Md->Nat
 | .lp _ l=>l.m+10
 | .ix e=>e.m+10
 | .ar acc=>acc.length+aG ab.m acc
 | _=>0
def Md.mR : Md->ab->Nat
 | .ar _,x=>x.m
 | _,x=>x.m+10
theorem Iw {n:Nat} {ts r:List ae} {k:Int} (h:inf n ts=some (k,r)):∀ t∈r,t∈ts:=by
 cases ts with
 | nil=>cases h
 | cons t q=>
  simp only [inf] at h
  split at h
  ·split at h
   ·cases h;exact fun t h=>h
   ·cases h
  ·split at h
   ·cases h;exact fun t h=>List.mem_cons_of_mem _ h
   ·cases h
theorem jg {k:Int} {ts r:List ae} (h:a6 k ts=some r):∀ t∈r,t∈ts:=by
 cases ts with
 | nil=>cases h
 | cons t q=>
  simp only [a6] at h
  split at h
  ·cases h;exact fun t h=>List.mem_cons_of_mem _ h
  ·cases h
theorem xD {ts r:List ae} {s:List UInt8} (h:eP ts=some (s,r)):(∀ t∈r,t∈ts)/\∃ t∈ts,s=t.fText:=by
 cases ts with
 | nil=>cases h
 | cons t q=>
  simp only [eP] at h
  split at h
  ·cases h;exact ⟨fun t h=>List.mem_cons_of_mem _ h,t,by simp,rfl⟩
  ·cases h
theorem Ix : ∀ (f:Nat) (md:Md) (ts:List ae) (x:ab) (r:List ae),pP f md ts=some (x,r)->(∀ t∈ts,t.fText.length<=200)->(∀ t∈r,t∈ts)/\md.mR x+600*r.length<=md.m0+600*ts.length:=by
 intro f
 induction f with
 | zero=>intro md ts x r h;cases h
 | succ f ih=>
  intro md ts x r h ht
  have bnd:∀ {α:Type} {o:Option α} {g:α->Option (ab×List ae)},o.bind g=some (x,r)->∃ a,o=some a/\g a=some (x,r):=fun h=>Option.bind_eq_some_iff.1 h
  cases md with
  | ex n=>
   rw [pP] at h
   split at h
   ·exact ih .el ts x r h ht
   ·obtain ⟨⟨l,q⟩,h1,h2⟩:=bnd h
    obtain ⟨a1,a2⟩:=ih _ _ _ _ h1 ht
    obtain ⟨b1,b2⟩:=ih _ _ _ _ h2 fun t hq=>ht t (a1 t hq)
    simp only [Md.mR,Md.m0] at *
    exact ⟨fun t hq=>a1 t (b1 t hq),by omega⟩
  | lp n l=>
   rw [pP] at h
   split at h
   ·cases h;simp only [Md.mR,Md.m0];exact ⟨fun t h=>h,Nat.le_refl _⟩
   ·rename_i k q hi
    have hl:=Bi hi
    have hm:=Iw hi
    split at h
    ·obtain ⟨⟨s,q2⟩,h1,h2⟩:=bnd h
     have hl2:=oy h1
     obtain ⟨hm2,t0,ht0,rfl⟩:=xD h1
     have:=ht t0 (hm t0 ht0)
     obtain ⟨b1,b2⟩:=ih _ _ _ _ h2 fun t hq=>ht t (hm t (hm2 t hq))
     simp only [Md.mR,Md.m0,pZ,aG,List.length_cons,List.length_nil] at *
     exact ⟨fun t hq=>hm t (hm2 t (b1 t hq)),by omega⟩
    ·obtain ⟨⟨y,q2⟩,h1,h2⟩:=bnd h
     obtain ⟨a1,a2⟩:=ih _ _ _ _ h1 fun t hq=>ht t (hm t hq)
     obtain ⟨b1,b2⟩:=ih _ _ _ _ h2 fun t hq=>ht t (hm t (a1 t hq))
     simp only [Md.mR,Md.m0,pZ,aG,List.length_cons,List.length_nil] at *
     exact ⟨fun t hq=>hm t (a1 t (b1 t hq)),by omega⟩
  | el=>
   cases ts with
   | nil=>cases h
   | cons t q=>
    have htq:∀ t∈q,t.fText.length<=200:=fun u hu=>ht u (by simp [hu])
    rw [pP] at h
    split at h
    ·split at h
     ·cases h
     split at h
     ·obtain ⟨⟨y,q2⟩,h1,h2⟩:=Option.map_eq_some_iff.1 h
      obtain ⟨a1,a2⟩:=ih _ _ _ _ h1 htq
      cases h2
      simp only [Md.mR,Md.m0,pZ,aG,List.length_cons,List.length_nil] at *
      exact ⟨fun t hq=>by simp [a1 t hq],by omega⟩
     split at h
     ·obtain ⟨⟨y,q2⟩,h1,h2⟩:=Option.map_eq_some_iff.1 h
      obtain ⟨a1,a2⟩:=ih _ _ _ _ h1 htq
      cases h2
      simp only [Md.mR,Md.m0,pZ,aG,List.length_cons,List.length_nil] at *
      exact ⟨fun t hq=>by simp [a1 t hq],by omega⟩
     split at h
     ·obtain ⟨⟨y,q2⟩,h1,h2⟩:=Option.map_eq_some_iff.1 h
      have hl2:=oy h1
      obtain ⟨hm2,t0,ht0,rfl⟩:=xD h1
      have:=htq t0 ht0
      cases h2
      simp only [Md.mR,Md.m0,pZ,aG,List.length_cons,List.length_nil] at *
      exact ⟨fun t hq=>by simp [hm2 t hq],by omega⟩
     ·cases h
    ·obtain ⟨⟨y,q2⟩,h1,h2⟩:=bnd h
     obtain ⟨a1,a2⟩:=ih _ _ _ _ h1 ht
     obtain ⟨b1,b2⟩:=ih _ _ _ _ h2 fun t hq=>ht t (a1 t hq)
     simp only [Md.mR,Md.m0] at *
     exact ⟨fun t hq=>a1 t (b1 t hq),by omega⟩
  | pr =>
   cases ts with
   | nil=>cases h
   | cons t q=>
    have htq:∀ t∈q,t.fText.length<=200:=fun u hu=>ht u (by simp [hu])
    have ht0:=ht t (by simp)
    have tl:∀ u∈q,u∈t:: q:=fun u hu=>List.mem_cons_of_mem _ hu
    rw [pP] at h
    split at h
    ·cases h
     simp only [Md.mR,Md.m0,pZ,aG,List.length_cons,List.length_nil] at *
     exact ⟨tl,by omega⟩
    split at h
    ·cases h
     simp only [Md.mR,Md.m0,pZ,aG,List.length_cons,List.length_nil] at *
     exact ⟨tl,by omega⟩
    split at h
    ·split at h
     ·rename_i r2 _ h5
      have l5:=dd h5
      have m5:=jg h5
      split at h
      ·rename_i r3 h6
       have l6:=dd h6
       have m6:=jg h6
       cases h
       simp only [Md.mR,Md.m0,pZ,aG,List.length_cons,List.length_nil] at *
       exact ⟨fun u hu=>tl u (m5 u (m6 u hu)),by omega⟩
      ·obtain ⟨⟨y,q2⟩,h1,h2⟩:=Option.map_eq_some_iff.1 h
       obtain ⟨a1,a2⟩:=ih _ _ _ _ h1 fun u hu=>htq u (m5 u hu)
       cases h2
       have e:=pZ y.fKind y.fNum y.fText y.fKids
       rw [ab.eta] at e
       simp only [Md.mR,Md.m0,pZ,aG,List.length_cons,List.length_nil] at *
       exact ⟨fun u hu=>tl u (m5 u (a1 u hu)),by omega⟩
     ·cases h
      simp only [Md.mR,Md.m0,pZ,aG,List.length_cons,List.length_nil] at *
      exact ⟨tl,by omega⟩
    split at h
    ·obtain ⟨⟨y,q2⟩,h1,h2⟩:=bnd h
     obtain ⟨q3,h3,h4⟩:=Option.map_eq_some_iff.1 h2
     obtain ⟨a1,a2⟩:=ih _ _ _ _ h1 htq
     have l3:=dd h3
     have m3:=jg h3
     cases h4
     simp only [Md.mR,Md.m0,List.length_cons] at *
     exact ⟨fun u hu=>tl u (a1 u (m3 u hu)),by omega⟩
    ·cases h
  | ix e=>
   cases ts with
   | nil=>cases h;simp only [Md.mR,Md.m0];exact ⟨fun t h=>h,Nat.le_refl _⟩
   | cons t q=>
    have htq:∀ t∈q,t.fText.length<=200:=fun u hu=>ht u (by simp [hu])
    have tl:∀ u∈q,u∈t:: q:=fun u hu=>List.mem_cons_of_mem _ hu
    rw [pP] at h
    split at h
    ·obtain ⟨⟨y,q2⟩,h1,h2⟩:=bnd h
     obtain ⟨q3,h3,h4⟩:=bnd h2
     obtain ⟨a1,a2⟩:=ih _ _ _ _ h1 htq
     have l3:=dd h3
     have m3:=jg h3
     obtain ⟨b1,b2⟩:=ih _ _ _ _ h4 fun u hu=>htq u (a1 u (m3 u hu))
     simp only [Md.mR,Md.m0,pZ,aG,List.length_cons,List.length_nil] at *
     exact ⟨fun u hu=>tl u (a1 u (m3 u (b1 u hu))),by omega⟩
    ·cases h;simp only [Md.mR,Md.m0];exact ⟨fun t h=>h,Nat.le_refl _⟩
  | ar acc=>
   rw [pP] at h
   obtain ⟨⟨y,q2⟩,h1,h2⟩:=bnd h
   obtain ⟨a1,a2⟩:=ih _ _ _ _ h1 ht
   split at h2
   ·rename_i q3 h3
    have l3:=dd h3
    have m3:=jg h3
    obtain ⟨b1,b2⟩:=ih _ _ _ _ h2 fun u hu=>ht u (a1 u (m3 u hu))
    simp only [Md.mR,Md.m0,Fa,List.length_append,List.length_singleton] at *
    exact ⟨fun u hu=>a1 u (m3 u (b1 u hu)),by omega⟩
   ·obtain ⟨q3,h3,h4⟩:=Option.map_eq_some_iff.1 h2
    have l3:=dd h3
    have m3:=jg h3
    cases h4
    simp only [Md.mR,Md.m0,pZ,Fa,List.length_append,List.length_singleton,List.length_nil] at *
    exact ⟨fun u hu=>a1 u (m3 u hu),by omega⟩
theorem yQ {t:ae} (h:tOk t):t.fText.length<=200:=by
 rcases h.2 with h1 | h1 | h1 | h1 | h1
 ·have:=h1.2.2
  cases ht:t.fText with
  | nil=>simp
  | cons b q=>
   rw [ht] at this
   simp only [bi,Bool.and_eq_true,decide_eq_true_eq] at this
   omega
 ·rw [h1.2.1];simp
 ·have:=h1.2.2
  simp only [wo,Bool.and_eq_true,decide_eq_true_eq] at this
  exact this.1.1
 ·obtain ⟨b,hb,_⟩:=h1.2.2
  rw [hb];simp
 ·rw [h1.2.2];simp
end Go.Dv.U

namespace Go.Dv.U
open Go Go.Dv Go.Proofs
def Ans {α:Type} (o:Option ((α×Bool)×((List ae×Int×Unit)×Unit))) (T:List ae) (g:ab->α) (res:Option (ab×List ae)):Prop:=
 (∃ x a',res=some (x,T.drop a')/\a'<=T.length/\o=some ((g x,true),bx T a'))\/(res=none/\∃ (e:α) (b:Int),o=some ((e,false),((T,b,()),())))
def idE (x:ab):ab:=x
theorem Iy (x0:Int) (x1:List ae) (x2 x3 x4:Int) (x5:List UInt8) (x6:List ab) (x7 x8:Int) (x9:List UInt8) (x10:List ab):iy x0 x1 x2 x3 x4 x5 x6 x7 x8 x9 x10=bR x0 x1 x2 x3 x4 x5 x6 x7 x8 x9 x10:=by
 rw [pR,gy]
theorem GJ (x0:Bool) (x1:List ae) (x2 x3 x4:Int) (x5:List UInt8) (x6:List ab) (x7 x8:Int) (x9:List UInt8) (x10:List ab):dQ x0 x1 x2 x3 x4 x5 x6 x7 x8 x9 x10=cc x0 x1 x2 x3 x4 x5 x6 x7 x8 x9 x10:=by
 rw [gw,fp]
 simp only [mM,fq,gk,eO]
theorem GK (s:List UInt8) (T:List ae) (a:Nat) (hT:T.length<=1000) (hlt:a<T.length):kE s T a =
  if s=[45]\/s=[36] then (cz T ((a+1:Nat):Int)).bind fun r=>some ((⟨if s=[45] then 14 else 15,0,[],[r.1.1]⟩,r.1.2),r.2)
  else if uc s=true then (cF T ((a+1:Nat):Int)).bind fun r=>some ((⟨IU s,0,r.1.1,[]⟩,r.1.2),r.2) else some ((lu,false),bx T a):=by
 have s14:uu 14=[45]:=rfl
 have s15:uu 15=[36]:=rfl
 have s16:uu 16=[46]:=rfl
 have s17:uu 17=[42]:=rfl
 have s18:uu 18=[64]:=rfl
 have w14:w64 (14+1)=15:=aR (by omega) (by omega)
 have w15:w64 (15+1)=16:=aR (by omega) (by omega)
 have w16:w64 (16+1)=17:=aR (by omega) (by omega)
 have w17:w64 (17+1)=18:=aR (by omega) (by omega)
 have w18:w64 (18+1)=19:=aR (by omega) (by omega)
 have hp:∀ (r:(ab×Bool)×((List ae×Int×Unit)×Unit)),(((Prod.fst (Prod.fst (Prod.snd r))),(Prod.fst (Prod.snd (Prod.fst (Prod.snd r)))),()),())=r.2:=fun r=>rfl
 rw [r8,b6,if_pos (by decide),dS (by decide) (by decide),ey]
 simp only [Option.bind_some,s14,w14]
 by_cases h1:s=[45]
 ·subst h1
  simp [FC hT hlt,ab.eta]
 rw [if_pos (by simpa using fun e=>h1 e.symm),b6,if_pos (by decide),dS (by decide) (by decide),ey]
 simp only [Option.bind_some,s15,w15]
 by_cases h2:s=[36]
 ·subst h2
  simp [FC hT hlt,ab.eta]
 rw [if_pos (by simpa using fun e=>h2 e.symm),b6,if_pos (by decide),dS (by decide) (by decide),ey]
 simp only [Option.bind_some,s16,w16]
 by_cases h3:s=[46]
 ·subst h3
  simp [FC hT hlt,uc,IU]
 rw [if_pos (by simpa using fun e=>h3 e.symm),b6,if_pos (by decide),dS (by decide) (by decide),ey]
 simp only [Option.bind_some,s17,w17]
 by_cases h4:s=[42]
 ·subst h4
  simp [FC hT hlt,uc,IU]
 rw [if_pos (by simpa using fun e=>h4 e.symm),b6,if_pos (by decide),dS (by decide) (by decide),ey]
 simp only [Option.bind_some,s18,w18]
 by_cases h5:s=[64]
 ·subst h5
  simp [FC hT hlt,uc,IU]
 rw [if_pos (by simpa using fun e=>h5 e.symm),b6,if_neg (by decide)]
 simp [h1,h2,h3,h4,h5,uc,lu,bx]
def Stp (T:List ae) (f:Nat):Md->Nat->Prop
 | .ex n,a=>1<=n->n<=6->Ans (ba n T a) T idE (pP f (.ex n) (T.drop a))
 | .lp n l,a=>1<=n->n<=5->∀ x3 x4 x5 x6,Ans (bR n T a x3 x4 x5 x6 l.fKind l.fNum l.fText l.fKids) T idE (pP f (.lp n l) (T.drop a))
 | .el,a=>Ans (cz T a) T idE (pP f .el (T.drop a))
 | .pr,a=>Ans (dY T a) T idE (pP f .pr (T.drop a))
 | .ix e,a=>∀ x3 x4 x5 x6,Ans (cc true T a x3 x4 x5 x6 e.fKind e.fNum e.fText e.fKids) T idE (pP f (.ix e) (T.drop a))
 | .ar acc,a=>acc.length<=a->Ans (fA T a acc) T ab.fKids (pP f (.ar acc) (T.drop a))
theorem dH (T:List ae) {a:Nat} (h:a<=T.length):(T.drop a).length+a=T.length:=by rw [List.length_drop];omega
theorem KK {T:List ae} (hT:T.length<=1000) (hok:∀ t∈T,tOk t):∀ (f:Nat) (md:Md) (a:Nat),a<=T.length->md.need (T.drop a)<=f->Stp T f md a:=by
 intro f
 induction f with
 | zero=>
  intro md a _ h
  exfalso
  have:0<md.rk:=by cases md<;>simp only [Md.rk]<;>omega
  unfold Md.need at h;omega
 | succ f ih=>
  intro md a ha hf
  have hda:=dH T ha
  have hlen:∀ (md:Md) (b:Nat) (x:ab) (a':Nat),b<=T.length->a'<=T.length->pP f md (T.drop b)=some (x,T.drop a')->b+md.w<=a':=fun md b x a' hb ha' h=>by
   have h1:=E4 f md _ _ _ h
   have h2:=dH T hb
   have h3:=dH T ha'
   omega
  simp only [Md.need] at hf
  cases md with
  | ex n=>
   intro h1 h6
   rw [tV,pP]
   by_cases e6:n=6
   ·subst e6
    rw [if_pos (by decide),if_pos (by omega)]
    rcases ih .el a ha (by simp only [Md.need,Md.rk] at hf ⊢;omega) with ⟨x,a',e1,h2,e2⟩ | ⟨e1,e,b,e2⟩
    ·rw [e1,e2]
     exact .inl ⟨x,a',rfl,h2,by simp only [Option.bind_some,idE,ab.eta,bx]⟩
    ·rw [e1,e2]
     exact .inr ⟨rfl,e,b,by simp only [Option.bind_some,ab.eta]⟩
   ·have w:w64 ((n:Int)+1)=((n+1:Nat):Int):=by rw [aR (by omega) (by omega)];omega
    rw [if_neg (by simp;omega),if_neg (by omega),w]
    rcases ih (.ex (n+1)) a ha (by simp only [Md.need,Md.rk] at hf ⊢;omega) (by omega) (by omega) with ⟨x,a',e1,h2,e2⟩ | ⟨e1,e,b,e2⟩
    ·have hl:=hlen _ _ _ _ ha h2 e1
     have hda':=dH T h2
     rw [e1,e2]
     simp only [Option.bind_some,idE,bx,Bool.not_true,Bool.false_eq_true,if_false,Iy]
     exact ih (.lp n x) a' h2 (by simp only [Md.need,Md.rk,Md.w] at hf hl ⊢;omega) h1 (by omega) _ _ _ _
    ·rw [e1,e2]
     exact .inr ⟨rfl,lu,b,by simp [lu]⟩
  | lp n l=>
   intro h1 h5 x3 x4 x5 x6
   rw [gy,pP]
   rcases GI hT hok ha h1 h5 with ⟨k,a',e1,h2,e2⟩ | ⟨e1,k,e2⟩
   ·rw [e1,e2]
    have hil:=Bi e1
    have hda':=dH T h2
    simp only [Option.bind_some,bx,Bool.not_true,Bool.false_eq_true,if_false]
    by_cases e5:n=5
    ·subst e5
     rw [if_pos (by decide),if_pos rfl]
     rcases yP hT h2 with ⟨s,e3,hlt,e4⟩ | ⟨e3,e4⟩
     ·rw [e3,e4]
      simp only [Option.bind_some,bx,Bool.not_true,Bool.false_eq_true,if_false,ab.eta]
      have hda2:=dH T (a:=a'+1) (by omega)
      exact ih (.lp 5 ⟨k,0,[],[l,⟨3,0,s,[]⟩]⟩) (a'+1) (by omega) (by simp only [Md.need,Md.rk] at hf ⊢;omega) h1 h5 _ _ _ _
     ·rw [e3,e4]
      exact .inr ⟨rfl,lu,a',by simp [bx,lu]⟩
    ·have w:w64 ((n:Int)+1)=((n+1:Nat):Int):=by rw [aR (by omega) (by omega)];omega
     rw [if_neg (by simp;omega),if_neg e5,w]
     rcases ih (.ex (n+1)) a' h2 (by simp only [Md.need,Md.rk] at hf ⊢;omega) (by omega) (by omega) with ⟨x,a2,e3,h3,e4⟩ | ⟨e3,e,b,e4⟩
     ·have hl:=hlen _ _ _ _ h2 h3 e3
      have hda2:=dH T h3
      rw [e3,e4]
      simp only [Option.bind_some,idE,bx,Bool.not_true,Bool.false_eq_true,if_false,ab.eta]
      exact ih (.lp n ⟨k,0,[],[l,x]⟩) a2 h3 (by simp only [Md.need,Md.rk,Md.w] at hf hl ⊢;omega) h1 h5 _ _ _ _
     ·rw [e3,e4]
      exact .inr ⟨rfl,lu,b,by simp [lu]⟩
   ·rw [e1,e2]
    exact .inl ⟨l,a,rfl,ha,by simp [bx,idE,ab.eta]⟩
  | el =>
   show Ans (cz T a) T idE (pP (f+1) .el (T.drop a))
   rw [pQ,wh ha]
   have rest:Ans ((dY T a).bind fun r198=>dQ (Prod.snd (Prod.fst r198)) (Prod.fst (Prod.fst (Prod.snd r198))) (Prod.fst (Prod.snd (Prod.fst (Prod.snd r198)))) 0 0 [] ([]) (ab.fKind (Prod.fst (Prod.fst r198))) (ab.fNum (Prod.fst (Prod.fst r198))) (ab.fText (Prod.fst (Prod.fst r198))) (ab.fKids (Prod.fst (Prod.fst r198)))) T idE ((pP f .pr (T.drop a)).bind fun p=>pP f (.ix p.1) p.2):=by
    rcases ih .pr a ha (by simp only [Md.need,Md.rk] at hf ⊢;omega) with ⟨x,a',e1,h2,e2⟩ | ⟨e1,e,b,e2⟩
    ·have hl:=hlen _ _ _ _ ha h2 e1
     have hda':=dH T h2
     rw [e1,e2]
     simp only [Option.bind_some,idE,bx,GJ]
     exact ih (.ix x) a' h2 (by simp only [Md.need,Md.rk,Md.w] at hf hl ⊢;omega) _ _ _ _
    ·rw [e1,e2]
     refine .inr ⟨rfl,e,b,?_⟩
     simp only [Option.bind_some]
     rw [gw,if_neg (by decide),gk,ab.eta]
   rcases sI ha with ⟨e0,e⟩ | ⟨t,hlt,hi,e,hm⟩
   ·rw [e] at rest ⊢
    simp only [a6,Option.isSome_none,Option.bind_some,Bool.false_eq_true,if_false]
    have:pP f .pr []=none:=by cases f<;>rfl
    rw [this] at rest
    exact rest
   ·rw [e] at rest ⊢
    rw [pP]
    by_cases h4:t.fKind=4
    ·rw [if_pos h4]
     simp only [a6,h4,if_true,Option.isSome_some,Option.bind_some,hi]
     cases hA:t.fAfter with
     | true=>exact .inr ⟨by simp,lu,a,by simp [lu]⟩
     | false=>
      simp only [Bool.false_eq_true,if_false]
      rw [GK _ _ _ hT hlt]
      have hda1:=dH T (a:=a+1) (by omega)
      have hel:=ih .el (a+1) (by omega) (by simp only [Md.need,Md.rk] at hf ⊢;omega)
      have elc:∀ (k:Int),Ans ((cz T ((a+1:Nat):Int)).bind fun r=>some (((⟨k,0,[],[r.1.1]⟩:ab),r.1.2),r.2)) T idE ((pP f .el (T.drop (a+1))).map fun p=>(⟨k,0,[],[p.1]⟩,p.2)):=by
       intro k
       rcases hel with ⟨x,a',e1,h2,e2⟩ | ⟨e1,e,b,e2⟩
       ·rw [e1,e2];exact .inl ⟨_,a',rfl,h2,rfl⟩
       ·rw [e1,e2];exact .inr ⟨rfl,_,b,rfl⟩
      have fin:∀ {o:Option ((ab×Bool)×((List ae×Int×Unit)×Unit))} {res:Option (ab×List ae)},Ans o T idE res->Ans (o.bind fun r196=>some (((ab.mk (ab.fKind (Prod.fst (Prod.fst r196))) (ab.fNum (Prod.fst (Prod.fst r196))) (ab.fText (Prod.fst (Prod.fst r196))) (ab.fKids (Prod.fst (Prod.fst r196)))),(Prod.snd (Prod.fst r196))),(((Prod.fst (Prod.fst (Prod.snd r196))),(Prod.fst (Prod.snd (Prod.fst (Prod.snd r196)))),()),()))) T idE res:=by
       intro o res h
       rcases h with ⟨x,a',e1,h2,e2⟩ | ⟨e1,e,b,e2⟩
       ·rw [e2];exact .inl ⟨x,a',e1,h2,by simp only [Option.bind_some,ab.eta,bx,idE]⟩
       ·rw [e2];exact .inr ⟨e1,e,b,by simp only [Option.bind_some,ab.eta]⟩
      by_cases q1:t.fText=[45]
      ·simp only [q1,true_or,if_true]
       exact fin (elc 14)
      ·by_cases q2:t.fText=[36]
       ·have q3:¬ ([36]:List UInt8)=[45]:=by decide
        simp only [q2,q3,or_true,if_true,if_false]
        exact fin (elc 15)
       ·rw [if_neg (by simp [q1,q2]),if_neg q1,if_neg q2]
        cases hp:uc t.fText with
        | false=>exact .inr ⟨by simp,lu,a,by simp [lu,bx]⟩
        | true=>
         simp only [if_true]
         refine fin ?_
         rcases yP hT (a:=a+1) (by omega) with ⟨s,e3,hlt2,e4⟩ | ⟨e3,e4⟩
         ·rw [e3,e4];exact .inl ⟨_,a+1+1,rfl,by omega,rfl⟩
         ·rw [e3,e4];exact .inr ⟨rfl,_,_,rfl⟩
    ·rw [if_neg h4]
     simp only [a6,h4,if_false,Option.isSome_none,Option.bind_some,Bool.false_eq_true]
     exact rest
  | pr =>
   show Ans (dY T a) T idE (pP (f+1) .pr (T.drop a))
   rw [pS]
   rcases sI ha with ⟨e0,e⟩ | ⟨t,hlt,hi,e,hm⟩
   ·rw [e,if_pos (by simp [aj,e0])]
    exact .inr ⟨rfl,lu,a,by simp [lu]⟩
   ·rw [e,if_neg (by simp [aj];omega),hi,pP]
    have hda1:=dH T (a:=a+1) (by omega)
    simp only [Option.bind_some,FC hT hlt]
    by_cases k3:t.fKind=3
    ·rw [if_pos (by simp [k3]),if_pos k3]
     exact .inl ⟨_,a+1,rfl,by omega,rfl⟩
    rw [if_neg (by simpa using k3),if_neg k3]
    by_cases k2:t.fKind=2
    ·rw [if_pos (by simp [k2]),if_pos k2]
     exact .inl ⟨_,a+1,rfl,by omega,rfl⟩
    rw [if_neg (by simpa using k2),if_neg k2]
    by_cases k1:t.fKind=1
    ·rw [if_pos (by simp [k1]),if_pos k1]
     cases hA:t.fAfter with
     | true=>
      simp only [Bool.not_true,Bool.false_eq_true,if_false]
      exact .inl ⟨_,a+1,rfl,by omega,rfl⟩
     | false=>
      simp only [Bool.not_false,if_true]
      rcases kL hT (a:=a+1) (by omega) 5 with ⟨e1,hlt2,e2⟩ | ⟨e1,e2⟩
      ·rw [e1,e2]
       simp only [Option.bind_some,if_true,bx]
       rw [tW]
       have hda2:=dH T (a:=a+1+1) (by omega)
       rcases kL hT (a:=a+1+1) (by omega) 6 with ⟨e3,hlt3,e4⟩ | ⟨e3,e4⟩
       ·rw [e3,e4]
        exact .inl ⟨_,a+1+1+1,rfl,by omega,rfl⟩
       ·rw [e3,e4]
        simp only [Option.bind_some,Bool.false_eq_true,if_false,bx]
        rcases ih (.ar []) (a+1+1) (by omega) (by simp only [Md.need,Md.rk] at hf ⊢;omega) (by simp) with ⟨x,a',e5,h5,e6⟩ | ⟨e5,ks,b,e6⟩
        ·rw [e5,e6]
         exact .inl ⟨_,a',rfl,h5,rfl⟩
        ·rw [e5,e6]
         exact .inr ⟨rfl,_,b,rfl⟩
      ·rw [e1,e2]
       simp only [Option.bind_some,Bool.false_eq_true,if_false]
       exact .inl ⟨_,a+1,rfl,by omega,rfl⟩
    rw [if_neg (by simpa using k1),if_neg k1]
    by_cases k5:t.fKind=5
    ·rw [if_pos (by simp [k5]),if_pos k5]
     rcases ih (.ex 1) (a+1) (by omega) (by simp only [Md.need,Md.rk] at hf ⊢;omega) (by omega) (by omega) with ⟨x,a',e1,h2,e2⟩ | ⟨e1,e,b,e2⟩
     ·have e2:ba 1 T ((a+1:Nat):Int)=_:=e2
      rw [e1,e2]
      simp only [Option.bind_some,if_true,bx,idE,ab.eta]
      rcases kL hT (a:=a') h2 6 with ⟨e3,hlt3,e4⟩ | ⟨e3,e4⟩
      ·rw [e3,e4]
       exact .inl ⟨_,a'+1,rfl,by omega,rfl⟩
      ·rw [e3,e4]
       exact .inr ⟨rfl,_,_,rfl⟩
     ·have e2:ba 1 T ((a+1:Nat):Int)=_:=e2
      rw [e1,e2]
      exact .inr ⟨rfl,e,b,by simp [ab.eta]⟩
    ·rw [if_neg (by simpa using k5),if_neg k5]
     exact .inr ⟨rfl,lu,a,by simp [lu]⟩
  | ix x0=>
   intro x3 x4 x5 x6
   rw [fp,if_pos rfl,wh ha]
   simp only [Option.bind_some,eO,ab.eta]
   rcases sI ha with ⟨e0,e⟩ | ⟨t,hlt,hi,e,hm⟩
   ·rw [e]
    exact .inl ⟨x0,a,by rw [e];rfl,ha,by simp [a6,idE,bx]⟩
   ·rw [e,pP]
    have hstop:Ans (some ((x0,true),((T,(a:Int),()),()))) T idE (some (x0,t:: T.drop (a+1))):=.inl ⟨x0,a,by rw [e],ha,rfl⟩
    by_cases h7:t.fKind=7
    ·have hE:a6 7 (t:: T.drop (a+1))=some (T.drop (a+1)):=by simp [a6,h7]
     rw [hE]
     simp only [h7,Option.isSome_some,if_true,hi,Option.bind_some]
     cases hB:t.fBefore with
     | true=>
      simp only [Bool.not_true,Bool.false_eq_true,if_false,and_false]
      exact hstop
     | false=>
      simp only [Bool.not_false,if_true,and_self]
      have hda1:=dH T (a:=a+1) (by omega)
      rw [fq,FC hT hlt]
      rcases ih (.ex 1) (a+1) (by omega) (by simp only [Md.need,Md.rk] at hf ⊢;omega) (by omega) (by omega) with ⟨x,a',e1,h2,e2⟩ | ⟨e1,e,b,e2⟩
      ·have e2:ba 1 T ((a+1:Nat):Int)=_:=e2
       have hl:=hlen _ _ _ _ (by omega) h2 e1
       rw [e1,e2]
       simp only [Option.bind_some,bx,idE,ab.eta,Bool.not_true,Bool.false_eq_true,if_false]
       rcases kL hT (a:=a') h2 8 with ⟨e3,hlt3,e4⟩ | ⟨e3,e4⟩
       ·rw [e3,e4]
        simp only [Option.bind_some,bx,Bool.not_true,Bool.false_eq_true,if_false]
        have hda2:=dH T (a:=a'+1) (by omega)
        exact ih (.ix ⟨5,0,[],[x0,x]⟩) (a'+1) (by omega) (by simp only [Md.need,Md.rk,Md.w] at hf hl ⊢;omega) _ _ _ _
       ·rw [e3,e4]
        exact .inr ⟨rfl,lu,a',by simp [bx,lu]⟩
      ·have e2:ba 1 T ((a+1:Nat):Int)=_:=e2
       rw [e1,e2]
       exact .inr ⟨rfl,lu,b,by simp [lu]⟩
    ·have hE:a6 7 (t:: T.drop (a+1))=none:=by simp [a6,h7]
     rw [hE]
     simp only [h7,if_false,false_and,Option.isSome_none,Bool.false_eq_true]
     exact hstop
  | ar acc=>
   intro hacc
   rw [pT,pP]
   rcases ih (.ex 1) a ha (by simp only [Md.need,Md.rk] at hf ⊢;omega) (by omega) (by omega) with ⟨x,a',e1,h2,e2⟩ | ⟨e1,e,b,e2⟩
   ·have e2:ba 1 T (a:Int)=_:=e2
    have hl:=hlen _ _ _ _ ha h2 e1
    have hda':=dH T h2
    rw [e1,e2]
    simp only [Option.bind_some,bx,idE,ab.eta,Bool.not_true,Bool.false_eq_true,if_false]
    rw [av (by simp;omega)]
    simp only [Option.bind_some]
    rcases kL hT (a:=a') h2 9 with ⟨e3,hlt3,e4⟩ | ⟨e3,e4⟩
    ·rw [e3,e4]
     simp only [Option.bind_some,bx,Bool.not_true,Bool.false_eq_true,if_false]
     have hda2:=dH T (a:=a'+1) (by omega)
     exact ih (.ar (acc++[x])) (a'+1) (by omega) (by simp only [Md.need,Md.rk,Md.w] at hf hl ⊢;omega) (by simp only [Md.w,List.length_append,List.length_singleton] at hl ⊢;omega)
    ·rw [e3,e4]
     simp only [Option.bind_some,bx,Bool.not_false,if_true]
     rcases kL hT (a:=a') h2 6 with ⟨e5,hlt5,e6⟩ | ⟨e5,e6⟩
     ·rw [e5,e6]
      exact .inl ⟨_,a'+1,rfl,by omega,rfl⟩
     ·rw [e5,e6]
      exact .inr ⟨rfl,_,_,rfl⟩
   ·have e2:ba 1 T (a:Int)=_:=e2
    rw [e1,e2]
    exact .inr ⟨rfl,[],b,by simp⟩
end Go.Dv.U

namespace Go.Dv.U
open Go Go.Dv Go.Proofs
def C9 (n:Nat) (ts:List ae):Nat:=(Md.ex n).need ts
def gq (n:Nat) (ts:List ae):Int×ab×List ae:=match pP (C9 n ts) (.ex n) ts with
 | none=>(2,lu,ts)
 | some (x,r)=>if x.valid=true then (0,x,r) else (6,lu,ts)
theorem Da {T:List ae} (hT:T.length<=1000) (hok:∀ t∈T,tOk t):bZ T=some true:=by
 rw [fm]
 refine bL (xs:=T) (by omega) (P:=fun i _=>bh T (len T) (i:Int)=some true) ?_ ?_
 ·rw [cr,if_neg (by simp [aj])]
 ·intro i y l _ hlt hy hi hw ih
  rw [cr,if_pos (by simp [aj];omega),hi]
  simp only [Option.bind_some]
  have e:ae.mk y.fKind y.fNum y.fText y.fBefore y.fAfter=y:=by cases y;rfl
  simp only [e,Ce (hok y hy),Option.bind_some,Bool.not_true,Bool.false_eq_true,if_false,hw]
  exact ih
theorem Db {T:List ae} (hT:T.length<=120) (hok:∀ t∈T,tOk t) {a:Nat} (ha:a<=T.length) {n:Nat} (h1:1<=n) (h6:n<=6):
  (∃ x a',gq n (T.drop a)=(0,x,T.drop a')/\a'<=T.length/\x.valid=true/\qw T a n=some (x,((a':Nat):Int),0))\/(∃ c b,c≠0/\gq n (T.drop a)=(c,lu,T.drop a)/\qw T a n=some (lu,b,c)):=by
 rw [zU,if_neg (by simp [aj];omega),Da (by omega) hok]
 simp only [Option.bind_some,Bool.not_true,Bool.false_eq_true,if_false]
 rw [jB]
 have hw:(decide (0<=(a:Int))&&decide ((a:Int)<=len T))=true:=by simp [aj];omega
 rw [hw]
 simp only [Option.bind_some,Bool.not_true,Bool.false_eq_true,if_false]
 rw [vU]
 unfold gq
 rcases KK (by omega) hok (C9 n (T.drop a)) (.ex n) a ha (Nat.le_refl _) h1 h6 with ⟨x,a',e1,h2,e2⟩ | ⟨e1,e,b,e2⟩
 ·rw [e1,e2]
  simp only [Option.bind_some,bx,idE,ab.eta,Bool.not_true,Bool.false_eq_true,if_false]
  have hsz:=(Ix _ _ _ _ _ e1 fun t ht=>yQ (hok t (List.mem_of_mem_drop ht))).2
  have hdl:=dH T ha
  simp only [Md.mR,Md.m0] at hsz
  rw [o8 (by omega)]
  simp only [Option.bind_some]
  cases hv:x.valid with
  | true=>exact .inl ⟨x,a',by simp,h2,hv,by simp⟩
  | false=>exact .inr ⟨6,a,by decide,by simp,by simp [lu]⟩
 ·rw [e1,e2]
  exact .inr ⟨2,b,by decide,rfl,by simp [lu]⟩
end Go.Dv.U

namespace Go.Dv.U
open Go Go.Dv Go.Proofs
def KL {α:Type} (o:Option ((α×Bool)×((List ae×Int×Unit)×Unit))) (T:List ae) (res:Option (α×List ae)):Prop:=
 (∃ x a',res=some (x,T.drop a')/\a'<=T.length/\o=some ((x,true),bx T a'))\/(res=none/\∃ (e:α) (b:Int),o=some ((e,false),((T,b,()),())))
theorem wi {T:List ae} {a:Nat} (hT:T.length<=1000) (ha:a<=T.length):
  (∃ s a',mg (T.drop a)=some (s,T.drop a')/\a<a'/\a'<=T.length/\dD T a=some ((s,true),bx T a'))\/(mg (T.drop a)=none/\∃ (e:List UInt8) (b:Int),dD T a=some ((e,false),((T,b,()),()))):=by
 rw [qC]
 unfold mg
 rcases kL hT ha 5 with ⟨e1,hlt,e2⟩ | ⟨e1,e2⟩
 ·rw [e1,e2]
  simp only [Option.bind_some,bx,Bool.not_true,Bool.false_eq_true,if_false]
  rcases yP hT (a:=a+1) (by omega) with ⟨s,e3,hlt2,e4⟩ | ⟨e3,e4⟩
  ·rw [e3,e4]
   simp only [Option.bind_some,bx,if_true]
   rcases kL hT (a:=a+1+1) (by omega) 6 with ⟨e5,hlt3,e6⟩ | ⟨e5,e6⟩
   ·rw [e5,e6]
    exact .inl ⟨s,a+1+1+1,rfl,by omega,by omega,rfl⟩
   ·rw [e5,e6]
    exact .inr ⟨rfl,s,_,rfl⟩
  ·rw [e3,e4]
   exact .inr ⟨rfl,[],_,by simp only [Option.bind_some,bx,Bool.false_eq_true,if_false];rfl⟩
 ·rw [e1,e2]
  exact .inr ⟨rfl,[],a,by simp [bx]⟩
theorem KM {T:List ae} (hT:T.length<=1000):∀ (f a:Nat) (s x:List UInt8) (ok:Bool) (x3 x4 x5:List UInt8),a<=T.length->(T.drop a).length<f ->
    KL (dP ok T a x3 x4 x5 [] s x) T (pTg f s x ok (T.drop a)):=by
  intro f
  induction f with
  | zero=>intro a s x ok x3 x4 x5 _ h;omega
  | succ f ih =>
    intro a s x ok x3 x4 x5 ha hf
    have hda:=dH T ha
    rw [mK,wh ha]
    rcases yP hT ha with ⟨w,e1,hlt,e2⟩ | ⟨e1,e2⟩
    · have hx : (a6 1 (T.drop a)).isSome=true:=by
        rcases sI ha with ⟨e0,_⟩ | ⟨t,_,_,e,_⟩
        · omega
        · rw [e] at e1 ⊢
          simp only [eP,a6] at e1 ⊢
          split at e1
          · rename_i hk;simp [hk]
          · cases e1
      rw [hx]
      simp only [Option.bind_some,if_true,e2,pTg,e1,bx]
      have bad:KL (ch T ((a+1:Nat):Int) x3 x4 x5) T (none:Option (az×List ae)):=by
        rw [mL];exact .inr ⟨rfl,_,_,rfl⟩
      by_cases h1:w=[83]
      · subst h1
        rw [if_pos (by simp)]
        by_cases h2:s=[]
        · subst h2
          rw [if_pos (by simp),if_pos ⟨rfl,rfl⟩]
          rcases wi hT (a:=a+1) (by omega) with ⟨l,a',e3,h3,h4,e4⟩ | ⟨e3,e,b,e4⟩
          · rw [e3,e4]
            simp only [Option.bind_some,bx,cI,Bool.not_true,Bool.false_eq_true,if_false]
            have hda':=dH T h4
            exact ih a' l x true _ _ _ h4 (by omega)
          · rw [e3,e4]
            simp only [Option.bind_some,cI,Bool.not_false,if_true]
            exact .inr ⟨rfl,_,_,rfl⟩
        · have b2:(s==[])=false:=by simpa using h2
          have b3:(([83]:List UInt8)==[70])=false:=by decide
          have n3:¬ ([83]:List UInt8)=[70]:=by decide
          simp only [b2,b3,n3,h2,Bool.false_eq_true,if_false,and_false,false_and]
          exact bad
      · have b1:(w==[83])=false:=by simpa using h1
        simp only [b1,h1,Bool.false_eq_true,if_false,false_and]
        by_cases h3:w=[70]
        · subst h3
          rw [if_pos (by simp)]
          by_cases h2:x=[]
          · subst h2
            rw [if_pos (by simp),if_pos ⟨rfl,rfl⟩,lW]
            rcases wi hT (a:=a+1) (by omega) with ⟨l,a',e3,h3,h4,e4⟩ | ⟨e3,e,b,e4⟩
            · rw [e3,e4]
              simp only [Option.bind_some,bx,cI,Bool.not_true,Bool.false_eq_true,if_false]
              have hda':=dH T h4
              exact ih a' s l true _ _ _ h4 (by omega)
            · rw [e3,e4]
              simp only [Option.bind_some,cI,Bool.not_false,if_true]
              exact .inr ⟨rfl,_,_,rfl⟩
          · have b2:(x==[])=false:=by simpa using h2
            simp only [b2,h2,Bool.false_eq_true,if_false,and_false]
            exact bad
        · have b3:(w==[70])=false:=by simpa using h3
          simp only [b3,h3,Bool.false_eq_true,if_false,false_and]
          exact bad
    · have hx:(a6 1 (T.drop a)).isSome=false:=by
        rcases sI ha with ⟨e0,e⟩ | ⟨t,_,_,e,_⟩
        · rw [e];rfl
        · rw [e] at e1 ⊢
          simp only [eP,a6] at e1 ⊢
          split at e1
          · cases e1
          · rename_i hk;simp [hk]
      rw [hx]
      simp only [Option.bind_some,Bool.false_eq_true,if_false,pTg,e1]
      cases ok with
      | true=>exact .inl ⟨_,a,by simp,ha,rfl⟩
      | false=>exact .inr ⟨by simp,_,_,rfl⟩
theorem KN {T:List ae} (hT:T.length<=1000) {a f:Nat} (ha:a<=T.length) (hf:(T.drop a).length<f):KL (dX T a) T (pGo f (T.drop a)):=by
 rw [pH,wh ha]
 unfold pGo
 cases he:a6 5 (T.drop a) with
 | some r=>
  simp only [Option.isSome_some,Option.bind_some,if_true]
  rcases wi hT ha with ⟨l,a',e3,h3,h4,e4⟩ | ⟨e3,e,b,e4⟩
  ·rw [e3,e4];exact .inl ⟨_,a',rfl,h4,rfl⟩
  ·rw [e3,e4];exact .inr ⟨rfl,_,_,rfl⟩
 | none=>
  simp only [Option.isSome_none,Option.bind_some,Bool.false_eq_true,if_false]
  exact KM hT _ a [] [] false _ _ _ ha hf
end Go.Dv.U

namespace Go.Dv.U
open Go Go.Dv Go.Proofs
theorem GL {c:UInt8} {s t:List UInt8} (h:hasB (ib c) s=false) (j:Nat):Lib.occAt s (c:: t) j=false:=by
 cases ho:Lib.occAt s (c:: t) j with
 | false=>rfl
 | true=>
  have h1:=Lib.occAt_head (c:=c) (t:=t) rfl ho
  have:hasB (ib c) s=true:=by
   simp only [hasB,List.any_eq_true,beq_iff_eq]
   exact ⟨c,List.mem_of_getElem? h1,rfl⟩
  rw [h] at this;cases this
theorem Bl {c:UInt8} {s t:List UInt8} (h:hasB (ib c) s=false):Lib.index s (c:: t) = -1:=Lib.index_none fun j _=>GL h j
theorem Bm {c:UInt8} {a r t:List UInt8} (h:hasB (ib c) a=false) (ht:(c:: t).isPrefixOf r=true):Lib.index (a++r) (c:: t)=(a.length:Int):=by
 refine Lib.index_first (by simp) ?_ ?_
 ·unfold Lib.occAt
  rw [List.drop_left];exact ht
 ·intro j hj
  unfold Lib.occAt
  rw [List.drop_append_of_le_length (by omega),List.drop_eq_getElem_cons hj]
  simp only [List.cons_append,List.isPrefixOf,Bool.and_eq_false_iff]
  left
  rw [beq_eq_false_iff_ne]
  intro e
  have:hasB (ib c) a=true:=by
   simp only [hasB,List.any_eq_true,beq_iff_eq]
   exact ⟨a[j],List.getElem_mem hj,by rw [<-e]⟩
  rw [h] at this;cases this
theorem Iz {c:UInt8} {a r:List UInt8} (h:hasB (ib c) a=false):Lib.cut (a++c:: r) [c]=(a,r,true):=by
 have hi:Lib.index (a++c:: r) [c]=(a.length:Int):=Bm h (by simp [List.isPrefixOf])
 unfold Lib.cut
 rw [hi,if_pos (by omega)]
 simp [List.drop_append]
theorem GM {c:UInt8} {s:List UInt8} (h:hasB (ib c) s=false):Lib.cut s [c]=(s,[],false):=by
 unfold Lib.cut
 rw [Bl h,if_neg (by decide)]
end Go.Dv.U

namespace Go.Dv.U
open Go Go.Dv Go.Proofs
theorem Ju {T:List ae} {a b:Nat} (h:bx T a=bx T b):a=b:=by
 unfold bx at h
 have:=congrArg (fun p:(List ae×Int×Unit)×Unit=>p.1.2.1) h
 simp only at this;omega
theorem IA {ts:List ae} (hT:ts.length<=1000) (hok:∀ t∈ts,tOk t) {n:Nat} (h1:1<=n) (h6:n<=6) {x:ab} {r:List ae} (h:PR (.ex n) ts (x,r)):pP (C9 n ts) (.ex n) ts=some (x,r):=by
 obtain ⟨f,hf⟩:=h
 have w1:=KK hT hok (C9 n ts) (.ex n) 0 (Nat.zero_le _) (Nat.le_refl _) h1 h6
 have w2:=KK hT hok (max f (C9 n ts)) (.ex n) 0 (Nat.zero_le _) (Nat.le_max_right _ _) h1 h6
 rw [List.drop_zero] at w1 w2
 rw [hf _ (Nat.le_max_left _ _)] at w2
 rcases w2 with ⟨x2,a2,e1,_,e2⟩ | ⟨e1,_⟩
 ·rcases w1 with ⟨x1,a1,e3,_,e4⟩ | ⟨e3,e,b,e4⟩
  ·rw [e2] at e4
   simp only [Option.some.injEq,Prod.mk.injEq,idE,and_true] at e4
   obtain ⟨rfl,e5⟩:=e4
   have:=Ju e5
   subst this
   rw [e3,e1]
  ·rw [e2] at e4
   simp at e4
 ·cases e1
theorem yR {ts:List ae} (hT:ts.length<=1000) (hok:∀ t∈ts,tOk t) {n:Nat} (h1:1<=n) (h6:n<=6) {x:ab} {r:List ae} (h:PR (.ex n) ts (x,r)) (hv:x.valid=true):gq n ts=(0,x,r):=by
 unfold gq
 rw [IA hT hok h1 h6 h]
 simp [hv]
theorem Fb {md:Md} {ts:List ae} {x:ab} {r:List ae} (h:PR md ts (x,r)) (hok:∀ t∈ts,tOk t):(∀ t∈r,tOk t)/\r.length<=ts.length:=by
 obtain ⟨f,hf⟩:=h
 have h1:=hf f (Nat.le_refl _)
 exact ⟨fun t ht=>hok t ((Ix _ _ _ _ _ h1 fun t ht=>yQ (hok t ht)).1 t ht),by have:=E4 _ _ _ _ _ h1;omega⟩
def pb (lab:List UInt8):aa:=⟨lab,false,lu,false,lu,false,lu,⟨[],[],[]⟩⟩
def Fc (s:aa) (r:List ae):Int×aa×List ae:=match jM r with
 | none=>(0,s,r)
 | some r2=>if gz r2=true then (0,{s with fHasReplace:=true,fReplace:=⟨1,0,[],[]⟩},r2) else ((gq 1 r2).1,{s with fHasReplace:=true,fReplace:=(gq 1 r2).2.1},(gq 1 r2).2.2)
def bfr : List ae->Bool
 | []=>false
 | t:: _=>t.fBefore
def Kg (s:aa) (r:List ae):Int×aa×List ae:=
 if (gq 1 r).1≠0 then ((gq 1 r).1,{s with fHasPattern:=true,fPattern:=(gq 1 r).2.1},(gq 1 r).2.2) else Fc {s with fHasPattern:=true,fPattern:=(gq 1 r).2.1} (gq 1 r).2.2
def Kh (s:aa) (r:List ae):Int×aa×List ae:=
 if gz r=true\/(jM r).isSome=true then Fc s r else if bfr r=false then (2,s,r) else Kg s r
def mP (s:aa) (ts:List ae):Int×aa×List ae:=
 if (gq 6 ts).1≠0 then ((gq 6 ts).1,{s with fHasSubject:=true,fSubject:=(gq 6 ts).2.1},(gq 6 ts).2.2) else Kh {s with fHasSubject:=true,fSubject:=(gq 6 ts).2.1} (gq 6 ts).2.2
def Fd (s:aa) (ts:List ae):Int×aa:=match a6 10 ts with
 | some r=>match pGo (r.length+4) r with
  | some (g,r2)=>(if r2=[] then 0 else 2,{s with fGoto:=g})
  | none=>(2,s)
 | none=>(if ts=[] then 0 else 2,s)
def pSt (s:aa) (ts:List ae):Int×aa:=
 if gz ts=true then Fd s ts else if (mP s ts).1≠0 then ((mP s ts).1,(mP s ts).2.1) else Fd (mP s ts).2.1 (mP s ts).2.2
def oR : List UInt8->Bool
 | []=>false
 | b:: _=>b==32
def kM (s:List UInt8):aa×Int:=
 if 4000<s.length\/dJ s=false then (pb [],1)
 else
  let lab:=if oR s=true then [] else (Lib.cut s [32]).1
  if oR s=false/\bi lab=false then (pb [],2)
  else
   let k:=fu (s.drop lab.length)
   if k.2.2≠0 then (pb [],k.2.2)
   else
    let p:=pSt (pb lab) k.1
    if p.1≠0 then (pb [],p.1) else if p.2.fLabel=[]/\p.2.fHasSubject=false/\eK p.2.fGoto=true then (pb [],2)
    else if cw p.2=true then (p.2,0) else (pb [],6)
theorem Jv {e:ab} (h:zE e=true):e=lu:=by
 cases e
 simp only [zE,Bool.and_eq_true_iff,beq_iff_eq,decide_eq_true_eq] at h
 obtain ⟨⟨⟨h1,h2⟩,h3⟩,h4⟩:=h
 have:=List.eq_nil_of_length_eq_zero h4
 subst h1;subst h2;subst h3;subst this
 rfl
theorem qR {b:Bool} {e:ab} (h:fJ b e=true) (hb:b=false):e=lu:=by
 subst hb
 exact Jv (by simpa [fJ] using h)
theorem sJ {b:Bool} {e:ab} (h:fJ b e=true) (hb:b=true):e.valid=true:=by
 subst hb
 simpa [fJ] using h
theorem Jw {s:aa} (hs:gm s=true) {L L1 L2 L3:List ae} (h:StR s L L1 L2 L3) (hL:L.length<=120) (hok:∀ t∈L,tOk t):pSt (pb s.fLabel) L=(0,s):=by
 obtain ⟨_,_,q1,q2,q3⟩:=fK hs
 -- the goto
 have hE:∀ (s0:aa),s0.fGoto=⟨[],[],[]⟩->Fd s0 L3=(0,{s0 with fGoto:=s.fGoto}):=by
  intro s0 h0
  unfold Fd
  cases hz:eK s.fGoto with
  | true=>
   rw [h.g0 hz]
   have hg:s.fGoto=⟨[],[],[]⟩:=by
    cases hg:s.fGoto with
    | mk A S F=>
     rw [hg] at hz
     simp only [eK,Bool.and_eq_true_iff,beq_iff_eq] at hz
     obtain ⟨⟨h1,h2⟩,h3⟩:=hz
     rw [h1,h2,h3]
   simp only [a6,if_true,hg,Prod.mk.injEq,true_and]
   rw [<-h0]
  | false=>
   obtain ⟨t,q,e,hk,hg⟩:=h.g1 hz
   rw [e]
   simp only [a6,hk,if_true]
   rw [hg (q.length+4) (by omega)]
   simp
 cases hsub:s.fHasSubject with
 | false=>
  obtain ⟨e1,e2,e3,e4⟩:=h.s0 hsub
  unfold pSt
  rw [if_pos e1,<-e4,hE _ rfl]
  have hn:s.fHasPattern=false/\s.fHasReplace=false:=by
   unfold gm at hs
   simp only [hsub,Bool.and_eq_true,Bool.false_or,Bool.not_eq_true'] at hs
   exact hs.1.1.2
  have a1:=qR q1 hsub
  have a2:=qR q2 hn.1
  have a3:=qR q3 hn.2
  cases s
  simp only at hsub hn a1 a2 a3
  obtain ⟨b1,b2⟩:=hn
  subst hsub;subst a1;subst a2;subst a3;subst b1;subst b2
  rfl
 | true=>
  obtain ⟨e1,e2⟩:=h.s1 hsub
  have v1:=sJ q1 hsub
  obtain ⟨ok1,len1⟩:=Fb e2 hok
  have p6:=yR (by omega) hok (by omega) (by omega) (PR.ex6 e2) v1
  -- behind the pattern
  have hR:∀ (s0:aa),s0.fGoto=⟨[],[],[]⟩->s0.fReplace=lu->s0.fHasReplace=false->L2.length<=120->(∀ t∈L2,tOk t)->Fc s0 L2=(0,{s0 with fHasReplace:=s.fHasReplace,fReplace:=s.fReplace},L3):=by
   intro s0 _ h1 h0 hl2 hk2
   unfold Fc
   cases hr:s.fHasReplace with
   | false=>
    obtain ⟨r1,r2⟩:=h.r0 hr
    rw [r1,r2,qR q3 hr]
    simp only
    rw [<-h1,<-h0]
   | true=>
    obtain ⟨q,r1,r2,r3⟩:=h.r1 hr
    have hq:(∀ t∈q,t∈L2)/\q.length<=L2.length:=by
     cases L2 with
     | nil=>cases r1
     | cons t l=>
      simp only [jM] at r1
      split at r1
      ·cases r1;exact ⟨fun t ht=>List.mem_cons_of_mem _ ht,by simp⟩
      ·cases r1
    rw [r1]
    simp only [r2,Bool.false_eq_true,if_false]
    rw [yR (by omega) (fun t ht=>hk2 t (hq.1 t ht)) (by omega) (by omega) r3 (sJ q3 hr)]
  have fin:∀ (b:Int×aa×List ae),b=(0,{(pb s.fLabel) with fHasSubject:=true,fSubject:=s.fSubject,fHasPattern:=s.fHasPattern,fPattern:=s.fPattern,fHasReplace:=s.fHasReplace,fReplace:=s.fReplace},L3)->mP (pb s.fLabel) L=b->pSt (pb s.fLabel) L=(0,s):=by
   intro b hb hB
   unfold pSt
   rw [if_neg (by rw [e1];decide),hB,hb]
   simp only [ne_eq,not_true_eq_false,if_false]
   rw [hE _ rfl]
   cases s
   simp only at hsub
   subst hsub
   rfl
  refine fin _ rfl ?_
  unfold mP
  rw [p6]
  simp only [ne_eq,not_true_eq_false,if_false]
  unfold Kh
  cases hp:s.fHasPattern with
  | false=>
   obtain ⟨f1,f2⟩:=h.p0 hp
   rw [if_pos (by
    rcases f2 with f2 | ⟨q,f2⟩
    ·exact .inl f2
    ·exact .inr (by rw [f2];rfl)),<-f1,hR _ rfl rfl rfl (by rw [f1];omega) (by rw [f1];exact ok1),qR q2 hp]
   rfl
  | true=>
   obtain ⟨f1,f2,f3,f4⟩:=h.p1 hp
   obtain ⟨ok2,len2⟩:=Fb f4 ok1
   have hb:bfr L1=true:=by
    cases L1 with
    | nil=>cases f1
    | cons t q=>exact f3 t q rfl
   rw [if_neg (by rw [f1,f2];simp),if_neg (by rw [hb];decide)]
   unfold Kg
   rw [yR (by omega) ok1 (by omega) (by omega) f4 (sJ q2 hp)]
   simp only [ne_eq,not_true_eq_false,if_false]
   rw [hR _ rfl rfl rfl (by omega) ok2]
end Go.Dv.U

namespace Go.Dv.U
open Go Go.Dv Go.Proofs
theorem Bn {x:List UInt8} (h:(fu x).2.2=0):Sc true x (fu x).1/\(∀ t∈(fu x).1,tOk t)/\(fu x).1.length<=120:=by
 obtain ⟨_,_,h1⟩:=Cl h
 obtain ⟨_,h2,h3,_⟩:=C3 (x:=x) (L:=(fu x).1) (e:=(fu x).2.1) (by rw [<-h])
 exact ⟨h1,h2,h3⟩
theorem Fe {s:List UInt8} (h:bi s=true):hasB (ib 32) s=false/\oR s=false:=by
 obtain ⟨h1,b,r,rfl,_⟩:=xB h
 have h2:∀ b:UInt8,bU (ib b)=true->¬ ib b=32:=ew (by decide +kernel)
 refine ⟨?_,?_⟩
 ·simp only [hasB,List.any_eq_false,beq_iff_eq]
  intro c hc e
  exact h2 c (h1 c hc) (by rw [e];decide)
 ·have:=h2 b (h1 b (by simp))
  simp only [oR,beq_eq_false_iff_ne]
  rintro rfl
  exact this (by decide)
theorem Dc {s:aa} (h:gm s=true):¬ (s.fLabel=[]/\s.fHasSubject=false/\eK s.fGoto=true):=by
 rintro ⟨h1,h2,h3⟩
 unfold gm at h
 simp [h1,h2,h3] at h
theorem IB {s:aa} (hv:cw s=true):kM (cd s)=(s,0):=by
  obtain ⟨⟨_,hpl,_⟩,_⟩:=Cm hv
  have hv0:=hv
  unfold cw at hv
  simp only [Bool.and_eq_true_iff,decide_eq_true_eq,beq_iff_eq] at hv
  obtain ⟨hf,hl,hsc⟩:=hv
  obtain ⟨k1,k2,k3⟩:=Bn hsc
  obtain ⟨L1,L2,L3,hst⟩:=Hm hf k1
  have hp:=Jw hf hst k3 k2
  have hne:=Dc hf
  obtain ⟨hlab,_⟩:=fK hf
  have key:∀ (lab:List UInt8),lab=s.fLabel->(if oR (cd s)=true then [] else (Lib.cut (cd s) [32]).1)=lab->(oR (cd s)=false->bi lab=true)->kM (cd s)=(s,0):=by
    intro lab e1 e2 e3
    subst e1
    unfold kM
    rw [if_neg (by rw [hpl];simp;omega)]
    simp only [e2]
    rw [if_neg (by rintro ⟨a,b⟩;rw [e3 a] at b;cases b)]
    have hd:(cd s).drop s.fLabel.length=lr s:=by unfold cd;simp
    rw [hd,if_neg (by rw [hsc];decide),hp]
    simp only [ne_eq,not_true_eq_false,if_false]
    rw [if_neg hne,if_pos hv0]
  by_cases hl0:s.fLabel=[]
  · have:∃ r,lr s=32:: r:=by
      rcases sH s with h | h
      · exfalso
        apply hne
        unfold lr t8 at h
        simp only [List.append_eq_nil_iff] at h
        obtain ⟨⟨h1,_⟩,_,h3⟩:=h
        refine ⟨hl0,?_,?_⟩
        · cases hs:s.fHasSubject with
          | false=>rfl
          | true=>rw [if_pos hs] at h1;simp at h1
        · by_cases hg:cV s.fGoto=[]
          · exact (nU _).1 hg
          · rw [if_neg hg] at h3;simp at h3
      · exact h
    obtain ⟨r,hr⟩:=this
    have hs:oR (cd s)=true:=by unfold cd;rw [hl0,hr];rfl
    exact key [] hl0.symm (by rw [if_pos hs]) fun h=>by rw [hs] at h;cases h
  · have hn:bi s.fLabel=true:=by
      rw [Hf,if_neg hl0] at hlab
      exact hlab
    obtain ⟨h1,h2⟩:=Fe hn
    have hs:oR (cd s)=false:=by
      unfold cd
      cases hq:s.fLabel with
      | nil=>exact absurd hq hl0
      | cons b q=>rw [hq] at h2;exact h2
    refine key s.fLabel rfl ?_ fun _=>hn
    rw [if_neg (by rw [hs];decide)]
    unfold cd
    rcases sH s with h | ⟨r,h⟩
    · rw [h,List.append_nil,GM h1]
    · rw [h,Iz h1]
theorem xE {t:List UInt8} (h:(kM t).2=0):cw (kM t).1=true:=by
 revert h
 unfold kM
 split
 ·intro h;simp at h
 generalize (if oR t=true then [] else (Lib.cut t [32]).1)=lab
 simp only
 split
 ·intro h;simp at h
 split
 ·intro h;rename_i h2;exact absurd h h2
 split
 ·intro h;rename_i h2;exact absurd h h2
 split
 ·intro h;simp at h
 split
 ·intro _;assumption
 ·intro h;simp at h
end Go.Dv.U

namespace Go.Dv.U
open Go Go.Dv Go.Proofs
def td (s:aa):List UInt8×Bool×Int×Int×List UInt8×List ab×Bool×Int×Int×List UInt8×List ab×Bool×Int×Int×List UInt8×List ab×List UInt8×List UInt8×List UInt8×Unit:=
 (s.fLabel,s.fHasSubject,s.fSubject.fKind,s.fSubject.fNum,s.fSubject.fText,s.fSubject.fKids,s.fHasPattern,s.fPattern.fKind,s.fPattern.fNum,s.fPattern.fText,s.fPattern.fKids,s.fHasReplace,s.fReplace.fKind,s.fReplace.fNum,s.fReplace.fText,s.fReplace.fKids,s.fGoto.fAlways,s.fGoto.fSuccess,s.fGoto.fFailure,())
def bx2 (T:List ae) (a:Int) (s:aa):=(((T,a,()),td s,()):(List ae×Int×Unit)×(List UInt8×Bool×Int×Int×List UInt8×List ab×Bool×Int×Int×List UInt8×List ab×Bool×Int×Int×List UInt8×List ab×List UInt8×List UInt8×List UInt8×Unit)×Unit)
theorem yS {T:List ae} {a:Nat} (ha:a<=T.length):d6 T a=some (gz (T.drop a)):=by
 rw [rP,wh ha]
 rcases sI ha with ⟨e0,e⟩ | ⟨t,hlt,hi,e,_⟩
 ·rw [if_pos (by simp [aj,e0]),e];rfl
 ·rw [if_neg (by simp [aj];omega),e]
  simp only [Option.bind_some,a6,gz]
  by_cases h:t.fKind=10<;>simp [h]
theorem wj {T:List ae} {a:Nat} (hok:∀ t∈T,tOk t) (ha:a<=T.length):eJ T a=some (jM (T.drop a)).isSome/\∀ q,jM (T.drop a)=some q->a<T.length/\q=T.drop (a+1):=by
 rw [oK,wh ha]
 rcases sI ha with ⟨e0,e⟩ | ⟨t,hlt,hi,e,hm⟩
 ·rw [e];exact ⟨rfl,fun q h=>by cases h⟩
 ·rw [e]
  refine ⟨?_,fun q h=>⟨hlt,?_⟩⟩
  ·simp only [a6,jM,hi]
   by_cases h4:t.fKind=4
   ·simp only [h4,if_true,Option.isSome_some,Option.bind_some,xC (hok t hm)]
    cases hI:mO t with
    | false=>simp
    | true=>by_cases h:t.fText=[61]<;>simp [h]
   ·have hI:mO t=false:=by unfold mO;simp [h4]
    simp [h4,hI]
  ·simp only [jM] at h
   split at h
   ·cases h;rfl
   ·cases h
theorem Bo {T:List ae} (hT:T.length<=120) (hok:∀ t∈T,tOk t) {a:Nat} (ha:a<=T.length) {n:Nat} (h1:1<=n) (h6:n<=6):
  ∃ x c a',gq n (T.drop a)=(c,x,T.drop a')/\a'<=T.length/\dk n T a=some ((x,c),bx T a'):=by
 rw [tN]
 rcases Db hT hok ha h1 h6 with ⟨x,a',e1,h2,_,e2⟩ | ⟨c,b,hc,e1,e2⟩
 ·rw [e2]
  exact ⟨x,0,a',e1,h2,by simp [bx,ab.eta]⟩
 ·rw [e2]
  refine ⟨lu,c,a,e1,ha,?_⟩
  simp only [Option.bind_some]
  rw [if_neg (by simpa using hc)]
  simp [bx,lu]
theorem Ho {T:List ae} (hT:T.length<=120) (hok:∀ t∈T,tOk t) {a:Nat} (ha:a<=T.length) (s:aa):
  ∃ a':Nat,a'<=T.length/\(Fc s (T.drop a)).2.2=T.drop a'/\dC T a s.fLabel s.fHasSubject s.fSubject.fKind s.fSubject.fNum s.fSubject.fText s.fSubject.fKids s.fHasPattern s.fPattern.fKind s.fPattern.fNum s.fPattern.fText s.fPattern.fKids s.fHasReplace s.fReplace.fKind s.fReplace.fNum s.fReplace.fText s.fReplace.fKids s.fGoto.fAlways s.fGoto.fSuccess s.fGoto.fFailure =
   some ((Fc s (T.drop a)).1,bx2 T a' (Fc s (T.drop a)).2.1):=by
 obtain ⟨h1,h2⟩:=wj hok ha
 rw [oL,h1]
 unfold Fc
 cases hq:jM (T.drop a) with
 | none=>exact ⟨a,ha,rfl,by simp [bx2,td]⟩
 | some q=>
  obtain ⟨hlt,rfl⟩:=h2 q hq
  have w:w64 ((a:Int)+1)=((a+1:Nat):Int):=FC (by omega) hlt
  simp only [Option.isSome_some,Option.bind_some,Bool.not_true,Bool.false_eq_true,if_false,w,yS (show a+1<=T.length by omega)]
  cases hE:gz (T.drop (a+1)) with
  | true=>exact ⟨a+1,by omega,by simp,by simp [bx2,td]⟩
  | false=>
   simp only [Bool.false_eq_true,if_false]
   obtain ⟨x,c,a',e1,h3,e2⟩:=Bo hT hok (a:=a+1) (by omega) (n:=1) (by omega) (by omega)
   have e2:dk 1 T ((a+1:Nat):Int)=_:=e2
   rw [e2,e1]
   exact ⟨a',h3,rfl,by simp [bx2,td,bx]⟩
theorem IC {T:List ae} (hT:T.length<=120) (hok:∀ t∈T,tOk t) {a:Nat} (ha:a<=T.length) (s:aa):
  ∃ a':Nat,a'<=T.length/\(mP s (T.drop a)).2.2=T.drop a'/\fx T a s.fLabel s.fHasSubject s.fSubject.fKind s.fSubject.fNum s.fSubject.fText s.fSubject.fKids s.fHasPattern s.fPattern.fKind s.fPattern.fNum s.fPattern.fText s.fPattern.fKids s.fHasReplace s.fReplace.fKind s.fReplace.fNum s.fReplace.fText s.fReplace.fKids s.fGoto.fAlways s.fGoto.fSuccess s.fGoto.fFailure =
   some ((mP s (T.drop a)).1,bx2 T a' (mP s (T.drop a)).2.1):=by
 obtain ⟨x,c,a1,e1,h1,e2⟩:=Bo hT hok ha (n:=6) (by omega) (by omega)
 have e2:dk 6 T (a:Int)=_:=e2
 rw [pG,e2]
 unfold mP
 rw [e1]
 simp only [Option.bind_some,bx]
 by_cases hc:c=0
 ·subst hc
  simp only [bne_self_eq_false,Bool.false_eq_true,if_false,ne_eq,not_true_eq_false]
  obtain ⟨k1,k2⟩:=wj hok h1
  rw [yS h1,k1]
  unfold Kh
  have rep:=fun s=>Ho hT hok h1 s
  cases hE:gz (T.drop a1) with
  | true=>
   simp only [Option.bind_some,Bool.not_true,Bool.false_eq_true,if_false,true_or,if_true]
   exact rep {s with fHasSubject:=true,fSubject:=x}
  | false=>
   cases hA:(jM (T.drop a1)).isSome with
   | true=>
    simp only [Option.bind_some,Bool.not_false,Bool.not_true,Bool.false_eq_true,if_false,or_true,if_true]
    exact rep {s with fHasSubject:=true,fSubject:=x}
   | false=>
    simp only [Option.bind_some,Bool.not_false,Bool.false_eq_true,if_false,or_self,if_true]
    rcases sI h1 with ⟨e0,e⟩ | ⟨t,hlt,hi,e,hm⟩
    ·rw [e] at hE;cases hE
    ·rw [hi,e]
     have hbf:bfr (t:: T.drop (a1+1))=t.fBefore:=rfl
     rw [hbf]
     simp only [Option.bind_some]
     by_cases hB:t.fBefore=true
     ·simp only [hB,Bool.not_true,Bool.false_eq_true,if_false,Bool.true_eq_false]
      rw [<-e]
      obtain ⟨y,d,a2,e3,h3,e4⟩:=Bo hT hok h1 (n:=1) (by omega) (by omega)
      have e4:dk 1 T (a1:Int)=_:=e4
      rw [e4]
      unfold Kg
      rw [e3]
      simp only [Option.bind_some,bx]
      by_cases hd:d=0
      ·subst hd
       simp only [bne_self_eq_false,Bool.false_eq_true,if_false,ne_eq,not_true_eq_false]
       exact Ho hT hok h3 {s with fHasSubject:=true,fSubject:=x,fHasPattern:=true,fPattern:=y}
      ·have hd2:(d !=0)=true:=by simpa using hd
       simp only [hd2,hd,if_true,ne_eq,not_false_eq_true]
       exact ⟨a2,h3,rfl,by simp [bx2,td]⟩
     ·have hB':t.fBefore=false:=by simpa using hB
      simp only [hB',Bool.not_false,if_true]
      exact ⟨a1,h1,e.symm,by simp [bx2,td]⟩
 ·have hc2:(c !=0)=true:=by simpa using hc
  simp only [hc2,hc,if_true,ne_eq,not_false_eq_true]
  exact ⟨a1,h1,rfl,by simp [bx2,td]⟩
theorem Hp {T:List ae} (hT:T.length<=120) {a:Nat} (ha:a<=T.length) (s:aa) (o:Option (Int×((List ae×Int×Unit)×(List UInt8×Bool×Int×Int×List UInt8×List ab×Bool×Int×Int×List UInt8×List ab×Bool×Int×Int×List UInt8×List ab×List UInt8×List UInt8×List UInt8×Unit)×Unit)))
  (ho:o=(a7 10 T a).bind fun r198=>if Prod.fst r198=true then (dX (Prod.fst (Prod.fst (Prod.snd r198))) (Prod.fst (Prod.snd (Prod.fst (Prod.snd r198))))).bind fun r196=>bg (Prod.snd (Prod.fst r196)) (Prod.fst (Prod.fst (Prod.snd r196))) (Prod.fst (Prod.snd (Prod.fst (Prod.snd r196)))) s.fLabel s.fHasSubject s.fSubject.fKind s.fSubject.fNum s.fSubject.fText s.fSubject.fKids s.fHasPattern s.fPattern.fKind s.fPattern.fNum s.fPattern.fText s.fPattern.fKids s.fHasReplace s.fReplace.fKind s.fReplace.fNum s.fReplace.fText s.fReplace.fKids (az.fAlways (Prod.fst (Prod.fst r196))) (az.fSuccess (Prod.fst (Prod.fst r196))) (az.fFailure (Prod.fst (Prod.fst r196)))
   else bg true (Prod.fst (Prod.fst (Prod.snd r198))) (Prod.fst (Prod.snd (Prod.fst (Prod.snd r198)))) s.fLabel s.fHasSubject s.fSubject.fKind s.fSubject.fNum s.fSubject.fText s.fSubject.fKids s.fHasPattern s.fPattern.fKind s.fPattern.fNum s.fPattern.fText s.fPattern.fKids s.fHasReplace s.fReplace.fKind s.fReplace.fNum s.fReplace.fText s.fReplace.fKids s.fGoto.fAlways s.fGoto.fSuccess s.fGoto.fFailure):
  ∃ (b:Int) (s':aa),o=some ((Fd s (T.drop a)).1,bx2 T b s')/\((Fd s (T.drop a)).1=0->s'=(Fd s (T.drop a)).2):=by
 subst ho
 have fin:∀ (a':Nat),a'<=T.length->∀ (c:Bool),((a':Int)==len T)=c->(T.drop a'=[]↔c=true):=by
  intro a' h c hc
  have hl:=dH T h
  subst hc
  rw [beq_iff_eq,aj]
  constructor
  ·intro e;rw [e] at hl;simp at hl;omega
  ·intro e;exact List.eq_nil_of_length_eq_zero (by omega)
 unfold Fd
 rcases kL (by omega) ha 10 with ⟨e1,hlt,e2⟩ | ⟨e1,e2⟩
 ·rw [e1,e2]
  simp only [Option.bind_some,bx,if_true]
  rcases KN (f:=(T.drop (a+1)).length+4) (T:=T) (by omega) (a:=a+1) (by omega) (by omega) with ⟨g,a',e3,h3,e4⟩ | ⟨e3,g,b,e4⟩
  ·rw [e3,e4]
   simp only [Option.bind_some,bx,cU,if_true,fI]
   have h5:=fin a' h3 _ rfl
   rcases Bool.eq_false_or_eq_true ((a':Int)==len T) with hc | hc
   ·have hy:=h5.2 hc
    simp only [hc,hy,if_true]
    exact ⟨a',{s with fGoto:=g},rfl,fun _=>rfl⟩
   ·have hn:¬ T.drop a'=[]:=fun e=>by rw [h5.1 e] at hc;cases hc
    simp only [hc,hn,Bool.false_eq_true,if_false]
    exact ⟨a',{s with fGoto:=g},rfl,fun _=>rfl⟩
  ·rw [e3,e4]
   simp only [Option.bind_some,cU,Bool.false_eq_true,if_false,fI]
   exact ⟨b,{s with fGoto:=g},rfl,fun h=>by simp at h⟩
 ·rw [e1,e2]
  simp only [Option.bind_some,bx,Bool.false_eq_true,if_false,cU,if_true,fI]
  have h5:=fin a ha _ rfl
  rcases Bool.eq_false_or_eq_true ((a:Int)==len T) with hc | hc
  ·have hy:=h5.2 hc
   simp only [hc,hy,if_true]
   exact ⟨a,s,rfl,fun _=>rfl⟩
  ·have hn:¬ T.drop a=[]:=fun e=>by rw [h5.1 e] at hc;cases hc
   simp only [hc,hn,Bool.false_eq_true,if_false]
   exact ⟨a,s,rfl,fun _=>rfl⟩
theorem Ap {T:List ae} (hT:T.length<=120) (hok:∀ t∈T,tOk t) (s:aa):
  ∃ (b:Int) (s':aa),di T 0 s.fLabel s.fHasSubject s.fSubject.fKind s.fSubject.fNum s.fSubject.fText s.fSubject.fKids s.fHasPattern s.fPattern.fKind s.fPattern.fNum s.fPattern.fText s.fPattern.fKids s.fHasReplace s.fReplace.fKind s.fReplace.fNum s.fReplace.fText s.fReplace.fKids s.fGoto.fAlways s.fGoto.fSuccess s.fGoto.fFailure =
   some ((pSt s T).1,bx2 T b s')/\((pSt s T).1=0->s'=(pSt s T).2):=by
 have hE:=yS (T:=T) (a:=0) (Nat.zero_le _)
 rw [List.drop_zero] at hE
 have hE:d6 T 0=some (gz T):=hE
 rw [lf,hE]
 unfold pSt
 simp only [Option.bind_some]
 cases he:gz T with
 | true=>
  simp only [Bool.not_true,Bool.false_eq_true,if_false,if_true]
  have:=Hp hT (a:=0) (Nat.zero_le _) s _ rfl
  rw [List.drop_zero] at this
  exact this
 | false=>
  simp only [Bool.not_false,Bool.false_eq_true,if_false,if_true]
  obtain ⟨a',h1,e1,e2⟩:=IC hT hok (a:=0) (Nat.zero_le _) s
  rw [List.drop_zero] at e1 e2
  have e2:fx T 0 _ _ _ _ _ _ _ _ _ _ _ _ _ _ _ _ _ _ _=_:=e2
  rw [e2,e1]
  simp only [Option.bind_some]
  by_cases hc:(mP s T).1=0
  ·rw [if_neg (by simpa using hc),if_neg (by simpa using hc)]
   exact Hp hT h1 (mP s T).2.1 _ rfl
  ·rw [if_pos (by simpa using hc),if_pos hc]
   exact ⟨a',(mP s T).2.1,rfl,fun _=>rfl⟩
end Go.Dv.U

namespace Go.Dv.U
open Go Go.Dv Go.Proofs
theorem Ff (a b:Int):pn [a,b]=some (if a≠0 then a else b):=by
 have w1:w64 (0+1)=1:=aR (by omega) (by omega)
 have w2:w64 (1+1)=2:=aR (by omega) (by omega)
 have l2:len ([a,b]:List Int)=2:=rfl
 rw [rQ,cn,l2,if_pos (by decide),jQ]
 simp only [List.getElem?_cons_zero,Option.bind_some,w1]
 by_cases ha:a=0
 ·rw [if_neg (by simpa using ha),if_neg (by simpa using ha),cn,if_pos (by decide),pm]
  simp only [List.getElem?_cons_succ,List.getElem?_cons_zero,Option.bind_some,w2]
  by_cases hb:b=0
  ·rw [if_neg (by simpa using hb),cn,if_neg (by decide),hb]
  ·rw [if_pos (by simpa using hb)]
 ·rw [if_pos (by simpa using ha),if_pos ha]
def SB (s:aa):Prop:=s.fSubject.m<=72000/\s.fPattern.m<=72000/\s.fReplace.m<=72000
def SmT (ts:List ae):Prop:=ts.length<=120/\∀ t∈ts,t.fText.length<=200
theorem Aq : lu.m=0:=by unfold lu;rw [pZ];rfl
theorem yT {ts:List ae} (h:SmT ts) (n:Nat):(gq n ts).2.1.m<=72000/\SmT (gq n ts).2.2:=by
 unfold gq
 cases hp:pP (C9 n ts) (.ex n) ts with
 | none=>exact ⟨by rw [Aq];omega,h⟩
 | some p=>
  obtain ⟨x,r⟩:=p
  obtain ⟨h1,h2⟩:=Ix _ _ _ _ _ hp h.2
  have hl:=E4 _ _ _ _ _ hp
  have:=h.1
  simp only [Md.mR,Md.m0] at h2
  simp only
  split
  ·exact ⟨by show x.m<=72000;omega,by show r.length<=120;omega,fun t ht=>h.2 t (h1 t ht)⟩
  ·exact ⟨by show lu.m<=72000;rw [Aq];omega,h⟩
theorem GN {ts q:List ae} (h:SmT ts) (he:jM ts=some q):SmT q:=by
 cases ts with
 | nil=>cases he
 | cons t l=>
  simp only [jM] at he
  split at he
  ·cases he
   have:=h.1
   simp only [List.length_cons] at this
   exact ⟨by omega,fun u hu=>h.2 u (List.mem_cons_of_mem _ hu)⟩
  ·cases he
theorem Fg {s:aa} {ts:List ae} (hs:SB s) (h:SmT ts):SB (Fc s ts).2.1/\(Fc s ts).2.1.fLabel=s.fLabel:=by
 unfold Fc
 cases he:jM ts with
 | none=>exact ⟨hs,rfl⟩
 | some q=>
  simp only
  split
  ·exact ⟨⟨hs.1,hs.2.1,by rw [pZ];simp [aG]⟩,rfl⟩
  ·exact ⟨⟨hs.1,hs.2.1,(yT (GN h he) 1).1⟩,rfl⟩
theorem GO {s:aa} {ts:List ae} (hs:SB s) (h:SmT ts):SB (mP s ts).2.1/\(mP s ts).2.1.fLabel=s.fLabel:=by
 obtain ⟨h1,h2⟩:=yT h 6
 have hs1:SB {s with fHasSubject:=true,fSubject:=(gq 6 ts).2.1}:=⟨h1,hs.2.1,hs.2.2⟩
 unfold mP
 split
 ·exact ⟨hs1,rfl⟩
 unfold Kh
 split
 ·exact Fg hs1 h2
 split
 ·exact ⟨hs1,rfl⟩
 obtain ⟨h3,h4⟩:=yT h2 1
 unfold Kg
 split
 ·exact ⟨⟨h1,h3,hs.2.2⟩,rfl⟩
 ·exact Fg (s:={s with fHasSubject:=true,fSubject:=(gq 6 ts).2.1,fHasPattern:=true,fPattern:=(gq 1 (gq 6 ts).2.2).2.1}) ⟨h1,h3,hs.2.2⟩ h4
theorem Fh {s:aa} {ts:List ae} (hs:SB s):SB (Fd s ts).2/\(Fd s ts).2.fLabel=s.fLabel:=by
 unfold Fd
 split
 ·split
  ·exact ⟨hs,rfl⟩
  ·exact ⟨hs,rfl⟩
 ·exact ⟨hs,rfl⟩
theorem Hq {s:aa} {ts:List ae} (hs:SB s) (h:SmT ts):SB (pSt s ts).2/\(pSt s ts).2.fLabel=s.fLabel:=by
 unfold pSt
 split
 ·exact Fh hs
 obtain ⟨h1,h2⟩:=GO hs h
 split
 ·exact ⟨h1,h2⟩
 ·obtain ⟨h3,h4⟩:=Fh (ts:=(mP s ts).2.2) h1
  exact ⟨h3,h4.trans h2⟩
theorem Bp (lab:List UInt8):SB (pb lab):=⟨by show lu.m<=_;rw [Aq];omega,by show lu.m<=_;rw [Aq];omega,by show lu.m<=_;rw [Aq];omega⟩
def Ki (lab rest:List UInt8):aa×Int:=
 let k:=fu rest
 if k.2.2≠0 then (pb [],k.2.2)
 else
  let p:=pSt (pb lab) k.1
  if p.1≠0 then (pb [],p.1) else if p.2.fLabel=[]/\p.2.fHasSubject=false/\eK p.2.fGoto=true then (pb [],2)
  else if cw p.2=true then (p.2,0) else (pb [],6)
def ID (c:Int) (b:Bool) (s:aa):aa×Int:=if c≠0 then (pb [],c) else if b=false then (pb [],2) else if cw s=true then (s,0) else (pb [],6)
theorem Hr (c:Int) (b:Bool) (x2:List UInt8) (x3:Bool) (x4 x5:Int) (x6:List UInt8) (x7:List ab) (x8:Bool) (x9 x10:Int) (x11:List UInt8) (x12:List ab) (x13:Bool) (x14 x15:Int) (x16:List UInt8) (x17:List ab) (x18 x19 x20:List UInt8) (s:aa) (hs:c=0->SB s):
  aU c b x2 x3 x4 x5 x6 x7 x8 x9 x10 x11 x12 x13 x14 x15 x16 x17 x18 x19 x20 s.fLabel s.fHasSubject s.fSubject.fKind s.fSubject.fNum s.fSubject.fText s.fSubject.fKids s.fHasPattern s.fPattern.fKind s.fPattern.fNum s.fPattern.fText s.fPattern.fKids s.fHasReplace s.fReplace.fKind s.fReplace.fNum s.fReplace.fText s.fReplace.fKids s.fGoto.fAlways s.fGoto.fSuccess s.fGoto.fFailure =
   some (ID c b s):=by
 unfold ID
 have es:aa.mk s.fLabel s.fHasSubject (ab.mk s.fSubject.fKind s.fSubject.fNum s.fSubject.fText s.fSubject.fKids) s.fHasPattern (ab.mk s.fPattern.fKind s.fPattern.fNum s.fPattern.fText s.fPattern.fKids) s.fHasReplace (ab.mk s.fReplace.fKind s.fReplace.fNum s.fReplace.fText s.fReplace.fKids) (az.mk s.fGoto.fAlways s.fGoto.fSuccess s.fGoto.fFailure)=s:=by
  simp only [ab.eta]
 have ez:∀ d:Int,(aa.mk [] false (ab.mk (Int.ofNat 0) (Int.ofNat 0) [] []) false (ab.mk (Int.ofNat 0) (Int.ofNat 0) [] []) false (ab.mk (Int.ofNat 0) (Int.ofNat 0) [] []) (az.mk [] [] []),d)=(pb [],d):=fun d=>rfl
 rw [jH,fI,es]
 by_cases hc:c=0
 ·subst hc
  have hs:=hs rfl
  cases b with
  | false=>
   simp only [Bool.false_eq_true,if_false,Option.bind_some,Ff,ez]
   rfl
  | true=>
   simp only [if_true,Option.bind_some,Ff]
   rw [jD (by have:=hs.1;omega) (by have:=hs.2.1;omega) (by have:=hs.2.2;omega)]
   simp only [Option.bind_some,ez]
   cases cw s<;>simp
 ·have:∀ d:Int,(if c≠0 then c else d)=c:=fun d=>if_pos hc
  have hb:(if b=true then some (0:Int) else some 2)=some (if b=true then 0 else 2):=by cases b<;>rfl
  rw [hb]
  simp only [Option.bind_some,Ff,this,ez]
  rw [if_pos (by simpa using hc),if_pos hc]
theorem KO (s:aa) (c:Int):(if (!s.fLabel==[])=true then some (ID c true s) else if s.fHasSubject=true then some (ID c true s) else some (ID c (!(s.fGoto.fAlways==[]&&(s.fGoto.fSuccess==[]&&(s.fGoto.fFailure==[]&&true)))) s)) =
  some (if c≠0 then (pb [],c) else if s.fLabel=[]/\s.fHasSubject=false/\eK s.fGoto=true then (pb [],2) else if cw s=true then (s,0) else (pb [],6)):=by
 have hg:(s.fGoto.fAlways==[]&&(s.fGoto.fSuccess==[]&&(s.fGoto.fFailure==[]&&true)))=eK s.fGoto:=by
  unfold eK;rw [Bool.and_true,Bool.and_assoc]
 rw [hg]
 unfold ID
 by_cases hc:c=0
 ·by_cases h1:s.fLabel=[]
  ·cases h2:s.fHasSubject<;>cases h3:eK s.fGoto<;>simp [hc,h1]
  ·simp [hc,h1]
 ·simp only [hc,ne_eq,not_false_eq_true,if_true]
  split
  ·rfl
  ·split<;>rfl
theorem Jx {lab rest:List UInt8} (hr:rest.length<=4000) (x1:List UInt8) (x2:Bool) (x3 x4:Int) (x5:List UInt8) (x6:List ab) (x7:Bool) (x8 x9:Int) (x10:List UInt8) (x11:List ab) (x12:Bool) (x13 x14:Int) (x15:List UInt8) (x16:List ab) (x17 x18 x19:List UInt8):
  cW rest x1 x2 x3 x4 x5 x6 x7 x8 x9 x10 x11 x12 x13 x14 x15 x16 x17 x18 x19 lab false 0 0 [] [] false 0 0 [] [] false 0 0 [] [] [] [] []=some (Ki lab rest):=by
 rw [kF,nQ (by omega)]
 simp only [Option.bind_some]
 unfold Ki
 by_cases hk:(fu rest).2.2=0
 ·obtain ⟨_,k2,k3⟩:=Bn hk
  have hk2:((fu rest).2.2==0)=true:=by simpa using hk
  obtain ⟨b,s',e1,e2⟩:=Ap (T:=(fu rest).1) k3 k2 (pb lab)
  have e1:di (fu rest).1 0 lab false 0 0 [] [] false 0 0 [] [] false 0 0 [] [] [] [] []=_:=e1
  have hsm:=Hq (Bp lab) (ts:=(fu rest).1) ⟨k3,fun t ht=>yQ (k2 t ht)⟩
  have hs':(pSt (pb lab) (fu rest).1).1=0->SB s':=fun h=>by rw [e2 h];exact hsm.1
  simp only [hk2,if_true,e1,Option.bind_some,bx2,td,Hr _ _ _ _ _ _ _ _ _ _ _ _ _ _ _ _ _ _ _ _ _ s' hs',hk,ne_eq,not_true_eq_false,if_false]
  refine (KO s' _).trans ?_
  by_cases hc:(pSt (pb lab) (fu rest).1).1=0
  ·rw [e2 hc]
  ·simp only [hc,ne_eq,not_false_eq_true,if_true]
 ·have hk2:((fu rest).2.2==0)=false:=by simpa using hk
  have L:∀ b:Bool,aU (fu rest).2.2 b x1 x2 x3 x4 x5 x6 x7 x8 x9 x10 x11 x12 x13 x14 x15 x16 x17 x18 x19 lab false 0 0 [] [] false 0 0 [] [] false 0 0 [] [] [] [] []=some (pb [],(fu rest).2.2):=fun b=>by
   have:=Hr (fu rest).2.2 b x1 x2 x3 x4 x5 x6 x7 x8 x9 x10 x11 x12 x13 x14 x15 x16 x17 x18 x19 (pb lab) (fun h=>absurd h hk)
   unfold ID at this
   rw [if_pos hk] at this
   exact this
  simp only [hk2,Bool.false_eq_true,if_false,L,hk,ne_eq,not_false_eq_true,if_true]
  split
  ·rfl
  ·rfl
theorem Fi (s:List UInt8):kM s=if 4000<s.length\/dJ s=false then (pb [],1) else if oR s=false/\bi (if oR s=true then [] else (Lib.cut s [32]).1)=false then (pb [],2) else Ki (if oR s=true then [] else (Lib.cut s [32]).1) (s.drop (if oR s=true then [] else (Lib.cut s [32]).1).length):=rfl
theorem sK {s:List UInt8} (h:s.length<=1000000000):ir s=some (kM s):=by
 rw [py,Fi]
 by_cases hl:4000<s.length
 ·rw [if_pos (by simp [aj];omega),if_pos (.inl hl)];rfl
 rw [if_neg (by simp [aj];omega),fC (by omega)]
 simp only [Option.bind_some]
 cases hp:dJ s with
 | false=>rw [if_pos (by rfl),if_pos (.inr rfl)];rfl
 | true=>
  have hf:cM s [32]=some (oR s):=by
   rw [mf];cases s<;>rfl
  rw [if_neg (by decide),if_neg (by simp;omega),hf]
  simp only [Option.bind_some]
  cases hs:oR s with
  | true=>
   simp only [Bool.not_true,Bool.false_eq_true,if_false,if_true,Bool.true_eq_false,false_and]
   exact Jx (by omega) _ _ _ _ _ _ _ _ _ _ _ _ _ _ _ _ _ _ _
  | false=>
   have hcl:(Lib.cut s [32]).1.length<=s.length:=by
    unfold Lib.cut
    split
    ·simp only [List.length_take];omega
    ·exact Nat.le_refl _
   simp only [Bool.not_false,if_true,Bool.false_eq_true,if_false,true_and]
   unfold Gq
   rw [if_pos (by omega)]
   simp only [Option.bind_some,Option.getD_none,aj]
   rw [kU hcl (Nat.le_refl _),nR]
   simp only [Option.bind_some,List.take_length]
   cases hn:bi (Lib.cut s [32]).1 with
   | false=>rfl
   | true=>
    simp only [Bool.not_true,Bool.false_eq_true,if_false,Bool.true_eq_false]
    exact Jx (by rw [List.length_drop];omega) _ _ _ _ _ _ _ _ _ _ _ _ _ _ _ _ _ _ _
end Go.Dv.U

namespace Go.Dv.U
open Go Go.Dv Go.Proofs
theorem mh (xs:List (List UInt8)) (hx:xs≠[]) (hl:∀ t∈xs,t.length<=20) {c:List Int} {a s B:Int} (h:ef c a B) (hB:B<=4611686018427387000):Dr (aT xs c a s) (B+2) (fun v=>v.length<=20):=
 (tZ xs hx h hB).le (Int.le_refl _) fun v hv=>hl v hv
theorem nY (k n:Int) (t:List UInt8) (ks:List ab):(ab.mk k n t ks).m=t.length+(ks.length+aG ab.m ks):=ab.m_eq _
theorem Dd (e:ab):ab.mk e.fKind e.fNum e.fText e.fKids=e:=by cases e;rfl
theorem gn {c:List Int} {a s B:Int} (h:ef c a B) (hB:B<=4611686018427380000) (x3 x4:Int) (x5:List UInt8) (x6:List ab):Dr (fP c a s x3 x4 x5 x6) (B+10) (fun e=>e.m<=20):=by
 rw [vG]
 refine (mh _ (by simp) (by decide) h (by omega)).bind fun v c a s h hv=>?_
 exact Dr.some (h.le (by omega)) (by rw [nY];simp [aG];omega)
theorem nZ {c:List Int} {a s B:Int} (x0:Int) (h:ef c a B) (hB:B<=4611686018427380000) (x3 x4:Int) (x5:List UInt8) (x6:List ab):Dr (jW x0 c a s x3 x4 x5 x6) (B+10) (fun e=>e.m<=20):=by
 rw [vH]
 split
 ·refine (ln _ (by simp) h (by omega)).bind fun v c a s h hv=>?_
  exact Dr.some (h.le (by omega)) (by rw [nY];simp [aG])
 split
 ·refine (ln _ (by simp) h (by omega)).bind fun v c a s h hv=>?_
  exact Dr.some (h.le (by omega)) (by rw [nY];simp [aG])
 split
 ·refine (aK _ h (by omega)).bind fun v c a s h hv=>?_
  simp only
  refine (mh _ (by simp) (by decide) h (by omega)).bind fun v c a s h hv=>?_
  exact Dr.some (h.le (by omega)) (by rw [nY];simp [aG];omega)
 ·refine (mh _ (by simp) (by decide) h (by omega)).bind fun v c a s h hv=>?_
  exact Dr.some (h.le (by omega)) (by rw [nY];simp [aG];omega)
theorem GP (l:List ab) (e:ab):aG ab.m (l++[e])=aG ab.m l+e.m:=by
 induction l with
 | nil=>simp [aG]
 | cons y r ih=>simp only [List.cons_append,aG,ih];omega
theorem ud (n:Nat) (p:Nat) (hp:1<=p) (hp2:p<=1000) (ih:∀ {c:List Int} {a s B:Int},ef c a B->B+100*p<=4611686018427000000->Dr (cR (n:Int) c a s) (B+100*p) (fun e=>e.m<=40*p)) (hn:n<=100) (x5 x6:Int) (x7:List UInt8) (x8:List ab) (x9 x10:Int) (x11:List UInt8) (h11:x11.length<=20):
  ∀ (k:Nat) {c:List Int} {a s B:Int} (acc:List ab),ef c a B->B+100*p*k<=4611686018427000000->acc.length+k<=2->aG ab.m acc+40*p*k<=80*p->Dr (iT ((n+1:Nat):Int) (k:Int) c a s x5 x6 x7 x8 x9 x10 x11 acc) (B+100*p*k) (fun e=>e.m<=80*p+22):=by
 intro k
 induction k with
 | zero=>
  intro c a s B acc h hB hl hm
  rw [mv,if_neg (by simp)]
  exact Dr.some (h.le (by simp)) (by rw [nY];omega)
 | succ k ihk=>
  intro c a s B acc h hB hl hm
  have e1:100*(p:Int)*((k+1:Nat):Int)=100*p*k+100*p:=by
   rw [show ((k+1:Nat):Int)=(k:Int)+1 by omega,Int.mul_add,Int.mul_one]
  have e2:40*p*(k+1)=40*p*k+40*p:=by rw [Nat.mul_add,Nat.mul_one]
  have e3:0<=100*(p:Int)*(k:Int):=Int.mul_nonneg (by omega) (by omega)
  rw [e1] at hB ⊢
  rw [e2] at hm
  rw [mv,if_pos (by simp only [decide_eq_true_eq];omega)]
  have w1:w64 (((n+1:Nat):Int)-1)=(n:Int):=by rw [aR (by omega) (by omega)];omega
  have w2:w64 (((k+1:Nat):Int)-1)=(k:Int):=by rw [aR (by omega) (by omega)];omega
  rw [w1,w2]
  refine (ih h (by omega)).bind fun v c a s h hv=>?_
  simp only
  rw [av (by simp;omega)]
  simp only [Option.bind_some]
  refine (ihk (acc++[v]) h (by omega) (by simp;omega) (by rw [GP];omega)).le (by omega) fun _ h=>h
theorem tf : ∀ (n p:Nat),n<=3->p=4 ^ n->∀ {c:List Int} {a s B:Int},ef c a B->B+100*p<=4611686018427000000->Dr (cR (n:Int) c a s) (B+100*p) (fun e=>e.m<=40*p):=by
 intro n
 induction n with
 | zero=>
  intro p _ hp c a s B h hB
  have hp1:p=1:=by simpa using hp
  subst hp1
  rw [s7,if_pos (by simp)]
  refine (aK _ h (by omega)).bind fun v c a s h hv=>?_
  simp only
  split
  ·exact (gn h (by omega) _ _ _ _).le (by omega) fun e he=>by omega
  split
  ·exact (gn h (by omega) _ _ _ _).le (by omega) fun e he=>by omega
  ·exact (nZ _ h (by omega) _ _ _ _).le (by omega) fun e he=>by omega
 | succ n ihn=>
  intro P hn hP c a s B h hB
  have hP2:P=4*4 ^ n:=by rw [hP,Nat.pow_succ];omega
  have hpos:1<=4 ^ n:=by
   rcases Nat.eq_zero_or_pos (4 ^ n) with e | e
   ·simp at e
   ·exact e
  have hle:4 ^ n<=16:=Nat.pow_le_pow_right (n:=4) (by omega) (show n<=2 by omega)
  have ih:=@ihn (4 ^ n) (by omega) rfl
  generalize 4 ^ n=p at hP2 hpos hle ih
  have w1:w64 (((n+1:Nat):Int)-1)=(n:Int):=by rw [aR (by omega) (by omega)];omega
  rw [s7,if_neg (by simp;omega),w1]
  refine (dG _ h (by omega)).bind fun v c a s h _=>?_
  simp only
  split
  ·refine (aK _ h (by omega)).bind fun v c a s h hv=>?_
   simp only
   split
   ·exact (gn h (by omega) _ _ _ _).le (by omega) fun e he=>by omega
   split
   ·exact (gn h (by omega) _ _ _ _).le (by omega) fun e he=>by omega
   ·exact (nZ _ h (by omega) _ _ _ _).le (by omega) fun e he=>by omega
  ·refine (ih h (by omega)).bind fun A c a s h hA=>?_
   simp only
   refine (aK _ h (by omega)).bind fun v c a s h hv=>?_
   simp only [Dd]
   split
   ·refine (aK _ h (by omega)).bind fun v c a s h hv=>?_
    simp only [Dd,ab.re_eq]
    exact Dr.some (h.le (by omega)) (by rw [nY];simp [aG];omega)
   split
   ·refine (aK _ h (by omega)).bind fun v c a s h hv=>?_
    simp only
    refine (mh _ (by simp) (by decide) h (by omega)).bind fun v c a s h hv=>?_
    simp only [nw,Option.bind_some,Dd,ab.re_eq]
    exact Dr.some (h.le (by omega)) (by rw [nY];simp [aG,nY];omega)
   split
   ·refine (mh _ (by simp) (by decide) h (by omega)).bind fun t c a s h ht=>?_
    simp only
    refine (aK _ h (by omega)).bind fun v c a s h hv=>?_
    simp only
    obtain ⟨k,rfl⟩:∃ k:Nat,v=k:=⟨v.toNat,by omega⟩
    have hk:k<=2:=by have:=hv.2.1 (by decide);omega
    have e1:100*(p:Int)*(k:Int)<=200*p:=by
     have:100*(p:Int)*(k:Int)<=100*p*2:=Int.mul_le_mul_of_nonneg_left (by omega) (by omega)
     omega
    have e2:40*p*k<=80*p:=by
     have:40*p*k<=40*p*2:=Nat.mul_le_mul_left _ hk
     omega
    refine (ud n p hpos (by omega) ih (by omega) _ _ _ _ _ _ _ ht k [] h (by omega) (by simp;omega) (by simpa [aG] using e2)).le (by omega) fun e he=>by omega
   split
   ·refine (ih h (by omega)).bind fun D c a s h hD=>?_
    simp only [nw,Option.bind_some,Dd,ab.re_eq]
    exact Dr.some (h.le (by omega)) (by rw [nY];simp [aG];omega)
   ·refine (aK _ h (by omega)).bind fun v c a s h hv=>?_
    simp only
    refine (ih h (by omega)).bind fun D c a s h hD=>?_
    simp only [nw,Option.bind_some,Dd,ab.re_eq]
    exact Dr.some (h.le (by omega)) (by rw [nY];simp [aG];omega)
theorem GQ {c:List Int} {a s B:Int} (h:ef c a B) (hB:B<=4611686018426990000):Dr (cR 2 c a s) (B+6400) (fun e=>e.fText.length+(e.fKids.length+aG ab.m e.fKids)<=2560):=
 (tf 2 16 (by omega) rfl h (by omega)).le (by omega) fun e he=>by rw [<-ab.m_eq];omega
theorem GR {c:List Int} {a s B:Int} (h:ef c a B) (hB:B<=4611686018426990000):Dr (cR 3 c a s) (B+6400) (fun e=>e.fText.length+(e.fKids.length+aG ab.m e.fKids)<=2560):=
 (tf 3 64 (by omega) rfl h (by omega)).le (by omega) fun e he=>by rw [<-ab.m_eq];omega
theorem kt {c:List Int} {a s B:Int} (h:ef c a B) (hB:B<=4611686018427300000):Dr (bW c a s) (B+2) (fun v=>v.length<=20):=by
 rw [rK]
 refine (mh _ (by simp) (by decide) h (by omega)).bind fun v c a s h hv=>?_
 exact Dr.some h hv
theorem IE {c:List Int} {a s B:Int} (h:ef c a B) (hB:B<=4611686018427200000):Dr (lC c a s) (B+20) (fun g=>g.fAlways.length<=20/\g.fSuccess.length<=20/\g.fFailure.length<=20):=by
 rw [tu]
 refine (aK _ h (by omega)).bind fun v c a s h hv=>?_
 simp only
 split
 ·refine (kt h (by omega)).bind fun v c a s h hv=>?_
  exact Dr.some (h.le (by omega)) ⟨hv,by simp,by simp⟩
 split
 ·refine (kt h (by omega)).bind fun v c a s h hv=>?_
  exact Dr.some (h.le (by omega)) ⟨by simp,hv,by simp⟩
 split
 ·refine (kt h (by omega)).bind fun v c a s h hv=>?_
  exact Dr.some (h.le (by omega)) ⟨by simp,by simp,hv⟩
 split
 ·refine (kt h (by omega)).bind fun v c a s h hv=>?_
  simp only
  refine (kt h (by omega)).bind fun u c a s h hu=>?_
  exact Dr.some (h.le (by omega)) ⟨by simp,hv,hu⟩
 split
 ·refine (dG _ h (by omega)).bind fun v c a s h _=>?_
  simp only
  split
  ·refine (kt h (by omega)).bind fun v c a s h hv=>?_
   simp only
   refine (kt h (by omega)).bind fun u c a s h hu=>?_
   exact Dr.some (h.le (by omega)) ⟨hv,by simp,hu⟩
  ·exact Dr.some (h.le (by omega)) ⟨by simp,by simp,by simp⟩
 ·exact Dr.some (h.le (by omega)) ⟨by simp,by simp,by simp⟩
end Go.Dv.U

namespace Go.Dv.U
open Go Go.Dv Go.Proofs
set_option maxHeartbeats 8000000 in
theorem Ar {c:List Int} {a s B:Int} (h:ef c a B) (hB:B<=4611686018426900000):Dr (vf c a s) (B+30000) (fun x=>x.m<=9000):=by
 rw [zD]
 refine (IE h (by omega)).bind fun g c a s h hg=>?_
 dsimp only
 obtain ⟨hg1,hg2,hg3⟩:=hg
 repeat' first
  | (rw [tF];exact Dr.some (h.le (by omega)) (by simp only [aa.m_eq,nY,az.m_eq,aG,List.length_nil];omega))
  | (rw [pI];exact Dr.some (h.le (by omega)) (by simp only [aa.m_eq,nY,az.m_eq,aG,List.length_nil];omega))
  | (rw [pJ];exact Dr.some (h.le (by omega)) (by simp only [aa.m_eq,nY,az.m_eq,aG,List.length_nil];omega))
  | (rw [pK];exact Dr.some (h.le (by omega)) (by simp only [aa.m_eq,nY,az.m_eq,aG,List.length_nil];omega))
  | (rw [pL];exact Dr.some (h.le (by omega)) (by simp only [aa.m_eq,nY,az.m_eq,aG,List.length_nil];omega))
  | rw [tz]
  | rw [pC]
  | rw [pD]
  | rw [pE]
  | rw [pF]
  | rw [tv]
  | rw [pB]
  | (refine (dG _ h (by omega)).bind fun v c a s h _=>?_;dsimp only)
  | (refine (aK _ h (by omega)).bind fun v c a s h _=>?_;dsimp only)
  | (refine (kt h (by omega)).bind fun v c a s h hv=>?_;dsimp only)
  | (refine (mh _ (by simp) (by decide) h (by omega)).bind fun v c a s h hv=>?_;dsimp only)
  | (refine (GQ h (by omega)).bind fun v c a s h hv=>?_;dsimp only)
  | (refine (GR h (by omega)).bind fun v c a s h hv=>?_;dsimp only)
  | split
def oS (xs:List aa) (n:Nat):Prop:=xs.length<=n/\aG aa.m xs<=10000*xs.length
theorem Fj (l:List aa) (e:aa):aG aa.m (l++[e])=aG aa.m l+e.m:=by
 induction l with
 | nil=>simp [aG]
 | cons y r ih=>simp only [List.cons_append,aG,ih];omega
theorem oS.snoc {xs:List aa} {n:Nat} (h:oS xs n) {e:aa} (he:e.m<=10000):oS (xs++[e]) (n+1):=by
 refine ⟨by simp only [List.length_append,List.length_singleton];have:=h.1;omega,?_⟩
 rw [Fj]
 have:=h.2
 simp only [List.length_append,List.length_singleton];omega
theorem oS.le {xs:List aa} {n m:Nat} (h:oS xs n) (hm:n<=m):oS xs m:=⟨by have:=h.1;omega,h.2⟩
theorem oS.prog {xs:List aa} (h:oS xs 90):(ak.mk xs).m<=1000000:=by
 rw [ak.m_eq]
 have h1:=h.1
 have h2:=h.2
 show xs.length+aG aa.m xs<=_
 omega
theorem oS.prog2 {xs:List aa} (h:oS xs 90):(ak.mk xs).m<=1000000/\(ak.mk xs).fStatements.length<=90:=⟨h.prog,h.1⟩
theorem ue (x3:List aa):∀ (d:Nat) {c:List Int} {a s B:Int} (xs:List aa),ef c a B->B+2*d<=4611686018427000000->oS xs 85->83<=xs.length+d->1<=d->Dr (iV c a s x3 xs) (B+2*d) (fun p=>p.m<=1000000/\p.fStatements.length<=90):=by
 intro d
 induction d with
 | zero=>intro c a s B xs h hB hx hd h1;omega
 | succ d ih=>
  intro c a s B xs h hB hx hd h1
  rw [tL]
  refine (aK _ h (by omega)).bind fun v c a s h hv=>?_
  dsimp only
  have hv4:=hv.2.1 (by decide)
  have hv0:=hv.1
  have hx1:=hx.1
  rw [aR (n:=79+v) (by omega) (by omega)]
  split
  ·rename_i hc
   simp only [aj,decide_eq_true_eq] at hc
   rw [av (by simp;omega)]
   simp only [Option.bind_some]
   by_cases hd0:d=0
   ·subst hd0;omega
   ·refine (ih _ h (by omega) ((hx.snoc (e:=aa.mk [] true (ab.mk (Int.ofNat 3) (Int.ofNat 0) [65] []) false (ab.mk (Int.ofNat 0) (Int.ofNat 0) [] []) false (ab.mk (Int.ofNat 0) (Int.ofNat 0) [] []) (az.mk [] [] [])) (by simp [aa.m_eq,nY,az.m_eq,aG])) |> fun q=>⟨by simp;omega,q.2⟩) (by simp;omega) (by omega)).le (by omega) fun _ q=>q
  ·exact Dr.some (h.le (by omega)) (oS.prog2 (hx.le (by omega)))
theorem Bq {p:ak} (hp:p.fStatements.length<=80) (l:List UInt8):∃ v,jf p l=some v:=by
 by_cases hl:(l==[])=true
 ·have:l=[]:=by simpa using hl
  rw [this];exact ⟨_,wU hp⟩
 ·exact ⟨_,qN hp (by simpa using hl)⟩
theorem wk (x4:List aa):∀ (k:Nat) {c:List Int} {a s B:Int} (xs:List aa),ef c a B->B+40000*(k+1)<=4611686018426800000->k+xs.length<=20->oS xs 20->Dr (jU ((k:Int)-1) c a s x4 xs) (B+40000*(k+1)) (fun p=>p.m<=1000000/\p.fStatements.length<=90):=by
 intro k
 induction k with
 | zero=>
  intro c a s B xs h hB hl hx
  rw [nu,if_neg (by simp)]
  refine (dG _ h (by omega)).bind fun v c a s h _=>?_
  dsimp only
  split
  ·exact (ue x4 100 xs h (by omega) (hx.le (by omega)) (by omega) (by omega)).le (by omega) fun _ q=>q
  ·exact Dr.some (h.le (by omega)) (oS.prog2 (hx.le (by omega)))
 | succ k ih=>
  intro c a s B xs h hB hl hx
  have hx1:=hx.1
  have hkk:((k+1:Nat):Int)-1=(k:Int):=by omega
  have hL4:∀ {c:List Int} {a s:Int} (ys:List aa),ef c a (B+40000)->ys.length<=xs.length+1->oS ys 20->Dr (hY ((k+1:Nat)-1:Int) c a s x4 ys) (B+40000*((k+1:Nat)+1)) (fun p=>p.m<=1000000/\p.fStatements.length<=90):=by
   intro c a s ys h1 h2 h3
   rw [vO,hkk,aR (by omega) (by omega)]
   exact (ih ys h1 (by omega) (by omega) h3).le (by omega) fun _ q=>q
  have hL8:∀ {c:List Int} {a s:Int} (S:aa) (l:List UInt8),ef c a (B+39000)->S.m<=9000->l.length<=S.fLabel.length->Dr (g9 ((k+1:Nat)-1:Int) c a s x4 xs l S.fHasSubject S.fSubject.fKind S.fSubject.fNum S.fSubject.fText S.fSubject.fKids S.fHasPattern S.fPattern.fKind S.fPattern.fNum S.fPattern.fText S.fPattern.fKids S.fHasReplace S.fReplace.fKind S.fReplace.fNum S.fReplace.fText S.fReplace.fKids S.fGoto.fAlways S.fGoto.fSuccess S.fGoto.fFailure) (B+40000*((k+1:Nat)+1)) (fun p=>p.m<=1000000/\p.fStatements.length<=90):=by
   intro c a s S l h1 hS hl
   have hSq:=S.m_eq
   have hTm:(aa.mk l S.fHasSubject S.fSubject S.fHasPattern S.fPattern S.fHasReplace S.fReplace S.fGoto).m<=9000:=by
    rw [aa.m_eq];show l.length+S.fSubject.m+S.fPattern.m+S.fReplace.m+S.fGoto.m<=9000;omega
   rw [vK]
   refine (dG _ h1 (by omega)).bind fun v c a s h1 _=>?_
   dsimp only
   simp only [Dd]
   have happ:app xs [aa.mk l S.fHasSubject S.fSubject S.fHasPattern S.fPattern S.fHasReplace S.fReplace (az.mk S.fGoto.fAlways S.fGoto.fSuccess S.fGoto.fFailure)]=some (xs++[aa.mk l S.fHasSubject S.fSubject S.fHasPattern S.fPattern S.fHasReplace S.fReplace S.fGoto]):=av (by simp;omega)
   have hsn:oS (xs++[aa.mk l S.fHasSubject S.fSubject S.fHasPattern S.fPattern S.fHasReplace S.fReplace S.fGoto]) 20:=by
    have:=hx.snoc (e:=aa.mk l S.fHasSubject S.fSubject S.fHasPattern S.fPattern S.fHasReplace S.fReplace S.fGoto) (by omega)
    exact ⟨by simp;omega,this.2⟩
   split
   ·rw [happ]
    simp only [Option.bind_some]
    exact hL4 _ (h1.le (by omega)) (by simp) hsn
   ·have hvs:=fM (s:=aa.mk l S.fHasSubject S.fSubject S.fHasPattern S.fPattern S.fHasReplace S.fReplace (az.mk S.fGoto.fAlways S.fGoto.fSuccess S.fGoto.fFailure)) (by show S.fSubject.m<=_;omega) (by show S.fPattern.m<=_;omega) (by show S.fReplace.m<=_;omega)
    rw [hvs]
    simp only [Option.bind_some]
    split
    ·rw [happ]
     simp only [Option.bind_some]
     exact hL4 _ (h1.le (by omega)) (by simp) hsn
    ·exact hL4 _ (h1.le (by omega)) (by omega) hx
  rw [nu,if_pos (by simp only [decide_eq_true_eq];omega)]
  refine (Ar h (by omega)).bind fun S c a s h hS=>?_
  dsimp only
  refine (dG _ h (by omega)).bind fun v c a s h _=>?_
  dsimp only
  split
  ·obtain ⟨v,hv⟩:=Bq (p:=ak.mk xs) (show xs.length<=80 by omega) S.fLabel
   rw [hv]
   simp only [Option.bind_some,my]
   split
   ·rw [ny];exact hL8 S [] (h.le (by omega)) hS (by simp)
   ·split
    ·rw [ny];exact hL8 S [] (h.le (by omega)) hS (by simp)
    ·exact hL8 S S.fLabel (h.le (by omega)) hS (Nat.le_refl _)
  ·exact hL8 S S.fLabel (h.le (by omega)) hS (Nat.le_refl _)
theorem qS {c:List Int} {a s B:Int} (h:ef c a B) (hB:B<=4611686018400000000):Dr (m9 c a s) (B+1000000) (fun p=>p.m<=1000000/\p.fStatements.length<=90):=by
 rw [zH]
 refine (aK _ h (by omega)).bind fun v c a s h hv=>?_
 dsimp only
 have hv6:=hv.2.1 (by decide)
 obtain ⟨k,hk⟩:∃ k:Nat,v=(k:Int)-1:=⟨v.toNat+1,by have:=hv.1;omega⟩
 subst hk
 exact (wk [] k [] h (by omega) (by simp;omega) ⟨by simp,by simp [aG]⟩).le (by omega) fun _ q=>q
theorem As {c:List Int} {a s B:Int} (h:ef c a B) (hB:B<=4611686018400000000):Dr (m9 c a s) (B+1000000) (fun p=>p.m<=1000000):=(qS h hB).le (Int.le_refl _) fun _ q=>q.1
end Go.Dv.U

namespace Go.Dv.U
open Go Go.Dv Go.Proofs
theorem IF : ∀ (N:Nat) (e:ab),e.m<N->N<=1100000->qt e.fKind e.fNum e.fText e.fKids e.fKind e.fNum e.fText e.fKids=some true:=by
 intro N
 induction N with
 | zero=>intro e h;omega
 | succ N ih=>
  intro e h hN
  have hm:=e.m_eq
  rw [s8,if_neg (by simp),if_neg (by simp),if_neg (by simp),if_neg (by simp),nD]
  refine bL (xs:=e.fKids) (by omega) (P:=fun i _=>kc e.fKind e.fNum e.fText e.fKids e.fKind e.fNum e.fText e.fKids (i:Int)=some true) ?_ ?_
  ·rw [jy,if_neg (by simp [aj])]
  ·intro i y l _ hlt hy hi hw ih2
   have:=jl (m:=ab.m) hy
   have hpos:0<e.fKids.length:=List.length_pos_of_mem hy
   rw [jy,if_pos (by simp [aj];omega),hi]
   simp only [Option.bind_some]
   rw [ih y (by omega) (by omega)]
   simp only [Option.bind_some,Bool.not_true,Bool.false_eq_true,if_false,hw]
   exact ih2
theorem GS {s:aa} (h1:s.fSubject.m<=1048576) (h2:s.fPattern.m<=1048576) (h3:s.fReplace.m<=1048576):jm s s=some true:=by
 have key:∀ e:ab,e.m<=1048576->je (ab.mk e.fKind e.fNum e.fText e.fKids) (ab.mk e.fKind e.fNum e.fText e.fKids)=some true:=by
  intro e he
  rw [ab.eta,qA,IF 1048577 e (by omega) (by omega)];rfl
 rw [qz,if_neg (by simp),if_neg (by simp),if_neg (by simp),if_neg (by simp),if_neg (by simp),nr,key _ h1,key _ h2,key _ h3]
 rfl
theorem Hs (x:aa):aa.mk x.fLabel x.fHasSubject x.fSubject x.fHasPattern x.fPattern x.fHasReplace x.fReplace x.fGoto=x:=rfl
theorem IG {x:aa} {n:Nat} (h:x.m<=n):x.fSubject.m<=n/\x.fPattern.m<=n/\x.fReplace.m<=n:=by
 have:=x.m_eq;omega
theorem GU {s:aa} (h:cw s=true):(cd s).length<=4000:=by
 unfold cw at h
 simp only [Bool.and_eq_true_iff,decide_eq_true_eq] at h
 exact h.2.1
theorem IH (t:List UInt8):SB (kM t).1:=by
 have hz:SB (pb []):=Bp []
 rw [Fi]
 split
 ·exact hz
 generalize (if oR t=true then [] else (Lib.cut t [32]).1)=lab
 split
 ·exact hz
 unfold Ki
 simp only
 split
 ·exact hz
 rename_i hk
 have hk:(fu (t.drop lab.length)).2.2=0:=by simpa using hk
 obtain ⟨_,k2,k3⟩:=Bn hk
 split
 ·exact hz
 split
 ·exact hz
 split
 ·exact (Hq (Bp lab) ⟨k3,fun t ht=>yQ (k2 t ht)⟩).1
 ·exact hz
end Go.Dv.U

namespace Go.Dv.U
open Go Go.Dv Go.Proofs
def tg (acc:List aa) (l:List UInt8):Bool:=!(l==[])&&(FA l||decide (0<=ixP acc l))
def pLn : List aP->List aa->ak×Int×Int
 | [],acc=>if 4000<(mN acc).length then (⟨[]⟩,0,6) else (⟨acc⟩,0,0)
 | y:: r,acc=>
  if (kM y.fText).2≠0 then (⟨[]⟩,y.fNumber,(kM y.fText).2)
  else if tg acc (kM y.fText).1.fLabel=true then (⟨[]⟩,y.fNumber,10)
  else if acc.length<80 then pLn r (acc++[(kM y.fText).1]) else (⟨[]⟩,y.fNumber,6)
def Fk (s:List UInt8):ak×Int×Int:=if (LL s).2.2≠0 then (⟨[]⟩,(LL s).2.1,(LL s).2.2) else pLn (LL s).1 []
theorem Jy (a b c:Int):pn [a,b,c]=some (if a≠0 then a else if b≠0 then b else c):=by
 have w1:w64 (0+1)=1:=aR (by omega) (by omega)
 have w2:w64 (1+1)=2:=aR (by omega) (by omega)
 have w3:w64 (2+1)=3:=aR (by omega) (by omega)
 have l3:len ([a,b,c]:List Int)=3:=rfl
 have i2:idx ([a,b,c]:List Int) 2=some c:=rfl
 rw [rQ,cn,l3,if_pos (by decide),jQ]
 simp only [List.getElem?_cons_zero,Option.bind_some,w1]
 by_cases ha:a=0
 ·rw [if_neg (by simpa using ha),if_neg (by simpa using ha),cn,if_pos (by decide),pm]
  simp only [List.getElem?_cons_succ,List.getElem?_cons_zero,Option.bind_some,w2]
  by_cases hb:b=0
  ·rw [if_neg (by simpa using hb),if_neg (by simpa using hb),cn,if_pos (by decide),i2]
   simp only [Option.bind_some,w3]
   by_cases hc:c=0
   ·rw [if_neg (by simpa using hc),cn,if_neg (by decide),hc]
   ·rw [if_pos (by simpa using hc)]
  ·rw [if_pos (by simpa using hb),if_pos hb]
 ·rw [if_pos (by simpa using ha),if_pos ha]
theorem Jz (x:aa):aa.mk x.fLabel x.fHasSubject (ab.mk x.fSubject.fKind x.fSubject.fNum x.fSubject.fText x.fSubject.fKids) x.fHasPattern (ab.mk x.fPattern.fKind x.fPattern.fNum x.fPattern.fText x.fPattern.fKids) x.fHasReplace (ab.mk x.fReplace.fKind x.fReplace.fNum x.fReplace.fText x.fReplace.fKids) (az.mk x.fGoto.fAlways x.fGoto.fSuccess x.fGoto.fFailure)=x:=by
 simp only [ab.eta]
theorem II (c:Int) (b:Bool) (ls:List aP) (n:Int) (i:Nat) (z acc:List aa) (num:Int) (tx:List UInt8) (s:aa) (hi:i<=1000000000) (ha:acc.length<=100000):
  ct c b ls n i z acc num tx s.fLabel s.fHasSubject s.fSubject.fKind s.fSubject.fNum s.fSubject.fText s.fSubject.fKids s.fHasPattern s.fPattern.fKind s.fPattern.fNum s.fPattern.fText s.fPattern.fKids s.fHasReplace s.fReplace.fKind s.fReplace.fNum s.fReplace.fText s.fReplace.fKids s.fGoto.fAlways s.fGoto.fSuccess s.fGoto.fFailure =
   if c≠0 then some (⟨[]⟩,num,c) else if b=true then some (⟨[]⟩,num,10) else if acc.length<80 then cN ls n ((i+1:Nat):Int) z (acc++[s]) else some (⟨[]⟩,num,6):=by
 have w:w64 ((i:Int)+1)=((i+1:Nat):Int):=by rw [aR (by omega) (by omega)];omega
 have u1:f9 (!b) 10=some (if b=true then 10 else 0):=by rw [fI];cases b<;>rfl
 have u2:f9 (decide (len acc<80)) 6=some (if acc.length<80 then 0 else 6):=by
  rw [fI,aj]
  by_cases h:acc.length<80
  ·rw [if_pos (by simp;omega),if_pos h]
  ·rw [if_neg (by simp;omega),if_neg h]
 rw [nv,u1,u2,av (by simp;omega),Jz,w]
 simp only [Option.bind_some,Jy]
 by_cases hc:c=0
 ·subst hc
  cases b with
  | true=>simp
  | false=>
   by_cases h:acc.length<80
   ·simp [h]
   ·simp [h]
 ·rw [if_pos hc,if_pos (by simpa using hc)]
  simp [hc]
theorem JA {ls:List aP} (hl:ls.length<=1000000000) (ht:∀ y∈ls,y.fText.length<=1000000000) (z:List aa):∀ acc:List aa,acc.length<=80->(∀ y∈acc,cw y=true)->cN ls (len ls) 0 z acc=some (pLn ls acc):=by
 refine bL (xs:=ls) (by omega) (P:=fun i l=>∀ acc:List aa,acc.length<=80->(∀ y∈acc,cw y=true)->cN ls (len ls) (i:Int) z acc=some (pLn l acc)) ?_ ?_
 ·intro acc ha hv
  have hf:∀ y∈(ak.mk acc).fStatements,gm y=true:=fun y hy=>jE (hv y hy)
  rw [iG,if_neg (by simp [aj]),gT ha hf]
  simp only [Option.bind_some,pLn]
  by_cases h:4000<(mN acc).length
  ·rw [if_pos (by simp [aj];omega),if_pos h]
  ·rw [if_neg (by simp [aj];omega),if_neg h]
 ·intro i y l _ hlt hy hi hw ih acc ha hv
  rw [iG,if_pos (by simp [aj];omega),hi]
  simp only [Option.bind_some]
  rw [sK (ht y hy)]
  simp only [Option.bind_some]
  have fin:∀ b:Bool,b=tg acc (kM y.fText).1.fLabel->ct (kM y.fText).2 b ls (len ls) i z acc y.fNumber y.fText (kM y.fText).1.fLabel (kM y.fText).1.fHasSubject (kM y.fText).1.fSubject.fKind (kM y.fText).1.fSubject.fNum (kM y.fText).1.fSubject.fText (kM y.fText).1.fSubject.fKids (kM y.fText).1.fHasPattern (kM y.fText).1.fPattern.fKind (kM y.fText).1.fPattern.fNum (kM y.fText).1.fPattern.fText (kM y.fText).1.fPattern.fKids (kM y.fText).1.fHasReplace (kM y.fText).1.fReplace.fKind (kM y.fText).1.fReplace.fNum (kM y.fText).1.fReplace.fText (kM y.fText).1.fReplace.fKids (kM y.fText).1.fGoto.fAlways (kM y.fText).1.fGoto.fSuccess (kM y.fText).1.fGoto.fFailure=some (pLn (y:: l) acc):=by
   intro b hb
   rw [II _ _ _ _ i _ _ _ _ (kM y.fText).1 (by omega) (by omega)]
   simp only [pLn]
   subst hb
   by_cases hc:(kM y.fText).2=0
   ·simp only [hc,ne_eq,not_true_eq_false,if_false]
    cases tg acc (kM y.fText).1.fLabel with
    | true=>simp
    | false=>
     simp only [Bool.false_eq_true,if_false]
     by_cases h:acc.length<80
     ·rw [if_pos h,if_pos h]
      exact ih (acc++[(kM y.fText).1]) (by simp;omega) (fun z hz=>by
       rcases List.mem_append.1 hz with h1 | h1
       ·exact hv z h1
       ·have:z=(kM y.fText).1:=by simpa using h1
        rw [this];exact xE hc)
     ·rw [if_neg h,if_neg h]
   ·simp only [hc,ne_eq,not_false_eq_true,if_true]
  unfold tg at fin
  cases hl0:((kM y.fText).1.fLabel==[]) with
  | true=>
   rw [hl0] at fin
   simp only [Bool.not_true,Bool.false_eq_true,if_false]
   exact fin false rfl
  | false=>
   rw [hl0] at fin
   simp only [Bool.not_false,if_true,nV,Option.bind_some]
   cases hr:FA (kM y.fText).1.fLabel with
   | true=>
    rw [hr] at fin
    simp only [if_true]
    exact fin true rfl
   | false=>
    rw [hr] at fin
    simp only [Bool.false_eq_true,if_false]
    rw [nW (p:=ak.mk acc) ha]
    simp only [Option.bind_some]
    exact fin _ (by simp)
theorem IJ (s:List UInt8):(LL s).1.length<=1000000000/\∀ y∈(LL s).1,y.fText.length<=1000000000:=by
 unfold LL
 split
 ·rename_i hv
  obtain ⟨h1,h2⟩:=Jr hv
  split
  ·exact ⟨by simp,fun y hy=>by cases hy⟩
  ·refine ⟨?_,fun y hy=>?_⟩
   ·have:=yL (f:=lgF) (B:=755001) (l:=(cmb (cA s) 0 []).1) fun y hy=>by have:=EV y;have:=h1.2 y hy;omega
    have:=h1.1
    show ((cmb (cA s) 0 []).1.flatMap lgF).length<=_
    omega
   ·obtain ⟨x,hx,hy⟩:=List.mem_flatMap.1 hy
    obtain ⟨p,hp,hq⟩:=List.mem_flatMap.1 hy
    have:=h2 x hx p hp
    split at hq
    ·cases hq
    ·have:y=⟨x.fNumber,p⟩:=by simpa using hq
     rw [this];show p.length<=_;omega
 ·exact ⟨by simp,fun y hy=>by cases hy⟩
theorem jF {s:List UInt8} (h:s.length<=1000000):fe s=some (Fk s):=by
 rw [rG,sF h]
 simp only [Option.bind_some]
 unfold Fk
 by_cases hk:(LL s).2.2=0
 ·rw [if_neg (by simpa using hk),if_neg (by simpa using hk)]
  obtain ⟨h1,h2⟩:=IJ s
  exact JA h1 h2 [] [] (by simp) (fun y hy=>by cases hy)
 ·rw [if_pos (by simpa using hk),if_pos hk]
end Go.Dv.U

namespace Go.Dv.U
open Go Go.Dv Go.Proofs
theorem yU {α:Type} (p:α->Bool):∀ (a b:List α) (i:Nat),(ixF p a i = -1/\ixF p (a++b) i=ixF p b (i+a.length))\/∃ k,k<a.length/\ixF p a i=((i+k:Nat):Int)/\ixF p (a++b) i=((i+k:Nat):Int)
 | [],b,i=>.inl ⟨rfl,by simp⟩
 | y:: r,b,i=>by
  simp only [ixF,List.cons_append]
  by_cases h:p y=true
  ·exact .inr ⟨0,by simp,by simp [h],by simp [h]⟩
  ·rw [if_neg h,if_neg h]
   rcases yU p r b (i+1) with ⟨h1,h2⟩ | ⟨k,h1,h2,h3⟩
   ·exact .inl ⟨h1,by rw [h2];congr 1;simp;omega⟩
   ·exact .inr ⟨k+1,by simp;omega,by rw [h2];congr 1;omega,by rw [h3];congr 1;omega⟩
theorem Br {acc r:List aa} {s:aa} (h:z8 (acc++s:: r) s acc.length=true):tg acc s.fLabel=false:=by
 unfold z8 at h
 unfold tg
 cases hl:(s.fLabel==[]) with
 | true=>rfl
 | false=>
  rw [hl] at h
  simp only [Bool.false_or,Bool.and_eq_true,Bool.not_eq_true',beq_iff_eq] at h
  obtain ⟨h1,h2⟩:=h
  rw [h1]
  have hx:ixP acc s.fLabel = -1:=by
   unfold ixP at h2 ⊢
   rcases yU (fun x:aa=>x.fLabel==s.fLabel) acc (s:: r) 0 with ⟨h3,_⟩ | ⟨k,h3,_,h4⟩
   ·exact h3
   ·rw [h4] at h2;omega
  rw [hx];simp
theorem Fl {acc:List aa} {s:aa} (h:tg acc s.fLabel=false):z8 (acc++[s]) s acc.length=true:=by
 unfold tg at h
 unfold z8
 cases hl:(s.fLabel==[]) with
 | true=>rfl
 | false=>
  rw [hl] at h
  simp only [Bool.not_false,Bool.true_and,Bool.or_eq_false_iff,decide_eq_false_iff_not] at h
  obtain ⟨h1,h2⟩:=h
  rw [h1]
  unfold ixP at h2 ⊢
  rcases yU (fun x:aa=>x.fLabel==s.fLabel) acc [s] 0 with ⟨_,h4⟩ | ⟨k,_,h3,_⟩
  ·rw [h4];simp [ixF]
  ·rw [h3] at h2;omega
theorem Fm {acc:List aa} {s y:aa} {j:Nat} (hy:acc[j]?=some y) (h:z8 acc y j=true):z8 (acc++[s]) y j=true:=by
 unfold z8 at h ⊢
 cases hl:(y.fLabel==[]) with
 | true=>rfl
 | false=>
  rw [hl] at h
  simp only [Bool.false_or,Bool.and_eq_true,Bool.not_eq_true',beq_iff_eq] at h ⊢
  obtain ⟨h1,h2⟩:=h
  refine ⟨h1,?_⟩
  unfold ixP at h2 ⊢
  rcases yU (fun x:aa=>x.fLabel==y.fLabel) acc [s] 0 with ⟨h3,_⟩ | ⟨k,_,h3,h4⟩
  ·rw [h3] at h2;omega
  ·rw [h4,<-h3];exact h2
theorem n7 {xs:List aa} {c:aa->Nat->Bool}:∀ {l:List aa} {i:Nat},yw c l i=true->∀ (j:Nat) (y:aa),l[j]?=some y->c y (i+j)=true
 | [],i,_,j,y,h=>by simp at h
 | z:: r,i,hg,j,y,h=>by
  simp only [yw,Bool.and_eq_true] at hg
  cases j with
  | zero=>simp at h;subst h;exact hg.1
  | succ j=>
   have:=n7 (xs:=xs) hg.2 j y (by simpa using h)
   rwa [show i+1+j=i+(j+1) by omega] at this
theorem wl {c:aa->Nat->Bool}:∀ {l:List aa} {i:Nat},(∀ (j:Nat) (y:aa),l[j]?=some y->c y (i+j)=true)->yw c l i=true
 | [],i,_=>rfl
 | z:: r,i,h=>by
  simp only [yw,Bool.and_eq_true]
  exact ⟨by have:=h 0 z rfl;rwa [Nat.add_zero] at this,wl fun j y hy=>by have:=h (j+1) y (by simpa using hy);rwa [show i+(j+1)=i+1+j by omega] at this⟩
def lnS (s:aa):aP:=⟨0,cd s⟩
theorem JB {all:List aa} (hv:∀ y∈all,cw y=true) (hg:yw (z8 all) all 0=true) (h80:all.length<=80) (h4:(mN all).length<=4000):∀ (r acc:List aa),acc++r=all->pLn (enL (r.map lnS) acc.length) acc=(⟨all⟩,0,0):=by
 intro r
 induction r with
 | nil=>
  intro acc e
  rw [List.append_nil] at e
  subst e
  simp only [List.map_nil,enL,pLn]
  rw [if_neg (by omega)]
 | cons s r ih=>
  intro acc e
  have hs:cw s=true:=hv s (by rw [<-e];simp)
  have hlab:z8 (acc++s:: r) s acc.length=true:=by
   have:=n7 (xs:=all) hg acc.length s (by rw [<-e];simp)
   rw [<-e] at this
   simpa using this
  have hl:acc.length<80:=by rw [<-e] at h80;simp at h80;omega
  simp only [List.map_cons,enL,pLn,lnS,IB hs,ne_eq,not_true_eq_false,if_false,Br hlab,Bool.false_eq_true]
  rw [if_pos hl]
  have:=ih (acc++[s]) (by rw [<-e];simp)
  rw [List.length_append] at this
  exact this
theorem Fo (xs:List aa):jn (xs.map lnS)=mN xs:=by
 unfold jn mN
 rw [List.flatMap_map];rfl
theorem sL {p:ak} (h:iM p=true):p.fStatements.length<=80/\(∀ y∈p.fStatements,cw y=true)/\yw (z8 p.fStatements) p.fStatements 0=true/\(mN p.fStatements).length<=4000:=by
 unfold iM Hg at h
 simp only [Bool.and_eq_true,decide_eq_true_eq] at h
 exact ⟨h.1.1,fun y hy=>List.all_eq_true.mp h.1.2.1 y hy,h.1.2.2,h.2⟩
theorem Fr {p:ak} (h:iM p=true):Fk (mN p.fStatements)=(p,0,0):=by
 obtain ⟨h1,h2,h3,h4⟩:=sL h
 have hln:∀ y∈p.fStatements.map lnS,Kf y/\(Io y.fText=false/\Hi y.fText=false):=by
  intro y hy
  obtain ⟨s,hs,rfl⟩:=List.mem_map.1 hy
  obtain ⟨a,b,c⟩:=Cm (h2 s hs)
  exact ⟨a,b,c⟩
 have hLL:=GC (L:=p.fStatements.map lnS) (fun y hy=>(hln y hy).1) (fun y hy=>(hln y hy).2) (by simp;omega) (by rw [Fo];exact h4)
 rw [Fo] at hLL
 unfold Fk
 rw [hLL]
 simp only [ne_eq,not_true_eq_false,if_false]
 exact JB h2 h3 h1 h4 p.fStatements [] rfl
def KP (acc:List aa):Prop:=acc.length<=80/\(∀ y∈acc,cw y=true/\SB y)/\yw (z8 acc) acc 0=true
theorem IK : ∀ (ls:List aP) (acc:List aa),KP acc->(pLn ls acc).2.2=0->KP (pLn ls acc).1.fStatements/\(mN (pLn ls acc).1.fStatements).length<=4000:=by
  intro ls
  induction ls with
  | nil=>
    intro acc h
    simp only [pLn]
    split
    · intro h;simp at h
    · exact fun _=>⟨h,by show (mN acc).length<=4000;omega⟩
  | cons y r ih=>
    intro acc h
    simp only [pLn]
    split
    · rename_i hc;exact fun h=>absurd h hc
    rename_i hc
    have hc:(kM y.fText).2=0:=by simpa using hc
    split
    · intro h;simp at h
    rename_i ht
    split
    · rename_i hl
      refine ih _ ⟨by simp;omega,fun z hz=>?_,?_⟩
      · rcases List.mem_append.1 hz with h1 | h1
        · exact h.2.1 z h1
        · have:z=(kM y.fText).1:=by simpa using h1
          rw [this];exact ⟨xE hc,IH _⟩
      · refine wl fun j z hz=>?_
        rw [Nat.zero_add]
        by_cases hj:j<acc.length
        · rw [List.getElem?_append_left hj] at hz
          refine Fm hz ?_
          have:=n7 (xs:=acc) h.2.2 j z hz
          rwa [Nat.zero_add] at this
        · have hj2:j=acc.length:=by
            have:=(List.getElem?_eq_some_iff.1 hz).1
            simp at this;omega
          subst hj2
          simp at hz
          subst hz
          exact Fl (by simpa using ht)
    · intro h;simp at h
theorem De {t:List UInt8} (h:(Fk t).2.2=0):iM (Fk t).1=true/\PB (Fk t).1:=by
 have key:KP (Fk t).1.fStatements/\(mN (Fk t).1.fStatements).length<=4000:=by
  revert h
  unfold Fk
  split
  ·rename_i hk;exact fun h=>absurd h hk
  ·exact IK _ [] ⟨by simp,fun y hy=>(by cases hy),rfl⟩
 obtain ⟨⟨h1,h2,h3⟩,h4⟩:=key
 refine ⟨?_,by omega,fun y hy=>?_⟩
 ·unfold iM Hg
  simp only [Bool.and_eq_true,decide_eq_true_eq]
  exact ⟨⟨h1,List.all_eq_true.2 fun y hy=>(h2 y hy).1,h3⟩,h4⟩
 ·have:=(h2 y hy).2
  exact ⟨by have:=this.1;omega,by have:=this.2.1;omega,by have:=this.2.2;omega⟩
end Go.Dv.U

namespace Go.Dv.U
open Go Go.Dv Go.Proofs
noncomputable def JC (t:List UInt8) (L:Int) (x0:List UInt8) (x1:Int) (x2:List Int) (x3 x4:Int) (x5:List aa):Option (List UInt8):=
 (aw 12 x2 x3 x4).bind fun r194=>if (Prod.fst r194==0)=true then ((app ([42,32,110,111,116,101,10]) t):Option (List UInt8)).bind fun y192=>((app y192 ([10])):Option (List UInt8)).bind fun y191=>((app x0 y191):Option (List UInt8)).bind fun y190=>au y190 x1 r194.2.1.1 r194.2.1.2.1 r194.2.1.2.2.1 x5
  else if (Prod.fst r194==1)=true then ((app t ([59])):Option (List UInt8)).bind fun y191=>((app x0 y191):Option (List UInt8)).bind fun y190=>au y190 x1 r194.2.1.1 r194.2.1.2.1 r194.2.1.2.2.1 x5
  else if (Prod.fst r194==2)=true then (aw (w64 (L+1)) r194.2.1.1 r194.2.1.2.1 r194.2.1.2.2.1).bind fun r190=>((cut t 0 (Option.getD (Option.some r190.1) L)):Option (List UInt8)).bind fun y189=>((app y189 ([10,43])):Option (List UInt8)).bind fun y188=>((cut t r190.1 (Option.getD Option.none L)):Option (List UInt8)).bind fun y187=>((app y188 y187):Option (List UInt8)).bind fun y186=>((app y186 ([10])):Option (List UInt8)).bind fun y185=>((app x0 y185):Option (List UInt8)).bind fun y184=>au y184 x1 r190.2.1.1 r190.2.1.2.1 r190.2.1.2.2.1 x5
  else if (Prod.fst r194==3)=true then ((app ([10]) t):Option (List UInt8)).bind fun y189=>((app y189 ([10])):Option (List UInt8)).bind fun y188=>((app x0 y188):Option (List UInt8)).bind fun y187=>au y187 x1 r194.2.1.1 r194.2.1.2.1 r194.2.1.2.2.1 x5
  else if (Prod.fst r194==4)=true then (aw (w64 (L+1)) r194.2.1.1 r194.2.1.2.1 r194.2.1.2.2.1).bind fun r188=>((cut t 0 (Option.getD (Option.some r188.1) L)):Option (List UInt8)).bind fun y187=>((app y187 ([10])):Option (List UInt8)).bind fun y186=>((app x0 y186):Option (List UInt8)).bind fun y185=>au y185 x1 r188.2.1.1 r188.2.1.2.1 r188.2.1.2.2.1 x5
  else ((app t ([10])):Option (List UInt8)).bind fun y188=>((app x0 y188):Option (List UInt8)).bind fun y187=>au y187 x1 r194.2.1.1 r194.2.1.2.1 r194.2.1.2.2.1 x5
theorem Cn {t acc:List UInt8} {x1:Int} {xs:List aa} (ht:t.length<=4000) (ha:acc.length<=900000) {c:List Int} {a s B:Int} (h:ef c a B) (hB:B<=4611686018427300000)
  (ih:∀ (acc':List UInt8) (c:List Int) (a s:Int),acc'.length<=acc.length+9000->ef c a (B+4)->∃ u,au acc' x1 c a s xs=some u/\u.length<=1000000):∃ u,JC t (t.length:Int) acc x1 c a s xs=some u/\u.length<=1000000:=by
 unfold JC
 obtain ⟨v,c1,a1,s1,e1,h1,hv⟩:=aK (s:=s) 12 h (by omega)
 rw [e1]
 simp only [Option.bind_some]
 have cutk:∀ {c:List Int} {a s:Int},ef c a (B+2)->∃ (k:Nat) (c2:List Int) (a2 s2:Int),aw (w64 ((t.length:Int)+1)) c a s=some ((k:Int),((c2,a2,s2,()),()))/\ef c2 a2 (B+4)/\k<=t.length:=by
  intro c a s h
  rw [aR (by omega) (by omega)]
  obtain ⟨w,c2,a2,s2,e2,h2,hw⟩:=aK (s:=s) ((t.length:Int)+1) h (by omega)
  obtain ⟨k,rfl⟩:∃ k:Nat,w=k:=⟨w.toNat,by omega⟩
  refine ⟨k,c2,a2,s2,e2,h2.le (by omega),?_⟩
  have q1:=hw.2.1
  have q2:=hw.2.2
  by_cases h1:1<(t.length:Int)+1
  ·have:=q1 h1;omega
  ·have:=q2 (by omega);omega
 have hc1:∀ k:Nat,k<=t.length->cut t 0 (k:Int)=some (t.take k):=fun k hk=>by
  have:=kU (xs:=t) (a:=0) (b:=k) (by omega) hk
  simpa using this
 have hc2:∀ k:Nat,k<=t.length->cut t (k:Int) (t.length:Int)=some (t.drop k):=fun k hk=>by
  have:=kU (xs:=t) (a:=k) (b:=t.length) hk (Nat.le_refl _)
  simpa using this
 have lk:∀ k:Nat,(t.take k).length<=4000/\(t.drop k).length<=4000:=fun k=>⟨by rw [List.length_take];omega,by rw [List.length_drop];omega⟩
 split
 ·rw [av (by simp;omega)]
  simp only [Option.bind_some]
  rw [av (by simp;omega)]
  simp only [Option.bind_some]
  rw [av (by simp;omega)]
  exact ih _ _ _ _ (by simp;omega) (h1.le (by omega))
 split
 ·rw [av (by simp;omega)]
  simp only [Option.bind_some]
  rw [av (by simp;omega)]
  exact ih _ _ _ _ (by simp;omega) (h1.le (by omega))
 split
 ·obtain ⟨k,c2,a2,s2,e2,h2,hk⟩:=cutk (s:=s1) h1
  obtain ⟨l1,l2⟩:=lk k
  rw [e2]
  simp only [Option.bind_some,Option.getD_some,Option.getD_none,hc1 k hk,hc2 k hk]
  rw [av (by simp only [List.length_cons,List.length_nil];omega)]
  simp only [Option.bind_some]
  rw [av (by simp only [List.length_append,List.length_cons,List.length_nil];omega)]
  simp only [Option.bind_some]
  rw [av (by simp only [List.length_append,List.length_cons,List.length_nil];omega)]
  simp only [Option.bind_some]
  rw [av (by simp only [List.length_append,List.length_cons,List.length_nil];omega)]
  exact ih _ _ _ _ (by simp only [List.length_append,List.length_cons,List.length_nil];omega) h2
 split
 ·rw [av (by simp;omega)]
  simp only [Option.bind_some]
  rw [av (by simp;omega)]
  simp only [Option.bind_some]
  rw [av (by simp;omega)]
  exact ih _ _ _ _ (by simp;omega) (h1.le (by omega))
 split
 ·obtain ⟨k,c2,a2,s2,e2,h2,hk⟩:=cutk (s:=s1) h1
  obtain ⟨l1,l2⟩:=lk k
  rw [e2]
  simp only [Option.bind_some,Option.getD_some,hc1 k hk]
  rw [av (by simp only [List.length_cons,List.length_nil];omega)]
  simp only [Option.bind_some]
  rw [av (by simp only [List.length_append,List.length_cons,List.length_nil];omega)]
  exact ih _ _ _ _ (by simp only [List.length_append,List.length_cons,List.length_nil];omega) h2
 ·rw [av (by simp;omega)]
  simp only [Option.bind_some]
  rw [av (by simp;omega)]
  exact ih _ _ _ _ (by simp;omega) (h1.le (by omega))
theorem JD {xs:List aa} (hx:xs.length<=90) (hm:∀ y∈xs,y.m<=1000000):∀ (acc:List UInt8) (c:List Int) (a s:Int),acc.length<=0->ef c a 2000000->∃ u,cq acc 0 c a s xs=some u/\u.length<=1000000:=by
 have key:=bL (xs:=xs) (by omega) (P:=fun i _=>i<=90->∀ (acc:List UInt8) (c:List Int) (a s:Int),acc.length<=9000*i->ef c a (2000000+4*i)->∃ u,cq acc (i:Int) c a s xs=some u/\u.length<=1000000) (by
  intro _ acc c a s ha h
  rw [fR,if_neg (by simp [aj])]
  exact ⟨acc,rfl,by omega⟩) (by
  intro i y l _ hlt hy hi hw ih h90 acc c a s ha h
  have hym:=hm y hy
  obtain ⟨m1,m2,m3⟩:=IG hym
  rw [fR,if_pos (by simp [aj];omega),hi]
  simp only [Option.bind_some,ab.re_eq,Hs]
  rw [fM (by omega) (by omega) (by omega)]
  simp only [Option.bind_some]
  have ih2:∀ (acc':List UInt8) (c:List Int) (a s:Int),acc'.length<=acc.length+9000->ef c a (2000000+4*i+4)->∃ u,au acc' (i:Int) c a s xs=some u/\u.length<=1000000:=by
   intro acc' c a s h1 h2
   rw [li,hw]
   exact ih (by omega) acc' c a s (by omega) (by rw [show (2000000+4*((i+1:Nat):Int))=2000000+4*i+4 by omega];exact h2)
  cases hv:cw y with
  | true=>
   simp only [if_true]
   rw [me (jE hv)]
   simp only [Option.bind_some]
   exact Cn (t:=cd y) (GU hv) (by omega) h (by omega) ih2
  | false=>
   simp only [Bool.false_eq_true,if_false]
   exact Cn (t:=[]) (by simp) (by omega) h (by omega) ih2)
 intro acc c a s ha h
 exact key (by omega) acc c a s ha h
theorem Fs {x:List Int} (hx:m7 x):∃ t,f6 x=some t/\t.length<=1000000:=by
 rw [nt]
 obtain ⟨p,c,a,s,e,h,hp,hl⟩:=qS (c:=x) (a:=0) (s:=0) (B:=0) ⟨hx.2,hx.1,by omega,by omega⟩ (by omega)
 rw [e]
 have hq:=p.m_eq
 exact JD hl (fun y hy=>by have:=jl (m:=aa.m) hy;omega) [] c a s (by simp) (h.le (by omega))
theorem Co {p:ak} (hb:PB p):iR p p=some true:=by
 rw [tp,if_neg (by simp)]
 refine bL (xs:=p.fStatements) (by have:=hb.1;omega) (P:=fun i _=>fw (i:Int) p.fStatements p.fStatements=some true) ?_ ?_
 ·rw [jv,if_neg (by simp [aj])]
 ·intro i y l _ hlt hy hi hw ih
  obtain ⟨h1,h2,h3⟩:=hb.2 y hy
  rw [jv,if_pos (by simp [aj];omega),hi]
  simp only [Option.bind_some,ab.re_eq,Hs]
  rw [GS h1 h2 h3]
  simp only [Option.bind_some,Bool.not_true,Bool.false_eq_true,if_false,hw]
  exact ih
theorem wm {x:List Int} (hx:m7 x):dr x=some true:=by
 rw [lS]
 obtain ⟨t,e,ht⟩:=Fs hx
 rw [e]
 simp only [Option.bind_some]
 rw [jF ht]
 simp only [Option.bind_some]
 by_cases h0:(Fk t).2.2=0
 ·rw [if_neg (by simpa using h0)]
  obtain ⟨hv,hb⟩:=De h0
  rw [kp hb,if_pos hv]
  simp only [Option.bind_some]
  rw [jF (by have:=(sL hv).2.2.2;omega),Fr hv]
  simp only [Option.bind_some,beq_self_eq_true,if_true]
  rw [ko hb,hv]
  simp only [Option.bind_some,if_true]
  rw [Co hb]
  rfl
 ·rw [if_pos (by simpa using h0)]
theorem p7 {x y:List Int} (hx:m7 x) (hy:m7 y):iq x y=some true:=by
 rw [pt,vw,vw]
 simp only [Option.bind_some]
 split
 ·rfl
 split
 ·rfl
 rw [nq]
 obtain ⟨p,c,a,s,e,_,hp⟩:=As (c:=x) (a:=0) (s:=0) (B:=0) ⟨hx.2,hx.1,by omega,by omega⟩ (by omega)
 rw [e]
 simp only [Option.bind_some]
 rw [sE (by omega)]
 simp only [Option.bind_some]
 rw [sD (by omega)]
 simp only [Option.bind_some]
 cases hv:iM p with
 | false=>
  simp only [Bool.false_eq_true,if_false,beq_self_eq_true,Bool.not_true]
  exact wm hy
 | true=>
  simp only [if_true]
  rw [jF (by have:=(sL hv).2.2.2;omega),Fr hv]
  simp only [Option.bind_some,bne_self_eq_false,Bool.false_eq_true,if_false]
  rw [Co (PB.of (by omega))]
  simp only [Option.bind_some,Bool.not_true,Bool.false_eq_true,if_false]
  exact wm hy
end Go.Dv.U
