/- Plain laws about these equations. -/
import Derived.Test.YtikhhcienngnbaaGreatDoorFnExactValidMachinePua
set_option linter.all false
set_option linter.unusedVariables false
set_option linter.unusedSimpArgs false
namespace Go.Dv.U
open Go Go.Dv Go.Proofs
def eff (x:av):Int×Int:=
 let o:=x.fOp
 if o=2\/o=3\/o=4\/o=5\/o=6\/o=7 then (0,1)
 else if o=8\/o=12 then (2,1)
 else if o=9\/o=10\/o=11\/o=15 then (1,1)
 else if o=13 then (x.fA,1)
 else if o=14\/o=17 then (1,0)
 else if o=18\/o=20\/o=24 then (2,0)
 else if o=19 then (3,0)
 else if o=21\/o=23 then (1,2)
 else if o=22\/o=25 then (2,3)
 else if o=26 then (4,1)
 else (0,0)
def okI (x:av):Prop:=1<=x.fOp/\x.fOp<=31/\(x.fOp=13->0<=x.fA/\x.fA<=6)
theorem Nx {x:av} (h:okI x):0<=(eff x).1/\(eff x).1<=6/\0<=(eff x).2/\(eff x).2<=3:=by
 obtain ⟨o,a,t⟩:=x
 obtain ⟨h1,h2,h3⟩:=h
 simp only at h1 h2 h3
 unfold eff
 simp only
 grind (splits:=60)
theorem Ke {o:Int} (h1:1<=o) (h2:o<=31):o=1\/o=2\/o=3\/o=4\/o=5\/o=6\/o=7\/o=8\/o=9\/o=10\/o=11\/o=12\/o=13\/o=14\/o=15\/o=16\/o=17\/o=18\/o=19\/o=20\/o=21\/o=22\/o=23\/o=24\/o=25\/o=26\/o=27\/o=28\/o=29\/o=30\/o=31:=by omega
theorem Jf {x:av} (h:okI x):ud x=some (eff x):=by
 obtain ⟨o,a,t⟩:=x
 obtain ⟨h1,h2,_⟩:=h
 rw [Da]
 simp only [xZ,ya,wg,wh,wj,wk,wn,wo]
 rcases Ke h1 h2 with h | h | h | h | h | h | h | h | h | h | h | h | h | h | h | h | h | h | h | h | h | h | h | h | h | h | h | h | h | h | h<;>(simp only at h;subst h;rfl)
theorem Jg {x:av} (h:okI x):n8 x=some (eff x):=by
 obtain ⟨o,a,t⟩:=x
 obtain ⟨h1,h2,_⟩:=h
 rw [xI,BB,BH]
 simp only [Option.bind_some]
 rcases Ke h1 h2 with h | h | h | h | h | h | h | h | h | h | h | h | h | h | h | h | h | h | h | h | h | h | h | h | h | h | h | h | h | h | h<;>(simp only at h;subst h;rfl)
def net (x:av):Int:=(eff x).2-(eff x).1
def y5 : List av->Int
 | []=>0
 | x:: r=>net x+y5 r
theorem ku : ∀ a b:List av,y5 (a++b)=y5 a+y5 b
 | [],b=>by simp [y5]
 | x:: a,b=>by simp only [List.cons_append,y5,ku a b];omega
theorem OY {x:ai} (h:wD x=true):okI (mV x)/\net (mV x)=(if x.fKind=12\/x.fKind=13 then 0 else 1-(x.fKids.length:Int)):=by
 obtain ⟨k,n,t,ks⟩:=x
 rcases cT h with ⟨h1,h2,_⟩ | ⟨h1,h2,_⟩ | ⟨h1,h2,_⟩ | ⟨h1,h2,_⟩ | ⟨h1,a,h2⟩ | ⟨h1,a,b,h2⟩
 ·simp only at h1 h2;subst h1;subst h2;exact ⟨by simp [okI,mV],by simp [net,eff,mV]⟩
 ·simp only at h1 h2;subst h1;subst h2;exact ⟨by simp [okI,mV],by simp [net,eff,mV]⟩
 ·simp only at h1 h2;subst h2
  rcases h1 with h1 | h1 | h1 | h1<;>subst h1<;>exact ⟨by simp [okI,mV],by simp [net,eff,mV]⟩
 ·simp only at h1 h2;subst h1;exact ⟨by simp [okI,mV];omega,by simp [net,eff,mV]⟩
 ·simp only at h1 h2;subst h2
  rcases h1 with h1 | h1<;>subst h1<;>exact ⟨by simp [okI,mV],by simp [net,eff,mV]⟩
 ·simp only at h1 h2;subst h2
  have:k=5\/k=6\/k=7\/k=8\/k=9\/k=10\/k=11\/k=12\/k=13:=by omega
  rcases this with h | h | h | h | h | h | h | h | h<;>subst h<;>exact ⟨by simp [okI,mV],by simp [net,eff,mV]⟩
theorem wL : ∀ x:ai,x.good=true->y5 x.code=1/\∀ i∈x.code,okI i:=by
 refine ai.ind fun x ih=>?_
 intro hg
 obtain ⟨he,hk⟩:=oX hg
 obtain ⟨l1,l2⟩:=OY he
 have codes:∀ l:List ai,(∀ y∈l,y∈x.fKids)->y5 (ai.codes l)=l.length/\∀ i∈ai.codes l,okI i:=by
  intro l
  induction l with
  | nil=>intro _;exact ⟨rfl,fun i hi=>by simp [ai.codes] at hi⟩
  | cons y r ihr=>
   intro hl
   obtain ⟨h1,h2⟩:=ih y (hl y (by simp)) (hk y (hl y (by simp)))
   obtain ⟨h3,h4⟩:=ihr fun z hz=>hl z (by simp [hz])
   refine ⟨by simp only [ai.codes,ku,h1,h3,List.length_cons];omega,fun i hi=>?_⟩
   simp only [ai.codes,List.mem_append] at hi
   rcases hi with hi | hi
   ·exact h2 i hi
   ·exact h4 i hi
 rw [ai.code_eq]
 by_cases h12:x.fKind=12\/x.fKind=13
 ·rw [if_pos h12] at l2 ⊢
  rcases cT he with h | h | h | h | h | ⟨_,a,b,hab⟩
  any_goals omega
  have h1:ai.code1 x.fKids=a.code:=by rw [hab];simp [ai.code1]
  obtain ⟨h2,h3⟩:=ih a (by rw [hab];simp) (hk a (by rw [hab];simp))
  rw [h1]
  refine ⟨by rw [ku,h2];simp only [y5,l2];omega,fun i hi=>?_⟩
  simp only [List.mem_append,List.mem_singleton] at hi
  rcases hi with hi | rfl
  ·exact h3 i hi
  ·exact l1
 ·rw [if_neg h12] at l2 ⊢
  obtain ⟨h2,h3⟩:=codes x.fKids fun y hy=>hy
  refine ⟨by rw [ku,h2];simp only [y5,l2];omega,fun i hi=>?_⟩
  simp only [List.mem_append,List.mem_singleton] at hi
  rcases hi with hi | rfl
  ·exact h3 i hi
  ·exact l1
theorem HI : ∀ l:List ai,(∀ y∈l,y.good=true)->y5 (ai.codes l)=l.length/\∀ i∈ai.codes l,okI i
 | [],_=>⟨rfl,fun i hi=>by simp [ai.codes] at hi⟩
 | y:: r,h=>by
  obtain ⟨h1,h2⟩:=wL y (h y (by simp))
  obtain ⟨h3,h4⟩:=HI r fun z hz=>h z (by simp [hz])
  refine ⟨by simp only [ai.codes,ku,h1,h3,List.length_cons];omega,fun i hi=>?_⟩
  simp only [ai.codes,List.mem_append] at hi
  rcases hi with hi | hi
  ·exact h2 i hi
  ·exact h4 i hi
theorem Qg {x:ai} (hg:x.good=true) {p:List av} {k t:av} (h:tgt x=some (p,k,t)):y5 p+net t = -1/\net k=1/\(∀ i∈p,okI i)/\okI k/\okI t:=by
 obtain ⟨he,hk⟩:=oX hg
 obtain ⟨c1,c2⟩:=HI x.fKids hk
 unfold tgt at h
 split at h
 ·cases h
  exact ⟨by simp [y5,net,eff],by simp [net,eff],fun i hi=>by simp at hi,by simp [okI],by simp [okI]⟩
 split at h
 ·rename_i h15
  rcases cT he with h' | h' | h' | h' | ⟨_,a,ha⟩ | ⟨h',_⟩
  any_goals omega
  cases h
  rw [ha] at c1
  simp only [List.length_singleton] at c1
  refine ⟨by rw [ha,ku,c1];simp [y5,net,eff],by simp [net,eff],fun i hi=>?_,by simp [okI],by simp [okI]⟩
  simp only [List.mem_append,List.mem_singleton] at hi
  rcases hi with hi | rfl
  ·exact c2 i hi
  ·simp [okI]
 split at h
 ·rename_i h5
  rcases cT he with h' | h' | h' | h' | h' | ⟨_,a,b,ha⟩
  any_goals omega
  cases h
  rw [ha] at c1
  exact ⟨by rw [ha,c1];simp [net,eff],by simp [net,eff],c2,by simp [okI],by simp [okI]⟩
 split at h
 ·rename_i h4
  cases h
  rw [h4.2] at c1
  refine ⟨by simp only [y5,c1];simp [net,eff],by simp [net,eff],fun i hi=>?_,by simp [okI],by simp [okI]⟩
  simp only [List.mem_cons] at hi
  rcases hi with rfl | hi
  ·simp [okI]
  ·exact c2 i hi
 ·cases h
theorem Kf {s:aa} (h:fB s=true):y5 (yz s)=0/\∀ i∈yz s,okI i:=by
 obtain ⟨h1,h2,h3⟩:=wJ h
 unfold yz
 split
 ·rename_i hs
  obtain ⟨c1,c2⟩:=wL _ (h1 hs).1
  split
  ·rename_i hr
   obtain ⟨r1,r2⟩:=wL _ (h3 hr).2.1
   split
   ·rename_i p k t ht
    obtain ⟨t1,t2,t3,t4,t5⟩:=Qg (h1 hs).1 ht
    split
    ·rename_i hp
     obtain ⟨p1,p2⟩:=wL _ (h2 hp).2.1
     refine ⟨?_,fun i hi=>?_⟩
     ·simp only [List.cons_append,ku,y5,p1,r1,t2]
      have e25:net ⟨25,0,[]⟩=1:=by simp [net,eff]
      have e26:net ⟨26,0,[]⟩ = -3:=by simp [net,eff]
      rw [e25,e26];omega
     ·simp only [List.mem_append,List.mem_cons,List.mem_nil_iff,or_false] at hi
      rcases hi with (((hi | (rfl | hi) | rfl) | hi) | rfl) | rfl
      ·exact t3 i hi
      ·exact t4
      ·exact p2 i hi
      ·simp [okI]
      ·exact r2 i hi
      ·simp [okI]
      ·exact t5
    ·refine ⟨by simp only [List.append_nil,ku,y5,r1];omega,fun i hi=>?_⟩
     simp only [List.append_nil,List.mem_append,List.mem_cons,List.mem_nil_iff,or_false] at hi
     rcases hi with (hi | hi) | rfl
     ·exact t3 i hi
     ·exact r2 i hi
     ·exact t5
   ·exact ⟨by simp [y5,net,eff],fun i hi=>by simp only [List.mem_singleton] at hi;subst hi;simp [okI]⟩
  ·split
   ·rename_i hp
    obtain ⟨p1,p2⟩:=wL _ (h2 hp).2.1
    refine ⟨by simp only [ku,y5,c1,p1];simp [net,eff],fun i hi=>?_⟩
    simp only [List.mem_append,List.mem_singleton] at hi
    rcases hi with (hi | hi) | rfl
    ·exact c2 i hi
    ·exact p2 i hi
    ·simp [okI]
   ·refine ⟨by simp only [ku,y5,c1];simp [net,eff],fun i hi=>?_⟩
    simp only [List.mem_append,List.mem_singleton] at hi
    rcases hi with hi | rfl
    ·exact c2 i hi
    ·simp [okI]
 ·exact ⟨rfl,fun i hi=>by simp at hi⟩
theorem Pq (v:Int×Int):okI (jmp v):=by
 unfold jmp
 split
 ·simp [okI]
 split
 ·simp [okI]
 split
 ·simp [okI]
 split<;>simp [okI]
def Lj : Int->List av->List Int
 | _,[]=>[]
 | _,[_]=>[0]
 | h,x:: y:: r=>h:: Lj (h+net x) (y:: r)
theorem nJ : ∀ (l:List av) (h:Int),(Lj h l).length=l.length
 | [],_=>rfl
 | [_],_=>rfl
 | x:: y:: r,h=>by simp only [Lj,List.length_cons,nJ (y:: r)]
def OZ : Int->List av->List Int
 | _,[]=>[]
 | _,[_]=>[0]
 | _,[_,_]=>[0,0]
 | h,x:: y:: z:: r=>h:: OZ (h+net x) (y:: z:: r)
theorem Jh : ∀ (l:List av) (h:Int) (a b:av),h+y5 l=0->OZ h (l++[a,b])=Lj h (l++[a,b])
 | [],h,a,b,e=>by simp [y5] at e;subst e;rfl
 | [x],h,a,b,e=>by
  have:=Jh [] (h+net x) a b (by simp only [y5] at e ⊢;omega)
  simp only [List.nil_append] at this
  simp only [List.cons_append,List.nil_append,OZ,Lj]
  simp only [y5] at e
  rw [show h+net x=0 by omega]
 | x:: y:: l,h,a,b,e=>by
  have:=Jh (y:: l) (h+net x) a b (by simp only [y5] at e ⊢;omega)
  cases hl:l++[a,b] with
  | nil=>simp at hl
  | cons z r=>
   simp only [List.cons_append,hl,OZ,Lj] at this ⊢
   rw [this]
theorem Q2 {h d l:Int} (h1:-1000000<=h) (h2:h<=1000000) (h3:0<=d) (h4:d<=6) (h5:0<=l) (h6:l<=3):w64 (h+w64 (l-d))=h+(l-d)/\w64 (w64 (h-d)+l)=h+(l-d):=by
 refine ⟨?_,?_⟩
 ·rw [aT (n:=l-d) (by omega) (by omega),aT (by omega) (by omega)]
 ·rw [aT (n:=h-d) (by omega) (by omega),aT (by omega) (by omega)];omega
theorem Ny {α:Type} (pre:List α) (x y:α) (post:List α):(pre++x:: post).set pre.length y=pre++y:: post:=by
 rw [List.set_append_right _ _ (Nat.le_refl _),Nat.sub_self];rfl
theorem FR {α:Type} (pre:List α) (x:α) (post:List α):(pre++x:: post)[pre.length]?=some x:=by
 rw [List.getElem?_append_right (Nat.le_refl _),Nat.sub_self];rfl
theorem Nz {I:List av} {E F:List Int} {k:Nat}:∀ (r:List av) (pre post:List Int) (h:Int),r≠[]->(∀ t,t<r.length->I[pre.length+t]?=r[t]?)->(∀ i∈r,okI i)->F[k]?=some (((pre.length+r.length:Nat):Int)-1)->pre.length+r.length<1000000 -> -100000+10*(r.length:Int)<=h->h+10*r.length<=100000 ->
  ji (k:Int) h (pre.length:Int) I E F (pre++List.replicate r.length 0++post)=fZ (w64 ((k:Int)+1)) I E F (pre++Lj h r++post)
 | [],_,_,_,hne,_,_,_,_,_,_=>(hne rfl).elim
 | [x],pre,post,h,_,_,_,hF,_,_,_=>by
  rw [nC,aZ,hF]
  simp only [Option.bind_some,List.length_singleton]
  rw [if_neg (by simp)]
  rfl
 | x:: y:: r,pre,post,h,_,hI,hok,hF,hb,h1,h2=>by
  have hx:=hok x (by simp)
  obtain ⟨e1,e2,e3,e4⟩:=Nx hx
  have hI0:I[pre.length]?=some x:=by have:=hI 0 (by simp);simpa using this
  simp only [List.length_cons] at h1 h2 hb hF
  obtain ⟨w1,_⟩:=Q2 (h:=h) (by omega) (by omega) e1 e2 e3 e4
  have wi:w64 ((pre.length:Int)+1)=((pre++[h]).length:Int):=by rw [aT (by omega) (by omega)];simp
  rw [nC,aZ,hF]
  simp only [Option.bind_some]
  have ez:pre++List.replicate (x:: y:: r).length 0++post=pre++0:: (List.replicate (y:: r).length 0++post):=by simp [List.replicate_succ]
  rw [if_pos (by simp;omega),ez,aZ,aZ,hI0,FR]
  simp only [Option.bind_some,Int.toNat_natCast,FR,Jf hx,Gv,Ny,w1,wi]
  have ih:=Nz (I:=I) (E:=E) (F:=F) (k:=k) (y:: r) (pre++[h]) post (h+((eff x).2-(eff x).1)) (by simp) (fun t ht=>by
   have:=hI (t+1) (by simpa using ht)
   simp only [List.getElem?_cons_succ] at this
   rw [<-this,List.length_append,List.length_singleton]
   congr 1;omega) (fun i hi=>hok i (List.mem_cons_of_mem _ hi)) (by rw [hF];simp;omega) (by simp;omega) (by simp;omega) (by simp;omega)
  rw [show pre++h:: (List.replicate (y:: r).length 0++post)=pre++[h]++List.replicate (y:: r).length 0++post by simp,ih]
  simp [Lj,net]
theorem NA {I:List av} {E F F':List Int} {n k:Int}:∀ (r:List av) (x:av) (pre post:List Int) (h:Int) (fail:Int),r≠[]->I[pre.length]?=some x->(∀ t,t<r.length->I[pre.length+1+t]?=r[t]?)->(∀ i∈x:: r,okI i)->fail=((pre.length+r.length:Nat):Int)->pre.length+r.length<1000000 -> -100000+10*(r.length:Int)<=h->h+10*r.length<=100000 ->
  gy fail (((pre.length+1:Nat)):Int) F' n k I E F (pre++h:: (List.replicate r.length 0++post))=dL F' n (w64 (k+1)) I E F (pre++h:: ((OZ (h+net x) r)++post))
 | [],_,_,_,_,_,hne,_,_,_,_,_,_,_=>(hne rfl).elim
 | [y],x,pre,post,h,fail,_,_,_,_,hf,hb,_,_=>by
  rw [gQ]
  simp only [List.length_singleton] at hf hb
  rw [aT (n:=fail-1) (by omega) (by omega),if_neg (by simp;omega)]
  rfl
 | [y,z],x,pre,post,h,fail,_,_,_,_,hf,hb,_,_=>by
  rw [gQ]
  simp only [List.length_cons,List.length_nil] at hf hb
  rw [aT (n:=fail-1) (by omega) (by omega),if_neg (by simp;omega)]
  rfl
 | y:: z:: v:: r,x,pre,post,h,fail,_,hx0,hI,hok,hf,hb,h1,h2=>by
  have hx:=hok x (by simp)
  obtain ⟨e1,e2,e3,e4⟩:=Nx hx
  simp only [List.length_cons] at h1 h2 hb hf
  obtain ⟨_,w1⟩:=Q2 (h:=h) (by omega) (by omega) e1 e2 e3 e4
  have wm:w64 (((pre.length+1:Nat):Int)-1)=(pre.length:Int):=by rw [aT (by omega) (by omega)];omega
  have wi:w64 (((pre.length+1:Nat):Int)+1)=(((pre++[h]).length+1:Nat):Int):=by rw [aT (by omega) (by omega)];simp
  rw [gQ,aT (n:=fail-1) (by omega) (by omega)]
  rw [if_pos (by simp;omega),wm,aZ,hx0]
  have ez:pre++h:: (List.replicate (y:: z:: v:: r).length 0++post)=(pre++[h])++0:: (List.replicate (z:: v:: r).length 0++post):=by simp [List.replicate_succ]
  have g0:(pre++h:: (List.replicate (y:: z:: v:: r).length 0++post))[pre.length]?=some h:=FR _ _ _
  have g1:(pre++h:: (List.replicate (y:: z:: v:: r).length 0++post))[pre.length+1]?=some 0:=by rw [ez];have:=FR (pre++[h]) 0 (List.replicate (z:: v:: r).length 0++post);simpa using this
  simp only [Option.bind_some,Jg hx,aZ,Int.toNat_natCast,g0,g1,Gv,w1,wi]
  have es:(pre++h:: (List.replicate (y:: z:: v:: r).length 0++post)).set (pre.length+1) (h+((eff x).2-(eff x).1))=(pre++[h])++(h+((eff x).2-(eff x).1)):: (List.replicate (z:: v:: r).length 0++post):=by
   rw [ez]
   have:=Ny (pre++[h]) 0 (h+((eff x).2-(eff x).1)) (List.replicate (z:: v:: r).length 0++post)
   simpa using this
  rw [es]
  have hy0:I[pre.length+1]?=some y:=by have:=hI 0 (by simp);simpa using this
  have ih:=NA (I:=I) (E:=E) (F:=F) (F':=F') (n:=n) (k:=k) (z:: v:: r) y (pre++[h]) post (h+((eff x).2-(eff x).1)) fail (by simp) (by simpa using hy0) (fun t ht=>by
   have:=hI (t+1) (by simpa using ht)
   simp only [List.getElem?_cons_succ] at this
   rw [<-this,List.length_append,List.length_singleton]
   congr 1;omega) (fun i hi=>hok i (List.mem_cons_of_mem _ hi)) (by rw [hf];simp;omega) (by simp;omega) (by simp;omega) (by simp;omega)
  rw [ih]
  simp [OZ,net]
noncomputable def N2 (p:aj):Nat->List aa->List Int
 | _,[]=>[]
 | i,s:: r=>Lj 0 (stC p i s)++N2 p (i+1) r
theorem NC {p:aj} (hp:p.fStatements.length<=80) {i:Nat} (hi:i<p.fStatements.length) {s:aa} (hf:fB s=true):∀ x∈stC p i s,okI x:=by
 obtain ⟨_,_,v1,e1⟩:=FQ hp true (at_:=(i:Int)) (by omega) (by omega)
 obtain ⟨_,_,v2,e2⟩:=FQ hp false (at_:=(i:Int)) (by omega) (by omega)
 intro x hx
 simp only [stC,List.mem_cons,List.mem_append,List.mem_nil_iff,or_false] at hx
 rcases hx with rfl | hx | rfl | rfl
 ·simp [okI]
 ·exact (Kf hf).2 x hx
 ·rw [e1];exact Pq _
 ·rw [e2];exact Pq _
theorem oY (p:aj) (i:Nat) (s:aa) (r:List aa):mG p i (s:: r)=stC p i s++mG p (i+1) r:=rfl
theorem Kg {p:aj}:∀ (l:List aa) (i:Nat),(N2 p i l).length=(mG p i l).length
 | [],_=>rfl
 | s:: r,i=>by simp only [N2,mG,List.length_append,nJ,Kg r]
theorem ND {p:aj} (hp:p.fStatements.length<=80):∀ (l:List aa) (i:Nat) (A:List av) (Ea Fa pre:List Int),(∀ s∈l,fB s=true)->A.length=pre.length->Ea.length=i->Fa.length=i->pre.length+1003*l.length<=500000->i+l.length<=p.fStatements.length ->
  fZ (i:Int) (A++mG p i l) (Ea++jD p i pre.length l) (Fa++jy p i pre.length l) (pre++List.replicate (mG p i l).length 0)=some ((pre++N2 p i l,()),())
 | [],i,A,Ea,Fa,pre,_,hA,hE,hF,_,_=>by
  rw [nB,if_neg (by simp [aw,jD,hE])]
  simp [mG,N2]
 | s:: l,i,A,Ea,Fa,pre,hf,hA,hE,hF,hb,hi=>by
  simp only [List.length_cons] at hb hi
  have hfs:=hf s (by simp)
  have hlen:=Cj (p:=p) (i:=(i:Int)) hfs
  have hpos:=Ck p i s
  have hne:stC p i s≠[]:=by intro e;rw [e] at hpos;simp at hpos
  have gE:(Ea++jD p i pre.length (s:: l))[i]?=some (pre.length:Int):=by
   rw [List.getElem?_append_right (by omega),hE,Nat.sub_self];rfl
  have gF:(Fa++jy p i pre.length (s:: l))[i]?=some (((pre.length+(stC p i s).length:Nat):Int)-1):=by
   rw [List.getElem?_append_right (by omega),hF,Nat.sub_self];rfl
  rw [nB,if_pos (by simp [aw,jD,hE];omega),aZ,gE]
  simp only [Option.bind_some]
  have er:pre++List.replicate (mG p i (s:: l)).length (0:Int)=pre++List.replicate (stC p i s).length 0++List.replicate (mG p (i+1) l).length 0:=by
   rw [oY,List.length_append,<-List.replicate_append_replicate,List.append_assoc]
  rw [er,Nz (stC p i s) pre _ 0 hne (fun t ht=>by
   rw [List.getElem?_append_right (by omega),hA,Nat.add_sub_cancel_left,oY,List.getElem?_append_left ht]) (NC hp (by omega) hfs) gF (by omega) (by omega) (by omega)]
  have wi:w64 ((i:Int)+1)=((i+1:Nat):Int):=by rw [aT (by omega) (by omega)];omega
  have ih:=ND hp l (i+1) (A++stC p i s) (Ea++[(pre.length:Int)]) (Fa++[((pre.length+(stC p i s).length:Nat):Int)-1]) (pre++Lj 0 (stC p i s)) (fun z hz=>hf z (by simp [hz])) (by simp [hA,nJ]) (by simp [hE]) (by simp [hF]) (by rw [List.length_append,nJ];omega) (by omega)
  rw [wi]
  rw [List.length_append,nJ] at ih
  simp only [oY,jD,jy,N2]
  rw [show A++(stC p i s++mG p (i+1) l)=A++stC p i s++mG p (i+1) l by simp,show ∀ (a:Int) (q:List Int),Ea++a:: q=Ea++[a]++q from fun a q=>by simp,show ∀ (a:Int) (q:List Int),Fa++a:: q=Fa++[a]++q from fun a q=>by simp,ih]
  simp
theorem Qh {p:aj} {i:Nat} {s:aa} (hf:fB s=true):∃ x r,stC p i s=x:: r/\r≠[]/\(0:Int):: OZ (0+net x) r=Lj 0 (stC p i s):=by
 refine ⟨⟨1,i,[]⟩,yz s++[N1 p i true,N1 p i false],rfl,by simp,?_⟩
 have h0:net ⟨1,(i:Int),[]⟩=0:=by simp [net,eff]
 rw [h0,Jh _ _ _ _ (by rw [(Kf hf).1];rfl)]
 unfold stC
 cases hb:yz s++[N1 p i true,N1 p i false] with
 | nil=>simp at hb
 | cons y r=>simp only [Lj,h0]
theorem NE {p:aj} (hp:p.fStatements.length<=80):∀ (l:List aa) (i:Nat) (A:List av) (Ea Fa pre:List Int),(∀ s∈l,fB s=true)->A.length=pre.length->Ea.length=i->Fa.length=i->pre.length+1003*l.length<=500000->i+l.length<=p.fStatements.length ->
  dL (Fa++jy p i pre.length l) (((i+l.length:Nat)):Int) (i:Int) (A++mG p i l) (Ea++jD p i pre.length l) (Fa++jy p i pre.length l) (pre++List.replicate (mG p i l).length 0)=some ((pre++N2 p i l,()),())
 | [],i,A,Ea,Fa,pre,_,hA,hE,hF,_,_=>by
  rw [lr,if_neg (by simp)]
  simp [mG,N2]
 | s:: l,i,A,Ea,Fa,pre,hf,hA,hE,hF,hb,hi=>by
  simp only [List.length_cons] at hb hi
  have hfs:=hf s (by simp)
  have hlen:=Cj (p:=p) (i:=(i:Int)) hfs
  have hpos:=Ck p i s
  obtain ⟨x,r,hst,hr,hrun⟩:=Qh (p:=p) (i:=i) hfs
  have hsl:(stC p i s).length=r.length+1:=by rw [hst];rfl
  have gE:(Ea++jD p i pre.length (s:: l))[i]?=some (pre.length:Int):=by
   rw [List.getElem?_append_right (by omega),hE,Nat.sub_self];rfl
  have gF:(Fa++jy p i pre.length (s:: l))[i]?=some (((pre.length+(stC p i s).length:Nat):Int)-1):=by
   rw [List.getElem?_append_right (by omega),hF,Nat.sub_self];rfl
  rw [lr,if_pos (by simp;omega),aZ,aZ,gE,gF]
  simp only [Option.bind_some]
  have er:pre++List.replicate (mG p i (s:: l)).length (0:Int)=pre++0:: (List.replicate r.length 0++List.replicate (mG p (i+1) l).length 0):=by
   rw [oY,List.length_append,hsl,<-List.replicate_append_replicate,List.replicate_succ];simp
  have we:w64 ((pre.length:Int)+1)=((pre.length+1:Nat):Int):=by rw [aT (by omega) (by omega)];omega
  have hcell:∀ t,t<r.length+1->(A++mG p i (s:: l))[pre.length+t]?=(x:: r)[t]?:=fun t ht=>by
   rw [List.getElem?_append_right (by omega),hA,Nat.add_sub_cancel_left,oY,List.getElem?_append_left (by omega),hst]
  have hok:=NC (i:=i) hp (by omega) hfs
  rw [hst] at hok
  rw [er,we,NA r x pre _ 0 _ hr (by have:=hcell 0 (by omega);simpa using this) (fun t ht=>by
   have:=hcell (t+1) (by omega)
   simp only [List.getElem?_cons_succ] at this
   rw [<-this];congr 1;omega) hok (by rw [hsl];omega) (by omega) (by omega) (by omega)]
  have wi:w64 ((i:Int)+1)=((i+1:Nat):Int):=by rw [aT (by omega) (by omega)];omega
  have ih:=NE hp l (i+1) (A++stC p i s) (Ea++[(pre.length:Int)]) (Fa++[((pre.length+(stC p i s).length:Nat):Int)-1]) (pre++Lj 0 (stC p i s)) (fun z hz=>hf z (by simp [hz])) (by simp [hA,nJ]) (by simp [hE]) (by simp [hF]) (by rw [List.length_append,nJ];omega) (by omega)
  rw [wi,show pre++(0:Int):: (OZ (0+net x) r++List.replicate (mG p (i+1) l).length 0)=pre++((0:Int):: OZ (0+net x) r)++List.replicate (mG p (i+1) l).length 0 by simp,hrun]
  rw [List.length_append,nJ] at ih
  simp only [oY,jD,jy,N2]
  rw [show A++(stC p i s++mG p (i+1) l)=A++stC p i s++mG p (i+1) l by simp,show ∀ (a:Int) (q:List Int),Ea++a:: q=Ea++[a]++q from fun a q=>by simp,show ∀ (a:Int) (q:List Int),Fa++a:: q=Fa++[a]++q from fun a q=>by simp,show i+(s:: l).length=i+1+l.length by simp;omega,ih]
  simp
end Go.Dv.U

namespace Go.Dv.U
open Go Go.Dv Go.Proofs
theorem O0 {i j n:Nat} (h:i<=j) (hj:j<=n) (hn:n<=1000000):shr .u64 (IntKind.wrap .u64 (w64 ((i:Int)+(j:Int)))) 1=some (((i+j) / 2:Nat):Int):=by
 have e:w64 ((i:Int)+(j:Int))=((i+j:Nat):Int):=by rw [aT (by omega) (by omega)];omega
 have e2:IntKind.wrap .u64 ((i+j:Nat):Int)=((i+j:Nat):Int):=by
  unfold IntKind.wrap
  simp [IntKind.bits,IntKind.signed]
  omega
 rw [e,e2]
 unfold shr
 rw [if_neg (by decide)]
 have e3:(2:Int) ^ (min (Int.toNat 1) IntKind.u64.bits)=2:=by decide
 rw [e3,Int.fdiv_eq_ediv_of_nonneg _ (by decide)]
 congr 1
theorem Ji {E:List Int} (hE:E.length<=1000000) {x:Int} (hm:∀ (a b:Nat) (u v:Int),a<=b->E[a]?=some u->E[b]?=some v->u<=v):∀ (d i j:Nat),j-i<=d->i<=j->j<=E.length->(∀ (k:Nat) (v:Int),k<i->E[k]?=some v->v<x)->(∀ (k:Nat) (v:Int),j<=k->E[k]?=some v->¬ v<x) ->
  ∃ q:Nat,q<=E.length/\(∀ (k:Nat) (v:Int),k<q->E[k]?=some v->v<x)/\(∀ (k:Nat) (v:Int),q<=k->E[k]?=some v->¬ v<x)/\aY E x (len E) (i:Int) (j:Int)=some ((q:Int),decide (E[q]?=some x))
 | d, i,j,hd,hij,hj,h1,h2=>by
  rw [fQ]
  by_cases c:i<j
  ·have hc:decide ((i:Int)<(j:Int))=true:=by simp;omega
   have hmid:(i+j) / 2<E.length:=by omega
   have hg:=List.getElem?_eq_getElem hmid
   rw [if_pos hc,O0 hij hj hE]
   simp only [Option.bind_some]
   have w1:w64 (((i+j) / 2:Nat):Int)=(((i+j) / 2:Nat):Int):=aT (by omega) (by omega)
   have w2:w64 ((((i+j) / 2:Nat):Int)+1)=(((i+j) / 2+1:Nat):Int):=by rw [aT (by omega) (by omega)];omega
   rw [w1,w2,aZ,hg]
   simp only [Option.bind_some,ye,nH,bne_self_eq_false,Bool.false_eq_true,if_false]
   cases d with
   | zero=>omega
   | succ d=>
    by_cases cv:E[(i+j) / 2]<x
    ·rw [if_pos (by simpa using cv)]
     exact Ji hE hm d ((i+j) / 2+1) j (by omega) (by omega) hj (fun k v hk hv=>by
      have:=hm k ((i+j) / 2) v _ (by omega) hv hg
      omega) h2
    ·rw [if_neg (by simpa using cv)]
     exact Ji hE hm d i ((i+j) / 2) (by omega) (by omega) (by omega) h1 (fun k v hk hv=>by
      have:=hm ((i+j) / 2) k _ v hk hg hv
      omega)
  ·have:i=j:=by omega
   subst this
   refine ⟨i,hj,h1,h2,?_⟩
   rw [if_neg (by simp)]
   by_cases ci:i<E.length
   ·rw [if_pos (by simp [aw];exact ci),aZ,List.getElem?_eq_getElem ci]
    simp only [Option.bind_some,rI,bne_self_eq_false,Bool.false_eq_true,if_false]
    by_cases cx:E[i]=x
    ·simp [cx]
    ·simp [cx]
   ·rw [if_neg (by simp [aw];omega),List.getElem?_eq_none (by omega)]
    simp
noncomputable def rQ (p:aj):Nat->Nat->List aa->Int->Int
 | _,_,[],_=>-1
 | i,o,s:: r,pc=>if (o:Int)<=pc/\pc<=((o+(stC p i s).length:Nat):Int)-1 then (i:Int) else rQ p (i+1) (o+(stC p i s).length) r pc
theorem NF {p:aj} {pc:Int} {I:List av}:∀ (l:List aa) (i o:Nat) (Ea Fa:List Int),Ea.length=i->Fa.length=i->i+l.length<=1000 ->
  lI pc (i:Int) I (Ea++jD p i o l) (Fa++jy p i o l)=some (rQ p i o l pc)
 | [],i,o,Ea,Fa,hE,hF,_=>by
  rw [qb,if_neg (by simp [aw,jy,hF])]
  rfl
 | s:: l,i,o,Ea,Fa,hE,hF,hi=>by
  simp only [List.length_cons] at hi
  have gE:(Ea++jD p i o (s:: l))[i]?=some (o:Int):=by
   rw [List.getElem?_append_right (by omega),hE,Nat.sub_self];rfl
  have gF:(Fa++jy p i o (s:: l))[i]?=some (((o+(stC p i s).length:Nat):Int)-1):=by
   rw [List.getElem?_append_right (by omega),hF,Nat.sub_self];rfl
  have wi:w64 ((i:Int)+1)=((i+1:Nat):Int):=by rw [aT (by omega) (by omega)];omega
  rw [qb,if_pos (by simp [aw,jy,hF];omega),aZ,aZ,gE,gF]
  simp only [Option.bind_some,ef,wi,rQ]
  by_cases c:(o:Int)<=pc/\pc<=((o+(stC p i s).length:Nat):Int)-1
  ·rw [if_pos (by simpa using c),if_pos c]
  ·rw [if_neg (by simpa using c),if_neg c]
   have ih:=NF (p:=p) (I:=I) (pc:=pc) l (i+1) (o+(stC p i s).length) (Ea++[(o:Int)]) (Fa++[((o+(stC p i s).length:Nat):Int)-1]) (by simp [hE]) (by simp [hF]) (by omega)
   rw [<-ih]
   simp [jD,jy]
theorem D6 {p:aj} {pc:Int}:∀ (l:List aa) (i o:Nat),(pc<o\/((o+(mG p i l).length:Nat):Int)<=pc)->rQ p i o l pc = -1
 | [],_,_,_=>rfl
 | s:: l,i,o,h=>by
  simp only [mG,List.length_append] at h
  rw [rQ,if_neg (by omega)]
  exact D6 l (i+1) _ (by omega)
theorem NG {p:aj}:∀ (l:List aa) (i o k:Nat) (v:Int),(jD p i o l)[k]?=some v->(o:Int)<=v
 | [],_,_,_,_,h=>by simp [jD] at h
 | s:: l,i,o,0,v,h=>by simp [jD] at h;omega
 | s:: l,i,o,k+1,v,h=>by
  simp only [jD,List.getElem?_cons_succ] at h
  have:=NG l (i+1) _ k v h
  omega
theorem Kh {p:aj} {pc:Int}:∀ (l:List aa) (i o q:Nat),(o:Int)<=pc->pc<((o+(mG p i l).length:Nat):Int)->q<=l.length->(∀ k v,k<q->(jD p i o l)[k]?=some v->v<pc)->(∀ k v,q<=k->(jD p i o l)[k]?=some v->¬ v<pc) ->
  rQ p i o l pc=(i:Int)+(if (jD p i o l)[q]?=some pc then (q:Int) else (q:Int)-1)
 | [],i,o,q,h1,h2,_,_,_=>by simp [mG] at h2;omega
 | s :: l,i,o,q,h1,h2,hq,hl,hg=>by
  simp only [mG,List.length_append] at h2
  have hpos:=Ck p i s
  by_cases c:pc<=((o+(stC p i s).length:Nat):Int)-1
  ·rw [rQ,if_pos ⟨h1,c⟩]
   -- the next entries are behind
   have next:∀ k v,(jD p i o (s:: l))[k+1]?=some v->pc<v:=fun k v hv=>by
    simp only [jD,List.getElem?_cons_succ] at hv
    have:=NG l (i+1) _ k v hv
    omega
   have hq1:q<=1:=by
    rcases Nat.lt_or_ge 1 q with h | h
    ·have hlen:(jD p i o (s:: l)).length=l.length+1:=Ak _ _ _
     have h3:=List.getElem?_eq_getElem (l:=jD p i o (s:: l)) (i:=1) (by simp only [List.length_cons] at hq;omega)
     have h4:=hl 1 _ (by omega) h3
     have h5:=next 0 _ h3
     omega
    ·exact h
   have e0:(jD p i o (s:: l))[0]?=some (o:Int):=rfl
   rcases Nat.lt_or_ge 0 q with h | h
   ·have:q=1:=by omega
    subst this
    have hn:¬ (jD p i o (s:: l))[1]?=some pc:=fun e=>by have:=next 0 _ e;omega
    rw [if_neg hn]
    omega
   ·have:q=0:=by omega
    subst this
    have h3:=hg 0 _ (Nat.le_refl _) e0
    have:pc=o:=by omega
    rw [e0,if_pos (by rw [this])]
    omega
  ·rw [rQ,if_neg (fun h=>c h.2)]
   have hq1:1<=q:=by
    rcases Nat.lt_or_ge 0 q with h | h
    ·exact h
    ·exact (hg 0 (o:Int) (by omega) rfl (by omega)).elim
   obtain ⟨q,rfl⟩:∃ q',q=q'+1:=⟨q-1,by omega⟩
   have ih:=Kh (p:=p) (pc:=pc) l (i+1) (o+(stC p i s).length) q (by omega) (by omega) (by simpa using hq) (fun k v hk hv=>hl (k+1) v (by omega) (by simpa [jD] using hv)) (fun k v hk hv=>hg (k+1) v (by omega) (by simpa [jD] using hv))
   rw [ih]
   have e':(jD p i o (s:: l))[q+1]?=(jD p (i+1) (o+(stC p i s).length) l)[q]?:=rfl
   by_cases e:(jD p (i+1) (o+(stC p i s).length) l)[q]?=some pc
   ·rw [if_pos e,if_pos (by rw [e'];exact e)];omega
   ·rw [if_neg e,if_neg (by rw [e'];exact e)];omega
theorem Ki {p:aj}:∀ (l:List aa) (i o a b:Nat) (u v:Int),a<=b->(jD p i o l)[a]?=some u->(jD p i o l)[b]?=some v->u<=v
 | [],_,_,_,_,_,_,_,h,_=>by simp [jD] at h
 | s:: l,i,o,0,b,u,v,_,hu,hv=>by
  have:=NG (s:: l) i o b v hv
  simp [jD] at hu
  omega
 | s:: l,i,o,a+1,0,_,_,h,_,_=>by omega
 | s:: l,i,o,a+1,b+1,u,v,h,hu,hv=>by
  simp only [jD,List.getElem?_cons_succ] at hu hv
  exact Ki l (i+1) _ a b u v (by omega) hu hv
theorem O1 {p:aj} (hp:p.fStatements.length<=80) (hf:∀ s∈p.fStatements,fB s=true) (pc:Int):
  kF ⟨mG p 0 p.fStatements,jD p 0 0 p.fStatements,jy p 0 0 p.fStatements⟩ pc=some (rQ p 0 0 p.fStatements pc):=by
 have hl:=wK (p:=p) p.fStatements 0 hf
 have hel:(jD p 0 0 p.fStatements).length=p.fStatements.length:=Ak _ _ _
 rw [BE,kM]
 by_cases c:0<=pc/\pc<(mG p 0 p.fStatements).length
 ·have c1:decide (pc>=0)=true:=by simpa using c.1
  have c2:decide (pc<len (mG p 0 p.fStatements))=true:=by simp [aw];omega
  simp only [c1,c2,if_true,Option.bind_some,Bool.not_true,Bool.false_eq_true,if_false]
  obtain ⟨q,q1,q2,q3,q4⟩:=Ji (E:=jD p 0 0 p.fStatements) (by omega) (x:=pc) (fun a b u v h1 h2 h3=>Ki p.fStatements 0 0 a b u v h1 h2 h3) (jD p 0 0 p.fStatements).length 0 (jD p 0 0 p.fStatements).length (by omega) (by omega) (by omega) (fun k v hk=>by omega) (fun k v hk hv=>by
   rw [List.getElem?_eq_none (by omega)] at hv;cases hv)
  have hw:=Kh (p:=p) (pc:=pc) p.fStatements 0 0 q c.1 (by simpa using c.2) (by omega) q2 q3
  rw [gU]
  rw [show aY (jD p 0 0 p.fStatements) pc (len (jD p 0 0 p.fStatements)) 0 (len (jD p 0 0 p.fStatements))=_ from q4]
  simp only [Option.bind_some]
  rw [hw]
  by_cases e:(jD p 0 0 p.fStatements)[q]?=some pc
  ·simp [e]
  ·simp only [e,decide_false,Bool.not_false,if_true,if_false]
   rw [aT (by omega) (by omega)]
   congr 1
   omega
 ·have hw:rQ p 0 0 p.fStatements pc = -1:=D6 _ _ _ (by simp;omega)
  rw [hw]
  have:(if decide (pc>=0)=true then some (decide (pc<len (mG p 0 p.fStatements))) else some false)=some false:=by
   by_cases q:pc>=0
   ·simp [q,aw];omega
   ·simp [q]
  rw [this]
  rfl
end Go.Dv.U

namespace Go.Dv.U
open Go Go.Dv Go.Proofs
def wM (v:ap):Bool:=
 if v.fKind=1 then v.fNum==0&&v.fRef==0&&decide (v.fText.length<=200)
 else if v.fKind=2 then v.fText==[]&&v.fRef==0&&decide (-1000000000000<=v.fNum)&&decide (v.fNum<=1000000000000)
 else if v.fKind=3 then v.fNum==0&&v.fRef==0&&decide (1<=v.fText.length)&&decide (v.fText.length<=1200)
 else if v.fKind=4\/v.fKind=5\/v.fKind=6 then v.fNum==0&&v.fText==[]&&decide (1<=v.fRef)&&decide (v.fRef<=1000000)
 else if v.fKind=7\/v.fKind=8 then v.fNum==0&&v.fRef==0&&bg v.fText
 else false
theorem FS (v:ap) (a b c:Bool):iF v a b c=some ((a||v.fNum==0)&&(b||v.fText==[])&&(c||v.fRef==0)):=by
 rw [Fm]
 cases a<;>cases b<;>cases c<;>simp only [Bool.false_eq_true,if_false,if_true,Bool.true_or,Bool.false_or,Bool.true_and,Bool.and_true]<;>grind
theorem jz (v:ap):f7 v=some (wM v):=by
 rw [BK]
 simp only [uB,uC,FS,ef,dy,Option.bind_some,m0,aw]
 congr 1
 unfold wM
 have e:∀ n:Nat,decide ((1:Int)<=(n:Int))=decide (1<=n):=fun n=>by rw [Bool.eq_iff_iff];simp only [decide_eq_true_eq];omega
 have e2:∀ n:Nat,decide ((n:Int)<=(1200:Int))=decide (n<=1200):=fun n=>by rw [Bool.eq_iff_iff];simp only [decide_eq_true_eq];omega
 have e3:∀ n:Nat,decide ((n:Int)<=(200:Int))=decide (n<=200):=fun n=>by rw [Bool.eq_iff_iff];simp only [decide_eq_true_eq];omega
 simp only [e,e2,e3]
 grind
theorem rR (n:Int):ny n=some (decide (1<=n)&&decide (n<=1000000)):=by
 rw [BN,dw];rfl
theorem jA (v:ap):eo v=some (wM v):=by
 rw [BC]
 simp only [ut,uu,rR,dw,dx,Option.bind_some,m0,aw]
 congr 1
 unfold wM
 have e:∀ n:Nat,decide ((n:Int)>=(1:Int))=decide (1<=n):=fun n=>by rw [Bool.eq_iff_iff];simp only [decide_eq_true_eq];omega
 have e2:∀ n:Nat,decide ((n:Int)<=(1200:Int))=decide (n<=1200):=fun n=>by rw [Bool.eq_iff_iff];simp only [decide_eq_true_eq];omega
 have e3:∀ n:Nat,decide ((n:Int)<=(200:Int))=decide (n<=200):=fun n=>by rw [Bool.eq_iff_iff];simp only [decide_eq_true_eq];omega
 simp only [e,e2,e3]
 grind
def Jj (v:ap):Bool:=v.fKind==1&&v.fNum==0&&v.fText==[]&&v.fRef==0
theorem Jk (v:ap):EJ v=some (Jj v):=by
 rw [IV];unfold Jj;simp only [Bool.and_true,Bool.and_assoc]
theorem NH : Nd=some (ap.mk 1 0 [] 0):=by
 rw [Nf,BX];rfl
theorem Jl (v:ap):EK v=some (Jj v):=by
 rw [IX,NH];unfold Jj;simp only [Option.bind_some,Bool.and_true,Bool.and_assoc]
end Go.Dv.U

namespace Go.Dv.U
open Go Go.Dv Go.Proofs
def Cl (a b:ap):Bool:=a.fKind==b.fKind&&(a.fNum==b.fNum&&(a.fText==b.fText&&(a.fRef==b.fRef&&true)))
def FT (l:List ap):Bool:=Fz (fun y i=>!(l.take i).any (Cl y)) l 0
theorem Cm {α:Type} (p:α->Bool):∀ (l:List α) (i:Nat),(∃ (k:Nat) (o:α),ixF p l i=((i+k:Nat):Int)/\l[k]?=some o/\l.find? p=some o/\l.any p=true)\/(ixF p l i = -1/\l.find? p=none/\l.any p=false)
 | [],i=>Or.inr ⟨rfl,rfl,rfl⟩
 | y:: r,i=>by
  by_cases h:p y=true
  ·exact Or.inl ⟨0,y,by simp [ixF,h],by simp,by simp [h],by simp [h]⟩
  ·rcases Cm p r (i+1) with ⟨k,o,e1,e2,e3,e4⟩ | ⟨e1,e2,e3⟩
   ·refine Or.inl ⟨k+1,o,?_,by simpa using e2,by simp [h,e3],by simp [e4]⟩
    rw [ixF,if_neg h,e1];congr 1;omega
   ·exact Or.inr ⟨by rw [ixF,if_neg h,e1],by simp [h,e2],by simp [h,e3]⟩
theorem DC (a b:ap):uh a b=some (Cl a b):=by rw [Di];rfl
theorem mH (l:List ap) (i:Nat) (hi:i<l.length) (hl:l.length<=1048576):∀ (n j:Nat),j+n=i->iv l (i:Int) (j:Int)=if ((l.take i).drop j).any (Cl l[i])=true then some false else dv l ((i+1:Nat):Int)
 | 0,j,h=>by
  obtain rfl:j=i:=by omega
  rw [mD,if_neg (by simp)]
  have w:w64 ((j:Int)+1)=((j+1:Nat):Int):=by rw [aT (by omega) (by omega)];omega
  rw [w,List.drop_eq_nil_of_le (by simp;omega)]
  simp
 | n+1,j,h=>by
  have w:w64 ((j:Int)+1)=((j+1:Nat):Int):=by rw [aT (by omega) (by omega)];omega
  rw [mD,if_pos (by simp only [decide_eq_true_eq];omega),aZ,aZ,List.getElem?_eq_getElem hi,List.getElem?_eq_getElem (show j<l.length by omega),w,mH l i hi hl n (j+1) (by omega)]
  have e:(l.take i).drop j=l[j]:: (l.take i).drop (j+1):=by
   rw [List.drop_eq_getElem_cons (show j<(l.take i).length by simp;omega)];simp
  rw [e]
  simp only [Option.bind_some,DC,List.any_cons]
  by_cases hvs:Cl l[i] l[j]=true<;>simp [hvs]
theorem qe {l:List ap} (hl:l.length<=1048576):lK l=some (FT l):=by
 rw [zR]
 have key:=mE (xs:=l) (by omega) (c:=fun y i=>!(l.take i).any (Cl y)) (J:=fun i=>dv l i) (by
  intro i y hlt hy hi hw
  show dv _ _=_
  have hy2:l[i]=y:=by rw [aZ,List.getElem?_eq_getElem hlt] at hi;simpa using hi
  have:=mH l i hlt hl i 0 (by omega)
  rw [mB,if_pos (by simp [aw,hlt])]
  rw [Int.natCast_zero] at this
  rw [this,hy2,List.drop_zero]
  cases (l.take i).any (Cl y)<;>simp)
 rw [show dv l 0=_ from key,FT]
 split
 ·rename_i h;rw [mB,if_neg (by simp [aw]),h]
 ·rename_i h;rw [Bool.not_eq_true] at h;rw [h]
theorem HJ {l:List ap} (hl:l.length<=1048576) (y:ap):cL l y=some (l.any (Cl y)):=by
 rw [gV,iL]
 have key:=FA (xs:=l) (by omega) (p:=Cl y) (J:=fun i=>aW l (len l) i y.fKind y.fNum y.fText y.fRef) (by
  intro i z hlt hz hi hw
  show aW _ _ _ _ _ _ _=_
  rw [dD,if_pos (by simp [aw,hlt]),hi,hw]
  rfl) (by show aW _ _ _ _ _ _ _=_;rw [dD,if_neg (by simp [aw])])
 rw [show aW l (len l) 0 y.fKind y.fNum y.fText y.fRef=_ from key]
 simp only [Option.bind_some]
 rcases Cm (Cl y) l 0 with ⟨k,o,e1,e2,e3,e4⟩ | ⟨e1,e2,e3⟩
 ·rw [e1,e4];congr 1
 ·rw [e1,e3];rfl
theorem yA {l:List ap} (hl:l.length<=1048576):km l=some (FT l):=by
 rw [yb]
 have key:=mE (xs:=l) (by omega) (c:=fun y i=>!(l.take i).any (Cl y)) (J:=fun i=>dO l l (len l) i) (by
  intro i y hlt hy hi hw
  show dO _ _ _ _=_
  have hc:=Gu (xs:=l) (a:=0) (b:=i) (by omega) (by omega)
  rw [Int.natCast_zero,List.drop_zero] at hc
  rw [lw,if_pos (by simp [aw,hlt]),hi,hw]
  simp only [Option.bind_some,Option.getD_some,hc]
  rw [HJ (by simp;omega)]
  simp only [Option.bind_some]
  cases (l.take i).any (Cl y)<;>simp)
 rw [show dO l l (len l) 0=_ from key,FT]
 split
 ·rename_i h;rw [lw,if_neg (by simp [aw]),h]
 ·rename_i h;rw [Bool.not_eq_true] at h;rw [h]
theorem qf {l:List ap} (hl:l.length<=1048576) (n:Nat):d5 l (n:Int)=some (decide (l.length<=n)&&l.all wM):=by
 rw [uA]
 have key:=cP (xs:=l) (by omega) (F:=f7) (p:=wM) (J:=fun i=>dd l i) (fun i=>by show dd _ _=_;rw [qq]) (fun y _=>jz y)
 rw [show dd l 0=_ from key]
 by_cases h:l.length<=n
 ·rw [if_neg (by simp only [aw,decide_eq_true_eq];omega)];simp [h]
 ·rw [if_pos (by simp only [aw,decide_eq_true_eq];omega)];simp [h]
theorem qg {l:List ap} (hl:l.length<=1048576):b7 l=some (l.all wM):=by
 rw [ia]
 exact cP (xs:=l) (by omega) (F:=eo) (p:=wM) (J:=fun i=>bE l (len l) i) (fun i=>by show bE _ _ _=_;rw [ge]) (fun y _=>jA y)
def y6 (v:ap):Bool:=v.fKind==1&&wM v&&bg v.fText
theorem HK {s:List UInt8} (h:bg s=true):s.length<=12:=by
 cases s with
 | nil=>simp
 | cons b r=>
  simp only [bg,Bool.and_eq_true_iff,decide_eq_true_eq] at h
  exact h.1.1
theorem HL (v:ap):vG v=some (y6 v):=by
 rw [Hd]
 simp only [BX,Option.bind_some,dx]
 unfold y6 wM
 have hn:=@HK v.fText
 by_cases h:v.fKind=1
 ·by_cases hb:bg v.fText=true
  ·have h12:=hn hb
   have h200:v.fText.length<=200:=by omega
   by_cases h1:v.fNum=0<;>by_cases h2:v.fRef=0<;>simp [h,hb,h1,h2,h200]
  ·simp [h,hb]
 ·simp [h]
def Cn (l:List ap):Bool:=decide (1<=l.length)&&decide (l.length<=6)&&l.all y6&&FT l
theorem Qi {α:Type} (p q:α->Bool) (l:List α):l.all (fun y=>p y&&q y)=(l.all p&&l.all q):=by
 induction l with
 | nil=>rfl
 | cons y r ih=>simp only [List.all_cons,ih];cases p y<;>cases q y<;>cases r.all p<;>simp
theorem Jm {l:List ap} (hl:l.length<=1048576):mw l=some (Cn l):=by
 rw [wd]
 have key:=mE (xs:=l) (by omega) (c:=fun y _=>y.fKind==1&&bg y.fText) (J:=fun i=>dt l i) (by
  intro i y hlt hy hi hw
  show dt _ _=_
  rw [kP,if_pos (by simp [aw,hlt]),hi,hw]
  simp only [Option.bind_some,dy,bne]
  cases (y.fKind==1)<;>cases bg y.fText<;>simp)
 have hg:∀ (q:List ap) (i:Nat),Fz (fun y _=>y.fKind==1&&bg y.fText) q i=q.all fun y=>y.fKind==1&&bg y.fText:=by
  intro q;induction q with
  | nil=>intro i;rfl
  | cons y r ih=>intro i;simp only [Fz,ih,List.all_cons]
 rw [show dt l 0=_ from key,hg]
 have e6:=qf hl 6
 have hall:l.all y6=((l.all fun y=>y.fKind==1&&bg y.fText)&&l.all wM):=by
  rw [<-Qi];congr 1;funext y;unfold y6;cases (y.fKind==1)<;>cases wM y<;>simp
 unfold Cn
 rw [hall]
 cases ha:(l.all fun y=>y.fKind==1&&bg y.fText)
 ·simp
 ·rw [if_pos rfl,kP,if_neg (by simp [aw])]
  rw [show ((6:Nat):Int)=(6:Int) from rfl] at e6
  rw [e6,qe hl]
  simp only [Option.bind_some,aw,ge_iff_le]
  have e:decide ((1:Int)<=(l.length:Int))=decide (1<=l.length):=by rw [Bool.eq_iff_iff];simp only [decide_eq_true_eq];omega
  rw [e]
  cases decide (1<=l.length)<;>cases decide (l.length<=6)<;>cases l.all wM<;>simp
theorem Co {l:List ap} (hl:l.length<=1048576):dp l=some (l.all y6):=by
 rw [jt]
 exact cP (xs:=l) (by omega) (F:=vG) (p:=y6) (J:=fun i=>bL l (len l) i) (fun i=>by show bL _ _ _=_;rw [ie]) (fun y _=>HL y)
def vZ (v:ap):Bool:=v.fKind==0&&(v.fNum==0&&(v.fText==[]&&(v.fRef==0&&true)))
def Jn (o:am):Bool:=(decide (1<=o.fId)&&decide (o.fId<=1000000))&&(decide (o.fVals.length<=30)&&o.fVals.all wM) &&
  (if o.fKind=1 then o.fName==[]&&(decide (-1000<=o.fLow)&&decide (o.fLow<=1000))&&decide (o.fKeys.length=0)&&vZ o.fDefault
   else if o.fKind=2 then o.fName==[]&&o.fLow==0&&decide (o.fKeys.length=o.fVals.length)&&o.fKeys.all wM&&FT o.fKeys&&wM o.fDefault
   else if o.fKind=3 then bg o.fName&&o.fLow==0&&decide (o.fKeys.length=o.fVals.length)&&Cn o.fKeys&&vZ o.fDefault
   else false)
theorem NI {a b:Nat}:((a:Int)==(b:Int))=decide (a=b):=by
 rw [Bool.eq_iff_iff];simp only [beq_iff_eq,decide_eq_true_eq];omega
theorem Al {a:Nat}:((a:Int)==(0:Int))=decide (a=0):=by
 rw [Bool.eq_iff_iff];simp only [beq_iff_eq,decide_eq_true_eq];omega
theorem y7 {a b:Nat}:decide ((a:Int)>(b:Int))=!decide (a<=b):=by
 rw [Bool.eq_iff_iff];simp only [Bool.not_eq_true',decide_eq_true_eq,decide_eq_false_iff_not];omega
theorem DD {o:am} (h1:o.fKeys.length<=1048576) (h2:o.fVals.length<=1048576):uc o=some (Jn o):=by
 have e30:∀ {l:List ap} (hl:l.length<=1048576),d5 l 30=some (decide (l.length<=30)&&l.all wM):=fun hl=>qf hl 30
 rw [C8]
 simp only [ef,Option.bind_some,e30 h1,e30 h2,dy,Jm h1,qe h1,jz,aw,NI,Al]
 unfold Jn vZ
 cases (decide (1<=o.fId)&&decide (o.fId<=1000000))
 ·simp
 cases hv:(decide (o.fVals.length<=30)&&o.fVals.all wM)
 ·simp
 simp only [Bool.and_eq_true,decide_eq_true_eq] at hv
 simp only [Bool.not_true,Bool.false_eq_true,if_false,Bool.true_and,beq_iff_eq]
 by_cases k1:o.fKind=1
 ·rw [if_pos k1,if_pos k1]
  by_cases a:o.fName=[]<;>cases (decide (-1000<=o.fLow)&&decide (o.fLow<=1000))<;>by_cases b:o.fKeys.length=0<;>simp [a,b]
 ·rw [if_neg k1,if_neg k1]
  by_cases k2:o.fKind=2
  ·rw [if_pos k2,if_pos k2]
   by_cases a:o.fName=[]
   ·by_cases b:o.fLow=0
    ·by_cases c:o.fKeys.length=o.fVals.length
     ·have:o.fKeys.length<=30:=by omega
      cases hk:o.fKeys.all wM<;>cases FT o.fKeys<;>simp_all
     ·simp [a,b,c]
    ·simp [a,b]
   ·simp [a]
  ·rw [if_neg k2,if_neg k2]
   by_cases k3:o.fKind=3
   ·rw [if_pos k3,if_pos k3]
    cases bg o.fName<;>by_cases b:o.fLow=0<;>by_cases c:o.fKeys.length=o.fVals.length<;>cases Cn o.fKeys<;>simp [b,c]
   ·rw [if_neg k3,if_neg k3]
theorem z6 {o:am} (h1:o.fKeys.length<=1048576) (h2:o.fVals.length<=1048576):lG o=some (Jn o):=by
 rw [zN,uy]
 simp only [uw,uI,s9,rR,dw,Option.bind_some,qg h1,qg h2,dx,Co h1,yA h1,jA,aw,NI,Al]
 unfold Jn vZ Cn
 generalize (o.fDefault.fKind==0&&(o.fDefault.fNum==0&&(o.fDefault.fText==[]&&(o.fDefault.fRef==0&&true))))=z
 cases (decide (1<=o.fId)&&decide (o.fId<=1000000))
 ·simp
 by_cases hv:o.fVals.length<=30
 rotate_left
 ·simp [hv];omega
 have hv2:decide ((o.fVals.length:Int)>30)=false:=by simp only [decide_eq_false_iff_not];omega
 cases hw:o.fVals.all wM
 ·simp [hv,hv2]
 simp only [hv,hv2,Bool.not_true,Bool.false_eq_true,if_false,Bool.true_and,beq_iff_eq,decide_true]
 by_cases k1:o.fKind=1
 ·rw [if_pos k1,if_pos k1]
  by_cases a:o.fName=[]<;>cases (decide (-1000<=o.fLow)&&decide (o.fLow<=1000))<;>by_cases b:o.fKeys.length=0<;>cases z<;>simp [a,b]
 ·rw [if_neg k1,if_neg k1]
  by_cases k2:o.fKind=2
  ·rw [if_pos k2,if_pos k2]
   by_cases a:o.fName=[]<;>by_cases b:o.fLow=0<;>by_cases c:o.fKeys.length=o.fVals.length<;>cases o.fKeys.all wM<;>cases FT o.fKeys<;>cases wM o.fDefault<;>simp [a,b,c]
  ·rw [if_neg k2,if_neg k2]
   by_cases k3:o.fKind=3
   ·rw [if_pos k3,if_pos k3]
    have e1:decide ((o.fKeys.length:Int)>=1)=decide (1<=o.fKeys.length):=by rw [Bool.eq_iff_iff];simp only [decide_eq_true_eq];omega
    have e6:decide ((o.fKeys.length:Int)<=6)=decide (o.fKeys.length<=6):=by rw [Bool.eq_iff_iff];simp only [decide_eq_true_eq];omega
    rw [e1,e6]
    cases bg o.fName<;>by_cases b:o.fLow=0<;>by_cases c:o.fKeys.length=o.fVals.length<;>cases decide (1<=o.fKeys.length)<;>cases decide (o.fKeys.length<=6)<;>cases o.fKeys.all y6<;>cases FT o.fKeys<;>cases z<;>simp [b,c]
   ·rw [if_neg k3,if_neg k3]
def fG (O:List am) (v:ap):Bool:=wM v&&(if 4<=v.fKind/\v.fKind<=6 then (match O.find? fun o=>o.fId==v.fRef with | some o=>o.fKind==v.fKind-3 | none=>false) else true)
theorem Kj {k:Int} (h1:4<=k) (h2:k<=6):w64 (w64 (k-4)+1)=k-3:=by
 rw [show w64 (k-4)=k-4 from aT (by omega) (by omega),aT (by omega) (by omega)];omega
theorem NJ {O:List am} (hO:O.length<=1048576) (n r:Int):A8 n O r=some (ixF (fun o=>o.fId==r) O 0):=by
 rw [G7]
 exact FA (xs:=O) (by omega) (p:=fun o=>o.fId==r) (J:=fun i=>iG n O r i) (by
  intro i z hlt hz hi hw
  show iG _ _ _ _=_
  rw [rG,if_pos (by simp [aw,hlt]),hi,hw]
  rfl) (by show iG _ _ _ _=_;rw [rG,if_neg (by simp [aw])])
theorem wN {O:List am} (hO:O.length<=1048576) (n:Int) (v:ap):oI n O v=some (fG O v):=by
 rw [G3]
 simp only [jz,Fj,ef,Option.bind_some,NJ hO,v6]
 unfold fG
 cases wM v
 ·simp
 by_cases h:4<=v.fKind/\v.fKind<=6
 ·rw [if_pos h,Kj h.1 h.2]
  rcases Cm (fun o:am=>o.fId==v.fRef) O 0 with ⟨k,o,e1,e2,e3,e4⟩ | ⟨e1,e2,e3⟩
  ·rw [e1,e3,Nat.zero_add,aZ,e2];simp [h.1,h.2]
  ·rw [e1,e2];simp [h.1,h.2]
 ·rw [if_neg h]
  have:(decide (4<=v.fKind)&&decide (v.fKind<=6))=false:=by
   rw [Bool.eq_false_iff];simpa using h
  rw [this];simp
def y8 : Int->List am->Bool
 | _,[]=>true
 | p,o:: r=>decide (p<o.fId)&&y8 o.fId r
theorem NK : ∀ (l:List am) (p:Int),y8 p l=true->∀ (b:Nat) (hb:b<l.length),p<l[b].fId
 | o:: r,p,h,0,hb=>by simp only [y8,Bool.and_eq_true,decide_eq_true_eq] at h;exact h.1
 | o:: r,p,h,b+1,hb=>by
  simp only [y8,Bool.and_eq_true,decide_eq_true_eq] at h
  have:=NK r o.fId h.2 b (by simpa using hb)
  simp only [List.getElem_cons_succ];omega
theorem Jo : ∀ (l:List am) (p:Int),y8 p l=true->∀ (a b:Nat) (hb:b<l.length) (hab:a<b),l[a].fId<l[b].fId
 | o:: r,p,h,0,b+1,hb,hab=>by
  simp only [y8,Bool.and_eq_true,decide_eq_true_eq] at h
  exact NK r o.fId h.2 b (by simpa using hb)
 | o:: r,p,h,a+1,b+1,hb,hab=>by
  simp only [y8,Bool.and_eq_true,decide_eq_true_eq] at h
  exact Jo r o.fId h.2 a b (by simpa using hb) (by omega)
theorem NL (a b:Int):jR a b=some (if a<b then -1 else if a>b then 1 else 0):=by
 rw [tf]
 simp only [nH,Option.bind_some,bne_self_eq_false,Bool.false_eq_true,if_false,decide_eq_true_eq]
 split
 ·rfl
 ·split<;>rfl
theorem Q3 {i j:Nat} (h:i+j<4611686018427387904):shr IntKind.u64 (IntKind.u64.wrap (w64 ((i:Int)+(j:Int)))) 1=some (((i+j) / 2:Nat):Int):=by
 have e1:w64 ((i:Int)+(j:Int))=((i+j:Nat):Int):=by rw [aT (by omega) (by omega)];omega
 rw [e1]
 have e2:IntKind.u64.wrap ((i+j:Nat):Int)=((i+j:Nat):Int):=by unfold IntKind.wrap;simp [IntKind.bits,IntKind.signed];omega
 rw [e2]
 unfold shr
 rw [if_neg (by decide)]
 congr 1
 have:(2:Int) ^ (min (1:Int).toNat IntKind.u64.bits)=2:=by decide
 rw [this,Int.fdiv_eq_ediv_of_nonneg _ (by decide)]
 omega
theorem O2 {xs:List am} (hx:xs.length<=1048576) (r:Int) (hs:∀ (a b:Nat) (hb:b<xs.length) (hab:a<b),xs[a].fId<xs[b].fId):
  ∀ (d i j:Nat),j-i<=d->i<=j->j<=xs.length->(∀ k (h:k<xs.length),k<i->xs[k].fId<r)->(∀ k (h:k<xs.length),j<=k->¬ xs[k].fId<r) ->
  ∃ k:Nat,k<=xs.length/\(∀ q (h:q<xs.length),q<k->xs[q].fId<r)/\(∀ q (h:q<xs.length),k<=q->¬ xs[q].fId<r) /\
   aL xs r (len xs) i j=some ((k:Int),match xs[k]? with | some b=>b.fId==r | none=>false):=by
 intro d
 induction d with
 | zero=>
  intro i j h0 hij hj h1 h2
  obtain rfl:i=j:=by omega
  refine ⟨i,hj,h1,h2,?_⟩
  rw [bo,if_neg (by simp)]
  by_cases hlt:i<xs.length
  ·rw [if_pos (by simp [aw,hlt]),aZ,List.getElem?_eq_getElem hlt]
   simp only [Option.bind_some,oS,NL]
   have:=h2 i hlt (Nat.le_refl _)
   by_cases e:xs[i].fId=r
   ·simp [e]
   ·rw [if_neg this,if_pos (by omega)];simp [e]
  ·rw [if_neg (by simp only [aw,decide_eq_true_eq];omega),List.getElem?_eq_none (by omega)]
 | succ d ih=>
  intro i j h0 hij hj h1 h2
  by_cases e:i=j
  ·exact ih i j (by omega) hij hj h1 h2
  ·have hlt:(i+j) / 2<xs.length:=by omega
   rw [bo,if_pos (by simp only [decide_eq_true_eq];omega),Q3 (by omega)]
   simp only [Option.bind_some]
   have e1:w64 (((i+j) / 2:Nat):Int)=(((i+j) / 2:Nat):Int):=aT (by omega) (by omega)
   have e2:w64 ((((i+j) / 2:Nat):Int)+1)=(((i+j) / 2+1:Nat):Int):=by rw [aT (by omega) (by omega)];omega
   rw [e1,e2,aZ,List.getElem?_eq_getElem hlt]
   simp only [Option.bind_some,oS,NL]
   by_cases hb:xs[(i+j) / 2].fId<r
   ·rw [if_pos hb,if_pos (by decide)]
    refine ih ((i+j) / 2+1) j (by omega) (by omega) hj (fun k hk hki=>?_) h2
    by_cases ek:k=(i+j) / 2
    ·subst ek;exact hb
    ·have:=hs k ((i+j) / 2) hlt (by omega);omega
   ·rw [if_neg hb,if_neg (by split<;>decide)]
    refine ih i ((i+j) / 2) (by omega) (by omega) (by omega) h1 fun k hk hki=>?_
    by_cases ek:k=(i+j) / 2
    ·subst ek;exact hb
    ·have:=hs ((i+j) / 2) k hk (by omega);omega
theorem NM {xs:List am} (r:Int):∀ (xs:List am) (k:Nat) (hk:k<xs.length),xs[k].fId=r->(∀ q (h:q<xs.length),q<k->¬ xs[q].fId=r)->xs.find? (fun o=>o.fId==r)=some xs[k]
 | b:: l,0,hk,h1,_=>by simp only [List.getElem_cons_zero] at h1 ⊢;simp [h1]
 | b:: l,k+1,hk,h1,h2=>by
  have h0:=h2 0 (by simp) (by omega)
  simp only [List.getElem_cons_zero] at h0
  simp only [List.getElem_cons_succ] at h1 ⊢
  rw [List.find?_cons_of_neg (by simpa using h0)]
  exact NM (xs:=l) r l k (by simpa using hk) h1 fun q hq hqk=>by have:=h2 (q+1) (by simpa using hq) (by omega);simpa using this
theorem DE {h:aJ} (hO:h.fObjects.length<=1048576) (hs:y8 0 h.fObjects=true) (r:Int):
  (∃ (k:Nat) (o:am),pt h r=some (k:Int)/\h.fObjects[k]?=some o/\h.fObjects.find? (fun o=>o.fId==r)=some o)\/(pt h r=some (-1)/\h.fObjects.find? (fun o=>o.fId==r)=none):=by
 obtain ⟨k,h1,h2,h3,h4⟩:=O2 hO r (Jo _ _ hs) h.fObjects.length 0 h.fObjects.length (by omega) (by omega) (by omega) (fun k _ h=>by omega) (fun k h h'=>by omega)
 rw [C3,cp]
 rw [show ((h.fObjects.length:Nat):Int)=len h.fObjects from (aw _).symm,show (((0:Nat)):Int)=0 from rfl] at h4
 rw [h4]
 simp only [Option.bind_some]
 by_cases hlt:k<h.fObjects.length
 ·rw [List.getElem?_eq_getElem hlt]
  by_cases e:h.fObjects[k].fId=r
  ·refine Or.inl ⟨k,h.fObjects[k],by simp [e],List.getElem?_eq_getElem hlt,NM (xs:=[]) r _ k hlt e fun q hq hqk he=>by have:=h2 q hq hqk;omega⟩
  ·refine Or.inr ⟨by simp [e],?_⟩
   rw [List.find?_eq_none]
   intro o ho he
   obtain ⟨q,hq,rfl⟩:=List.getElem_of_mem ho
   simp only [beq_iff_eq] at he
   by_cases hqk:q<k
   ·have:=h2 q hq hqk;omega
   ·by_cases eq:q=k
    ·subst eq;exact e he
    ·have h5:=Jo _ _ hs k q hq (by omega)
     have h6:=h3 k hlt (Nat.le_refl _)
     omega
 ·rw [List.getElem?_eq_none (by omega)]
  refine Or.inr ⟨by simp,?_⟩
  rw [List.find?_eq_none]
  intro o ho he
  obtain ⟨q,hq,rfl⟩:=List.getElem_of_mem ho
  simp only [beq_iff_eq] at he
  have:=h2 q hq (by omega);omega
theorem tL {h:aJ} (hO:h.fObjects.length<=1048576) (hs:y8 0 h.fObjects=true) (v:ap):mf h v=some (fG h.fObjects v):=by
 rw [CZ]
 simp only [jA,IS,dw,Option.bind_some,BD]
 unfold fG
 cases wM v
 ·simp
 by_cases hk:4<=v.fKind/\v.fKind<=6
 ·rw [if_pos hk,Kj hk.1 hk.2]
  rcases DE hO hs v.fRef with ⟨k,o,e1,e2,e3⟩ | ⟨e1,e2⟩
  ·rw [e1,e3];simp only [Option.bind_some,aZ,e2];simp [hk.1,hk.2]
  ·rw [e1,e2];simp [hk.1,hk.2]
 ·rw [if_neg hk]
  have:(decide (4<=v.fKind)&&decide (v.fKind<=6))=false:=by
   rw [Bool.eq_false_iff];simpa using hk
  rw [this];simp
theorem Cp {O:List am} (hO:O.length<=1048576) (n:Int) {l:List ap} (hl:l.length<=1048576):pB n O l=some (l.all (fG O)):=by
 rw [Df]
 exact cP (xs:=l) (by omega) (F:=oI n O) (p:=fG O) (J:=fun i=>hY n O l i) (fun i=>by show hY _ _ _ _=_;rw [yl]) (fun y _=>wN hO n y)
theorem pW {O:List am} (hO:O.length<=1048576) (hs:y8 0 O=true) (n:Int) {l:List ap} (hl:l.length<=2097153):b0 l n O=some (l.all (fG O)):=by
 rw [jT]
 exact cP (xs:=l) (by omega) (F:=fun v=>mf (aJ.mk n O) v) (p:=fG O) (J:=fun i=>bP n O l (len l) i) (fun i=>by show bP _ _ _ _ _=_;rw [iJ]) (fun y _=>tL (h:=aJ.mk n O) hO hs y)
theorem Qj {a b:List ap} (ha:a.length<=1048576) (hb:b.length<=1048576):cz [a,b]=some ((a++b,()),()):=by
 have w1:w64 (0+1)=1:=aT (by decide) (by decide)
 have w2:w64 (1+1)=2:=aT (by decide) (by decide)
 have l2:len [a,b]=2:=by simp [aw]
 have i0:idx [a,b] 0=some a:=by rw [mZ];rfl
 have i1:idx [a,b] 1=some b:=by rw [show (1:Int)=((1:Nat):Int) from rfl,aZ];rfl
 have wa:w64 (0+len a)=len a:=by rw [Int.zero_add];exact aT (by simp only [aw];omega) (by simp only [aw];omega)
 have wb:w64 (len a+len b)=len a+len b:=aT (by simp only [aw];omega) (by simp only [aw];omega)
 have na:¬ decide (len a<0)=true:=by simp only [aw,decide_eq_true_eq];omega
 have nb:¬ decide (len a+len b<0)=true:=by simp only [aw,decide_eq_true_eq];omega
 have g:F0 (len a+len b)=some ():=by
  unfold F0 big;rw [if_pos (by simp only [aw];omega)]
 rw [gI,l2,bY,if_pos (by decide),i0,w1]
 simp only [Option.bind_some,wa,if_neg na]
 rw [bY,if_pos (by decide),i1,w2]
 simp only [Option.bind_some,wb,if_neg nb]
 rw [bY,if_neg (by decide),g,l2]
 simp only [Option.bind_some]
 rw [bV,if_pos (by decide),i0,w1,Option.bind_some,aH (by simp;omega),Option.bind_some,List.nil_append,
  bV,if_pos (by decide),i1,w2,Option.bind_some,aH (by omega),Option.bind_some,bV,if_neg (by decide)]
def tM (O:List am) (o:am):Bool:=(o.fKeys++o.fVals++(if o.fKind=2 then [o.fDefault] else [])).all (fG O)
theorem NN {O:List am} (hO:O.length<=1048576) (n:Int) {o:am} (h1:o.fKeys.length<=1048576) (h2:o.fVals.length<=1048576):
  vF n O o.fId o.fKind o.fName o.fLow o.fKeys o.fVals o.fDefault.fKind o.fDefault.fNum o.fDefault.fText o.fDefault.fRef=some (tM O o):=by
 rw [G9,Cp hO n h1,Cp hO n h2]
 have ed:ap.mk o.fDefault.fKind o.fDefault.fNum o.fDefault.fText o.fDefault.fRef=o.fDefault:=by cases o.fDefault;rfl
 simp only [Option.bind_some,ed,wN hO]
 unfold tM
 simp only [List.all_append]
 by_cases k:o.fKind=2
 ·cases o.fKeys.all (fG O)<;>cases o.fVals.all (fG O)<;>simp [k]
 ·cases o.fKeys.all (fG O)<;>cases o.fVals.all (fG O)<;>simp [k]
theorem NO {O:List am} (hO:O.length<=1048576) (hs:y8 0 O=true) (n:Int) {o:am} (h1:o.fKeys.length<=1048576) (h2:o.fVals.length<=1048576):
  kn o n O=some (tM O o):=by
 rw [yc,rJ,Qj h1 h2]
 simp only [Option.bind_some]
 unfold tM
 by_cases k:o.fKind=2
 ·rw [if_pos (by simpa using k),aH (by simp;omega)]
  simp only [Option.bind_some]
  rw [pW hO hs n (by simp;omega)]
  simp [k]
 ·rw [if_neg (by simpa using k)]
  simp only [Option.bind_some]
  rw [pW hO hs n (by simp;omega)]
  simp [k]
def Jp (n:Int) (O:List am):Bool:=(decide (0<=n)&&decide (n<=1000000))&&decide (O.length<=40)&&O.all Jn&&(O.all (fun o=>decide (o.fId<=n))&&y8 0 O)&&O.all (tM O)
theorem Kk {n:Int} {O:List am} (h:Jp n O=true):y8 0 O=true:=by
 unfold Jp at h;simp only [Bool.and_eq_true] at h;exact h.1.2.2
theorem sK {n:Int} {O:List am} (hO:O.length<=1048576) (hm:∀ o∈O,o.fKeys.length<=1048576/\o.fVals.length<=1048576):EG n O=some (Jp n O):=by
 rw [KV]
 simp only [ef,Option.bind_some]
 unfold Jp
 cases (decide (0<=n)&&decide (n<=1000000))
 ·simp
 by_cases hl:O.length<=40
 rotate_left
 ·simp only [hl,aw];simp;omega
 have hl2:¬ decide (len O>40)=true:=by simp only [aw,decide_eq_true_eq];omega
 rw [if_neg (by simp),if_neg hl2]
 have fin:jO n O 0=some (O.all (tM O)):=
  cP (xs:=O) (by omega) (F:=fun o=>vF n O o.fId o.fKind o.fName o.fLow o.fKeys o.fVals o.fDefault.fKind o.fDefault.fNum o.fDefault.fText o.fDefault.fRef) (p:=tM O) (J:=fun i=>jO n O i) (fun i=>by show jO _ _ _=_;rw [C9]) (fun y hy=>NN hO n (hm y hy).1 (hm y hy).2)
 have key:=cB (xs:=O) (by omega) (P:=fun i l=>∀ p:Int,(i=0->p=0)->(0<i->∃ o,O[i-1]?=some o/\o.fId=p)->sA n O (i:Int)=if (l.all Jn&&(l.all (fun o=>decide (o.fId<=n))&&y8 p l))=true then some (O.all (tM O)) else some false) (by
  intro p _ _
  rw [vV,if_neg (by simp [aw]),fin];simp [y8]) (by
  intro i y l hd hlt hy hi hw ih p hp0 hp1
  have hnx:=ih y.fId (by omega) (fun _=>⟨y,by rw [Nat.add_sub_cancel,<-aZ,hi],rfl⟩)
  rw [vV,if_pos (by simp [aw,hlt]),hi]
  simp only [Option.bind_some,DD (hm y hy).1 (hm y hy).2,Fg,Fh,hw,hnx]
  rw [show ((y:: l).all Jn&&((y:: l).all (fun o=>decide (o.fId<=n))&&y8 p (y:: l)))=(Jn y&&l.all Jn&&((decide (y.fId<=n)&&l.all fun o=>decide (o.fId<=n))&&(decide (p<y.fId)&&y8 y.fId l))) from rfl]
  by_cases hob:Jn y=true
  rotate_left
  ·simp [hob]
  have hid:1<=y.fId:=by unfold Jn at hob;simp only [Bool.and_eq_true,decide_eq_true_eq] at hob;exact hob.1.1.1
  by_cases hn:y.fId<=n
  rotate_left
  ·rw [if_neg (by simp [hob]),if_pos (by simp;omega),if_neg (by simp [hn])]
  rw [if_neg (by simp [hob]),if_neg (by simp;omega)]
  by_cases h0:i=0
  ·rw [if_neg (by simp;omega)]
   have:p<y.fId:=by rw [hp0 h0];omega
   simp [hn,this,hob]
  ·rw [if_pos (by simp;omega)]
   obtain ⟨o,ho,hop⟩:=hp1 (by omega)
   have w1:w64 ((i:Int)-1)=((i-1:Nat):Int):=by rw [aT (by omega) (by omega)];omega
   rw [w1,aZ,ho]
   simp only [Option.bind_some,hop]
   by_cases hlt2:p<y.fId
   ·rw [if_neg (by simp;omega)];simp [hn,hlt2,hob]
   ·rw [if_pos (by simp;omega),if_neg (by simp [hlt2])])
 have k0:=key 0 (fun _=>rfl) (by omega)
 rw [Int.natCast_zero] at k0
 rw [k0]
 cases O.all Jn<;>cases (O.all fun o=>decide (o.fId<=n))<;>cases y8 0 O<;>simp [hl]
theorem DF {h:aJ} (hO:h.fObjects.length<=1048576) (hm:∀ o∈h.fObjects,o.fKeys.length<=1048576/\o.fVals.length<=1048576):t8 h=some (Jp h.fNext h.fObjects):=by
 rw [CT]
 simp only [dw,xJ,xK,Option.bind_some]
 unfold Jp
 cases (decide (0<=h.fNext)&&decide (h.fNext<=1000000))
 ·simp
 by_cases hl:h.fObjects.length<=40
 rotate_left
 ·simp only [hl,aw];simp;omega
 have hl2:¬ decide (len h.fObjects>40)=true:=by simp only [aw,decide_eq_true_eq];omega
 rw [if_neg (by simp),if_neg hl2]
 have ea:cw h.fObjects=some (h.fObjects.all Jn):=by
  rw [gG]
  exact cP (xs:=h.fObjects) (by omega) (F:=lG) (p:=Jn) (J:=fun i=>bj h.fObjects (len h.fObjects) i) (fun i=>by show bj _ _ _=_;rw [fF]) (fun y hy=>z6 (hm y hy).1 (hm y hy).2)
 rw [ea]
 simp only [Option.bind_some]
 cases h.fObjects.all Jn
 ·simp
 have key:=cB (xs:=h.fObjects) (by omega) (P:=fun i l=>∀ p:Int,kj p h.fObjects (len h.fObjects) (i:Int) h.fNext h.fObjects=if (l.all (fun o=>decide (o.fId<=h.fNext))&&y8 p l)=true then co h.fObjects h.fNext h.fObjects else some false) (by
  intro p
  rw [oQ,if_neg (by simp [aw])];simp [y8]) (by
  intro i y l hd hlt hy hi hw ih p
  rw [oQ,if_pos (by simp [aw,hlt]),hi]
  simp only [Option.bind_some,hw,ih]
  rw [show (((y:: l).all fun o=>decide (o.fId<=h.fNext))&&y8 p (y:: l))=((decide (y.fId<=h.fNext)&&l.all fun o=>decide (o.fId<=h.fNext))&&(decide (p<y.fId)&&y8 y.fId l)) from rfl]
  by_cases h1:p<y.fId
  ·rw [if_neg (by simp;omega)]
   by_cases h2:y.fId<=h.fNext
   ·rw [if_neg (by simp;omega)];simp [h1,h2]
   ·rw [if_pos (by simp;omega),if_neg (by simp [h2])]
  ·rw [if_pos (by simp;omega),if_neg (by simp [h1])]) 0
 rw [Int.natCast_zero] at key
 rw [if_neg (by simp),key]
 cases hi:(h.fObjects.all fun o=>decide (o.fId<=h.fNext))&&y8 0 h.fObjects
 ·simp
 ·have hinc:y8 0 h.fObjects=true:=by simp only [Bool.and_eq_true] at hi;exact hi.2
  rw [if_pos rfl,gc]
  have fin:aV h.fNext h.fObjects h.fObjects (len h.fObjects) 0=some (h.fObjects.all (tM h.fObjects)):=
   cP (xs:=h.fObjects) (by omega) (F:=fun o=>kn o h.fNext h.fObjects) (p:=tM h.fObjects) (J:=fun i=>aV h.fNext h.fObjects h.fObjects (len h.fObjects) i) (fun i=>by show aV _ _ _ _ _=_;rw [fy]) (fun y hy=>NO hO hinc _ (hm y hy).1 (hm y hy).2)
  rw [fin];simp [hl]
end Go.Dv.U

namespace Go.Dv.U
open Go Go.Dv Go.Proofs
def Cq (l:List (List UInt8)):Bool:=l.all bg&&decide l.Nodup
theorem rS {l:List (List UInt8)} (h:l.length<=9223372036854775807):dj l=some (l.all bg):=by
 rw [lN]
 exact cP h (F:=di) (p:=bg) (J:=cC l (len l)) (fun i=>by rw [jU]) (fun y _=>dx)
theorem HM {l:List (List UInt8)} (h:l.length<=68719476736):yQ l=some l:=by unfold yQ big;rw [if_pos h]
theorem Kl {l:List (List UInt8)} (h:l.length<=68719476736):Im l=some (Lib.compact (l.mergeSort fun x y=>decide (x<=y))):=by unfold Im big;rw [if_pos h]
theorem Km (l:List (List UInt8)):(len (Lib.compact (l.mergeSort fun x y=>decide (x<=y)))==len l)=decide l.Nodup:=by
 rw [Bool.eq_iff_iff,beq_iff_eq,decide_eq_true_eq,<-KS,aw,aw];omega
theorem DG {l:List (List UInt8)}:ug l=some (decide (1<=l.length)&&decide (l.length<=6)&&Cq l):=by
 rw [Dh,ym]
 by_cases h1:l.length<1
 ·rw [if_pos (by simp only [aw,decide_eq_true_eq];omega)];simp;omega
 ·rw [if_neg (by simp only [aw,decide_eq_true_eq];omega)]
  by_cases h2:l.length>6
  ·rw [if_pos (by simp only [aw,decide_eq_true_eq];omega)];simp;omega
  ·rw [if_neg (by simp only [aw,decide_eq_true_eq];omega),rS (by omega),yn,HM (by omega)]
   simp only [Option.bind_some]
   rw [Kl (by omega)]
   simp only [Option.bind_some,Km,Cq,show 1<=l.length by omega,show l.length<=6 by omega,decide_true,Bool.true_and]
   cases l.all bg<;>simp
theorem Lk {l:List (List UInt8)} (h:l.length<=9223372036854775807) (x:List UInt8):Iz l x=some (if x∈l then (l.idxOf x:Int) else -1):=by
 rw [K0]
 have key:=cB h (P:=fun i r=>sF l x i=some (if x∈r then ((i+r.idxOf x:Nat):Int) else -1)) ?_ ?_
 ·simpa using key
 ·rw [ws];simp [aw]
 ·intro i y r _ hlt hy hi hw ih
  rw [ws,hi,hw,if_pos (by simp [aw,hlt])]
  simp only [Option.bind_some]
  by_cases e:y=x
  ·subst e;simp
  ·have e1:(y==x)=false:=by simpa using e
   rw [e1,ih]
   simp only [Bool.false_eq_true,if_false,List.mem_cons,List.idxOf_cons,e1,cond_false]
   have e2:¬ x=y:=fun h=>e h.symm
   simp only [e2,false_or]
   congr 1
   split<;>omega
theorem wO {l:List (List UInt8)} (h:l.length<=9223372036854775807):sE l=some (Cq l):=by
 rw [Ft]
 have key:=cB h (P:=fun i r=>lM l i=some (r.all bg&&decide (∀ k,k<l.length->i<=k->l.idxOf (l.getD k [])=k))) ?_ ?_
 ·rw [Int.natCast_zero] at key
  rw [key]
  unfold Cq
  congr 2
  rw [Bool.eq_iff_iff,decide_eq_true_eq,decide_eq_true_eq,Nb]
  constructor
  ·intro q k hk;have:=q k hk (Nat.zero_le _);rwa [List.getD_eq_getElem?_getD,List.getElem?_eq_getElem hk] at this
  ·intro q k hk _;rw [List.getD_eq_getElem?_getD,List.getElem?_eq_getElem hk];exact q k hk
 ·rw [qc]
  simp only [aw,Int.lt_irrefl,decide_false,Bool.false_eq_true,if_false,List.all_nil,Bool.true_and]
  congr 1
  rw [eq_comm,decide_eq_true_eq]
  intro k hk hk2;omega
 ·intro i y r _ hlt hy hi hw ih
  have hyi:l.getD i []=y:=by rw [List.getD_eq_getElem?_getD,<-aZ,hi];rfl
  rw [qc,hi,hw,if_pos (by simp [aw,hlt])]
  simp only [Option.bind_some,dy,Lk h,if_pos hy,List.all_cons]
  rw [ih]
  have hb:(((l.idxOf y:Nat):Int) !=(i:Int))=!(decide (l.idxOf y=i)):=by
   rw [Bool.eq_iff_iff];simp only [bne_iff_ne,ne_eq,Bool.not_eq_true',decide_eq_false_iff_not];omega
  rw [hb]
  have hs:decide (∀ k,k<l.length->i<=k->l.idxOf (l.getD k [])=k)=(decide (l.idxOf y=i)&&decide (∀ k,k<l.length->i+1<=k->l.idxOf (l.getD k [])=k)):=by
   rw [Bool.eq_iff_iff,Bool.and_eq_true_iff,decide_eq_true_eq,decide_eq_true_eq,decide_eq_true_eq]
   constructor
   ·intro q;exact ⟨by have:=q i hlt (Nat.le_refl _);rwa [hyi] at this,fun k hk hk2=>q k hk (by omega)⟩
   ·rintro ⟨q1,q2⟩ k hk hk2
    by_cases e:k=i
    ·subst e;rw [hyi];exact q1
    ·exact q2 k hk (by omega)
  rw [hs]
  cases bg y<;>cases decide (l.idxOf y=i)<;>simp
theorem O3 {a b:List (List UInt8)} (ha:a.length<=1048576) (hb:b.length<=1048576):dr [a,b]=some (a++b):=by
 have w1:w64 (0+1)=1:=aT (by decide) (by decide)
 have w2:w64 (1+1)=2:=aT (by decide) (by decide)
 have l2:len [a,b]=2:=by simp [aw]
 have i0:idx [a,b] 0=some a:=by rw [mZ];rfl
 have i1:idx [a,b] 1=some b:=by rw [wW];rfl
 have wa:w64 (0+len a)=len a:=by rw [Int.zero_add];exact aT (by simp only [aw];omega) (by simp only [aw];omega)
 have wb:w64 (len a+len b)=len a+len b:=aT (by simp only [aw];omega) (by simp only [aw];omega)
 have na:¬ decide (len a<0)=true:=by simp only [aw,decide_eq_true_eq];omega
 have nb:¬ decide (len a+len b<0)=true:=by simp only [aw,decide_eq_true_eq];omega
 have g:MW (len a+len b)=some []:=by
  unfold MW big;rw [if_pos (by simp only [aw];omega)]
 rw [jv,l2,cq,if_pos (by decide),i0,w1]
 simp only [Option.bind_some,wa,if_neg na]
 rw [cq,if_pos (by decide),i1,w2]
 simp only [Option.bind_some,wb,if_neg nb]
 rw [cq,if_neg (by decide),g,l2]
 simp only [Option.bind_some]
 rw [ck,if_pos (by decide),i0,w1,Option.bind_some,aH (by simp;omega),Option.bind_some,List.nil_append,
  ck,if_pos (by decide),i1,w2,Option.bind_some,aH (by omega),Option.bind_some,ck,if_neg (by decide)]
def Pr (b:ak):Bool:=bg b.fName&&wM b.fValue&&!Jj b.fValue
def NP (f:ah):Bool:=bg f.fName&&bg f.fLabel&&decide (f.fParams.length<=6)&&decide (f.fLocals.length<=6)&&Cq (f.fParams++f.fLocals)
def NQ (t:ac):Bool:=bg t.fName&&decide (1<=t.fFields.length)&&decide (t.fFields.length<=6)&&Cq t.fFields
def O4 (s:aB):Bool:=decide (s.fVars.length<=40)&&decide (s.fFunctions.length<=12)&&decide (s.fTypes.length<=8) &&
 (s.fVars.all Pr&&adj ak.fName s.fVars)&&(s.fFunctions.all NP&&adj ah.fName s.fFunctions)&&(s.fTypes.all NQ&&adj ac.fName s.fTypes)
theorem th (b:ak):gD b=some (Pr b):=by
 rw [tc]
 simp only [dx,jA,Jl,Option.bind_some]
 unfold Pr
 cases bg b.fName<;>cases wM b.fValue<;>simp
theorem rT {f:ah} (hm:f.m<=1048576):fL f=some (NP f):=by
 have hq:=f.m_eq
 rw [rH,O3 (by omega) (by omega)]
 simp only [dx,Option.bind_some]
 rw [rS (by simp;omega),HM (by simp;omega)]
 simp only [Option.bind_some]
 rw [Kl (by simp;omega)]
 simp only [Option.bind_some,Km]
 unfold NP Cq
 have e:∀ n:Nat,decide ((n:Int)<=(6:Int))=decide (n<=6):=fun n=>by rw [Bool.eq_iff_iff];simp only [decide_eq_true_eq];omega
 simp only [aw,e]
 cases bg f.fName<;>cases bg f.fLabel<;>cases decide (f.fParams.length<=6)<;>cases decide (f.fLocals.length<=6)<;>cases (f.fParams++f.fLocals).all bg<;>simp
theorem pX (t:ac):eH t=some (NQ t):=by
 rw [pF]
 simp only [dx,DG,Option.bind_some]
 unfold NQ
 cases bg t.fName<;>simp
theorem z7 {f:ah} (hm:f.m<=1048576):pA f=some (NP f):=by
 have hq:=f.m_eq
 rw [zS]
 simp only [uJ,uK,dy,Option.bind_some]
 rw [aH (by simp;omega),List.nil_append,Option.bind_some,aH (by omega),Option.bind_some,wO (by simp;omega)]
 unfold NP
 have e:∀ n:Nat,decide ((n:Int)>(6:Int))=!decide (n<=6):=fun n=>by rw [Bool.eq_iff_iff];simp only [decide_eq_true_eq,Bool.not_eq_true',decide_eq_false_iff_not];omega
 simp only [aw,e,Option.bind_some]
 cases bg f.fName<;>cases bg f.fLabel<;>cases decide (f.fParams.length<=6)<;>cases decide (f.fLocals.length<=6)<;>simp
theorem HN {t:ac} (h:t.fFields.length<=9223372036854775807):Bd t=some (NQ t):=by
 rw [Hb]
 simp only [dy,ef,wO h,Option.bind_some]
 unfold NQ
 have e:∀ n:Nat,decide ((n:Int)<=(6:Int))=decide (n<=6):=fun n=>by rw [Bool.eq_iff_iff];simp only [decide_eq_true_eq];omega
 have e2:∀ n:Nat,decide ((1:Int)<=(n:Int))=decide (1<=n):=fun n=>by rw [Bool.eq_iff_iff];simp only [decide_eq_true_eq];omega
 simp only [aw,e,e2]
 cases bg t.fName<;>cases decide (1<=t.fFields.length)<;>cases decide (t.fFields.length<=6)<;>simp
theorem Cr {s:aB} (hm:s.m<=1048576):qA s=some (O4 s):=by
 have hq:=s.m_eq
 rw [Bm]
 simp only [vP,vQ,vU]
 have a1:=Ag (xs:=s.fVars) (by omega) (nm:=ak.fName) (J:=bB s.fVars) (fun i=>by rw [eC];simp only [v8,Option.bind_some])
 have a2:=Ag (xs:=s.fFunctions) (by omega) (nm:=ah.fName) (J:=bm s.fFunctions) (fun i=>by rw [et];simp only [uz,Option.bind_some])
 have a3:=Ag (xs:=s.fTypes) (by omega) (nm:=ac.fName) (J:=bC s.fTypes) (fun i=>by rw [eD];simp only [BO,Option.bind_some])
 have b1:=cP (xs:=s.fVars) (by omega) (F:=gD) (p:=Pr) (J:=bD s.fVars (len s.fVars)) (fun i=>by rw [eE]) (fun y _=>th y)
 have b2:=cP (xs:=s.fFunctions) (by omega) (F:=fL) (p:=NP) (J:=bn s.fFunctions (len s.fFunctions)) (fun i=>by rw [eu]) (fun y hy=>rT (by have:=bh (m:=ah.m) hy;omega))
 have b3:=cP (xs:=s.fTypes) (by omega) (F:=eH) (p:=NQ) (J:=bc s.fTypes (len s.fTypes)) (fun i=>by rw [dP]) (fun y _=>pX y)
 simp only [fi,eU,fj,fk,eV,dZ,a1,a2,a3,b1,b2,b3,Option.bind_some]
 have e:∀ n c:Nat,decide ((n:Int)>(c:Int))=!decide (n<=c):=fun n c=>by rw [Bool.eq_iff_iff];simp only [decide_eq_true_eq,Bool.not_eq_true',decide_eq_false_iff_not];omega
 have e1:=e s.fVars.length 40
 have e2:=e s.fFunctions.length 12
 have e3:=e s.fTypes.length 8
 simp only [Int.cast_ofNat_Int] at e1 e2 e3
 unfold O4
 simp only [aw,e1,e2,e3]
 cases decide (s.fVars.length<=40)<;>cases decide (s.fFunctions.length<=12)<;>cases decide (s.fTypes.length<=8)<;>cases adj ak.fName s.fVars<;>cases adj ah.fName s.fFunctions<;>cases adj ac.fName s.fTypes<;>cases s.fVars.all Pr<;>cases s.fFunctions.all NP<;>cases s.fTypes.all NQ<;>rfl
theorem rU {s:aB} (hm:s.m<=1048576):nj s=some (O4 s):=by
 have hq:=s.m_eq
 have pre:∀ (j n:Nat),j+1<n->n<=1048577->w64 (((j+1:Nat):Int)-1)=(j:Int):=fun j n h1 h2=>by rw [aT (by omega) (by omega)];omega
 have nx:∀ (i n:Nat),i<n->n<=1048577->w64 ((i:Int)+1)=((i+1:Nat):Int):=fun i n h1 h2=>by rw [aT (by omega) (by omega)];omega
 have t3:=Ah (xs:=s.fTypes) (by omega) (p:=NQ) (nm:=ac.fName) (E:=some true) (J:=fun i=>fu i s.fVars s.fFunctions s.fTypes) (fun i hi=>by
  rw [uF,aZ]
  by_cases hlt:i<s.fTypes.length
  ·rw [if_pos (by simp [aw,hlt]),List.getElem?_eq_getElem hlt]
   simp only [Option.bind_some]
   rw [HN (by have:=bh (m:=ac.m) (List.getElem_mem hlt);have:=(s.fTypes[i]).m_eq;omega)]
   simp only [Option.bind_some,uM,uL,nx i _ hlt (by omega)]
   cases i with
   | zero=>cases NQ s.fTypes[0]<;>simp
   | succ j=>
    have hj:s.fTypes[j]?=some s.fTypes[j]:=List.getElem?_eq_getElem (by omega)
    have hp:decide (((j+1:Nat):Int)>0)=true:=by simp only [decide_eq_true_eq];omega
    rw [if_pos hp,pre j _ hlt (by omega),aZ]
    simp only [hj,Option.bind_some]
    by_cases h1:NQ s.fTypes[j+1]=true<;>by_cases hb:Op.bytesLess s.fTypes[j].fName s.fTypes[j+1].fName=true<;>simp [h1,hb]
  ·rw [if_neg (by simp only [aw,decide_eq_true_eq];omega),List.getElem?_eq_none (by omega)])
 have t2:=Ah (xs:=s.fFunctions) (by omega) (p:=NP) (nm:=ah.fName) (E:=fu 0 s.fVars s.fFunctions s.fTypes) (J:=fun i=>fq i s.fVars s.fFunctions s.fTypes) (fun i hi=>by
  rw [uv,aZ]
  by_cases hlt:i<s.fFunctions.length
  ·rw [if_pos (by simp [aw,hlt]),List.getElem?_eq_getElem hlt]
   simp only [Option.bind_some]
   rw [z7 (by have:=bh (m:=ah.m) (List.getElem_mem hlt);omega)]
   simp only [Option.bind_some,uE,uD,nx i _ hlt (by omega)]
   cases i with
   | zero=>cases NP s.fFunctions[0]<;>simp
   | succ j=>
    have hj:s.fFunctions[j]?=some s.fFunctions[j]:=List.getElem?_eq_getElem (by omega)
    have hp:decide (((j+1:Nat):Int)>0)=true:=by simp only [decide_eq_true_eq];omega
    rw [if_pos hp,pre j _ hlt (by omega),aZ]
    simp only [hj,Option.bind_some]
    by_cases h1:NP s.fFunctions[j+1]=true<;>by_cases hb:Op.bytesLess s.fFunctions[j].fName s.fFunctions[j+1].fName=true<;>simp [h1,hb]
  ·rw [if_neg (by simp only [aw,decide_eq_true_eq];omega),List.getElem?_eq_none (by omega)])
 have t1:=Ah (xs:=s.fVars) (by omega) (p:=Pr) (nm:=ak.fName) (E:=fq 0 s.fVars s.fFunctions s.fTypes) (J:=fun i=>jh i s.fVars s.fFunctions s.fTypes) (fun i hi=>by
  rw [vW,aZ]
  by_cases hlt:i<s.fVars.length
  ·rw [if_pos (by simp [aw,hlt]),List.getElem?_eq_getElem hlt]
   simp only [Option.bind_some,dy,jz,Jk,vY,vX,nx i _ hlt (by omega),Pr]
   cases i with
   | zero=>by_cases h1:bg s.fVars[0].fName=true<;>by_cases h2:wM s.fVars[0].fValue=true<;>by_cases h3:Jj s.fVars[0].fValue=true<;>simp [h1,h2,h3]
   | succ j=>
    have hj:s.fVars[j]?=some s.fVars[j]:=List.getElem?_eq_getElem (by omega)
    have hp:decide (((j+1:Nat):Int)>0)=true:=by simp only [decide_eq_true_eq];omega
    rw [if_pos hp,pre j _ hlt (by omega),aZ]
    simp only [hj,Option.bind_some]
    by_cases h1:bg s.fVars[j+1].fName=true<;>by_cases h2:wM s.fVars[j+1].fValue=true<;>by_cases h3:Jj s.fVars[j+1].fValue=true<;>by_cases hb:Op.bytesLess s.fVars[j].fName s.fVars[j+1].fName=true<;>simp [h1,h2,h3,hb]
  ·rw [if_neg (by simp only [aw,decide_eq_true_eq];omega),List.getElem?_eq_none (by omega)])
 rw [t3] at t2
 rw [t2] at t1
 rw [Bs]
 simp only [vR,vS,t1]
 have e:∀ n c:Nat,decide ((n:Int)>(c:Int))=!decide (n<=c):=fun n c=>by rw [Bool.eq_iff_iff];simp only [decide_eq_true_eq,Bool.not_eq_true',decide_eq_false_iff_not];omega
 have e1:=e s.fVars.length 40
 have e2:=e s.fFunctions.length 12
 have e3:=e s.fTypes.length 8
 simp only [Int.cast_ofNat_Int] at e1 e2 e3
 unfold O4
 simp only [aw,e1,e2,e3]
 cases decide (s.fVars.length<=40)<;>cases decide (s.fFunctions.length<=12)<;>cases decide (s.fTypes.length<=8)<;>cases (s.fVars.all Pr&&adj ak.fName s.fVars)<;>cases (s.fFunctions.all NP&&adj ah.fName s.fFunctions)<;>cases (s.fTypes.all NQ&&adj ac.fName s.fTypes)<;>rfl
end Go.Dv.U

namespace Go.Dv.U
open Go Go.Dv Go.Proofs
theorem Jq {O:List am} (h:aR am.m O<=1048576):∀ o∈O,o.fKeys.length<=1048576/\o.fVals.length<=1048576:=by
 intro o ho
 have h1:=bh (m:=am.m) ho
 have h2:=o.m_eq
 exact ⟨by omega,by omega⟩
end Go.Dv.U

namespace Go.Dv.U
open Go Go.Dv Go.Proofs
def vsR (vs:List ak):List ap:=vs.flatMap fun b=>[b.fValue]
theorem FU (vs:List ak):(vsR vs).length=vs.length:=by rw [vsR,<-List.map_eq_flatMap,List.length_map]
theorem HO {vs:List ak} (hv:vs.length<=1048576) (fs:List ah) (ts:List ac):kW (aB.mk vs fs ts)=some ((vsR vs,()),()):=by
 rw [um]
 have:=sG (xs:=vs) (by omega) (f:=fun b=>[b.fValue]) (B:=68719476736) (J:=fun i a=>cy vs (len vs) i a) (by
  intro i y c hlt hy hi hw hc
  show cy _ _ _ _=cy _ _ _ _
  rw [jG,if_pos (by simp [aw,hlt]),hi,hw]
  simp only [Option.bind_some]
  rw [aH hc];rfl) (by have:=FU vs;unfold vsR at this;omega)
 rw [show cy vs (len vs) 0 []=_ from this,jG,if_neg (by simp [aw])];rfl
end Go.Dv.U

namespace Go.Dv.U
open Go Go.Dv Go.Proofs
def Lu (n k:Nat) (l:List (List UInt8)):Bool:=decide (l.length<=n)&&l.all fun s=>decide (s.length<=k)
theorem Cs {a b:Nat}:decide ((a:Int)<=(b:Int))=decide (a<=b):=by
 rw [Bool.eq_iff_iff];simp only [decide_eq_true_eq];omega
theorem sL {l:List (List UInt8)} (hl:l.length<=1048576) (n k:Nat):lT l (n:Int) (k:Int)=some (Lu n k l):=by
 rw [E6]
 have key:=mE (xs:=l) (by omega) (c:=fun y _=>decide (y.length<=k)) (J:=fun i=>ep l k i) (by
  intro i y hlt hy hi hw
  show ep _ _ _=_
  rw [p9,if_pos (by simp [aw,hlt]),hi,hw]
  simp only [Option.bind_some,aw,y7]
  cases decide (y.length<=k)<;>simp)
 have hg:∀ (q:List (List UInt8)) (i:Nat),Fz (fun y _=>decide (y.length<=k)) q i=q.all fun y=>decide (y.length<=k):=by
  intro q;induction q with
  | nil=>intro i;rfl
  | cons y r ih=>intro i;simp only [Fz,ih,List.all_cons]
 have key2:ep l k 0=some (l.all fun y=>decide (y.length<=k)):=by
  have kend:ep l k (l.length:Int)=some true:=by rw [p9,if_neg (by simp [aw])]
  rw [show ep l k 0=_ from key,hg,kend]
  cases (l.all fun y=>decide (y.length<=k))<;>simp
 rw [key2]
 unfold Lu
 rw [aw,y7]
 cases decide (l.length<=n)<;>cases (l.all fun y=>decide (y.length<=k))<;>simp
theorem yB {l:List (List UInt8)} (hl:l.length<=1048576):ch l=some (l.all fun s=>decide (s.length<=200)):=by
 rw [lf]
 exact cP (xs:=l) (by omega) (F:=Ba) (p:=fun s=>decide (s.length<=200)) (J:=fun i=>bU l (len l) i) (fun i=>by show bU _ _ _=_;rw [jC]) (fun y _=>by rw [G8,aw];congr 1;exact Cs (b:=200))
theorem Ll {l:List (List UInt8)} (hl:l.length<=1048576):cG l=some (l.all fun s=>decide (s.length<=1300)):=by
 rw [gR]
 exact cP (xs:=l) (by omega) (F:=jP) (p:=fun s=>decide (s.length<=1300)) (J:=fun i=>bq l (len l) i) (fun i=>by show bq _ _ _=_;rw [fM]) (fun y _=>by rw [s6,aw];congr 1;exact Cs (b:=1300))
def Lv (f:aE):Bool:=bg f.fName&&Lu 40 200 f.fLines&&(decide (0<=f.fMode)&&decide (f.fMode<=3))&&(decide (0<=f.fAt)&&decide (f.fAt<=f.fLines.length))&&(f.fMode==1||f.fAt==0)
theorem NR {f:aE} (h:f.fLines.length<=1048576):Bb f=some (Lv f):=by
 rw [Ha]
 have e:=sL h 40 200
 simp only [show ((40:Nat):Int)=(40:Int) from rfl,show ((200:Nat):Int)=(200:Int) from rfl] at e
 simp only [BV,BW,dy,ef,e,Option.bind_some,aw]
 unfold Lv
 cases bg f.fName<;>cases Lu 40 200 f.fLines<;>cases (decide (0<=f.fMode)&&decide (f.fMode<=3))<;>cases (decide (0<=f.fAt)&&decide (f.fAt<=(f.fLines.length:Int)))<;>cases (f.fMode==1)<;>simp
theorem NS {f:aE} (h:f.fLines.length<=1048576):ko f=some (Lv f):=by
 rw [yd,yB h]
 simp only [td,dx,dw,IY,Option.bind_some,aw]
 unfold Lv Lu
 have e40:decide ((f.fLines.length:Int)<=40)=decide (f.fLines.length<=40):=Cs (b:=40)
 rw [e40]
 have hm:(decide (0<=f.fMode)&&decide (f.fMode<=3))=(f.fMode==0||(decide (1<=f.fMode)&&decide (f.fMode<=3))):=by
  rw [Bool.eq_iff_iff];simp only [Bool.and_eq_true,Bool.or_eq_true,decide_eq_true_eq,beq_iff_eq];omega
 rw [hm]
 have h10:f.fMode=0->(f.fMode==1)=false:=by intro e;rw [e];rfl
 cases bg f.fName<;>cases decide (f.fLines.length<=40)<;>cases (f.fLines.all fun s=>decide (s.length<=200))<;>cases (decide (0<=f.fAt)&&decide (f.fAt<=(f.fLines.length:Int)))<;>by_cases ha:f.fAt=0<;>cases h1:(f.fMode==1)<;>cases h0:(f.fMode==0)<;>cases (decide (1<=f.fMode)&&decide (f.fMode<=3))<;>simp [ha]
def Qk (c:au):Bool:=Lu 100 200 c.fInput&&(decide (0<=c.fAt)&&decide (c.fAt<=c.fInput.length))&&Lu 100 200 c.fOutput&&decide (c.fFiles.length<=6)&&Lu 200 1300 c.fTrace&&(c.fFiles.all Lv&&adj aE.fName c.fFiles)
theorem HP {c:au} (hm:c.m<=1048576):n7 c=some (Qk c):=by
 have hq:=c.m_eq
 have e1:=sL (l:=c.fInput) (by omega) 100 200
 have e2:=sL (l:=c.fOutput) (by omega) 100 200
 have e3:=sL (l:=c.fTrace) (by omega) 200 1300
 simp only [show ((100:Nat):Int)=(100:Int) from rfl,show ((200:Nat):Int)=(200:Int) from rfl,show ((1300:Nat):Int)=(1300:Int) from rfl] at e1 e2 e3
 rw [xH,KW]
 have key:=Ah (xs:=c.fFiles) (by omega) (p:=Lv) (nm:=aE.fName) (E:=some true) (J:=fun i=>lV c.fInput c.fAt c.fOutput c.fFiles c.fTrace i) (by
  intro i hi
  show lV _ _ _ _ _ _=_
  rw [Fi]
  by_cases hlt:i<c.fFiles.length
  ·rw [if_pos (by simp [aw,hlt])]
   have ei:idx c.fFiles (i:Int)=some c.fFiles[i]:=by rw [aZ,List.getElem?_eq_getElem hlt]
   have hw:w64 ((i:Int)+1)=((i+1:Nat):Int):=by rw [aT (by omega) (by omega)];omega
   have hfm:=bh (m:=aE.m) (List.getElem_mem hlt)
   have hfq:=c.fFiles[i].m_eq
   simp only [ei,Option.bind_some,NR (f:=c.fFiles[i]) (by omega),Fo,Fr,hw,List.getElem?_eq_getElem hlt]
   cases i with
   | zero=>
    have hg:¬ decide (((0:Nat):Int)>0)=true:=by simp
    rw [if_neg hg]
    by_cases hc:Lv c.fFiles[0]=true<;>simp [hc]
   | succ j=>
    have hg:decide (((j+1:Nat):Int)>0)=true:=by simp only [decide_eq_true_eq];omega
    have w1:w64 (((j+1:Nat):Int)-1)=(j:Int):=by rw [aT (by omega) (by omega)];omega
    rw [if_pos hg,w1,aZ,List.getElem?_eq_getElem (show j<c.fFiles.length by omega)]
    simp only [Option.bind_some,List.getElem?_eq_getElem (show j<c.fFiles.length by omega)]
    by_cases hc:Lv c.fFiles[j+1]=true<;>by_cases hd:Op.bytesLess c.fFiles[j].fName c.fFiles[j+1].fName=true<;>simp [hc,hd]
  ·rw [if_neg (by simp only [aw,decide_eq_true_eq];omega),List.getElem?_eq_none (by omega)])
 rw [E8,show lV c.fInput c.fAt c.fOutput c.fFiles c.fTrace 0=_ from key]
 simp only [e1,e2,e3,E7,ef,Option.bind_some,aw]
 unfold Qk
 have e6:decide ((c.fFiles.length:Int)>6)=!decide (c.fFiles.length<=6):=y7 (b:=6)
 rw [e6]
 generalize (c.fFiles.all Lv&&adj aE.fName c.fFiles)=a
 cases Lu 100 200 c.fInput<;>cases (decide (0<=c.fAt)&&decide (c.fAt<=(c.fInput.length:Int)))<;>cases Lu 100 200 c.fOutput<;>cases decide (c.fFiles.length<=6)<;>cases Lu 200 1300 c.fTrace<;>cases a<;>simp
theorem HQ {c:au} (hm:c.m<=1048576):nZ c=some (Qk c):=by
 have hq:=c.m_eq
 rw [xB,gb,yB (by omega),yB (by omega),Ll (by omega)]
 have ea:cJ c.fFiles=some (c.fFiles.all Lv):=by
  rw [gS]
  exact cP (xs:=c.fFiles) (by omega) (F:=ko) (p:=Lv) (J:=fun i=>bu c.fFiles (len c.fFiles) i) (fun i=>by show bu _ _ _=_;rw [fN]) (fun y hy=>by
   have h1:=bh (m:=aE.m) hy
   have h2:=y.m_eq
   exact NS (by omega))
 have es:cK c.fFiles=some (adj aE.fName c.fFiles):=by
  rw [gT]
  exact Ag (xs:=c.fFiles) (by omega) (nm:=aE.fName) (J:=bO c.fFiles) (fun i=>by rw [fO];simp only [BU,Option.bind_some])
 simp only [sY,sZ,dw,ea,es,Option.bind_some,aw]
 unfold Qk Lu
 have e100:∀ n:Nat,decide ((n:Int)>100)=!decide (n<=100):=fun n=>y7 (b:=100)
 have e200:∀ n:Nat,decide ((n:Int)>200)=!decide (n<=200):=fun n=>y7 (b:=200)
 have e6:decide ((c.fFiles.length:Int)>6)=!decide (c.fFiles.length<=6):=y7 (b:=6)
 rw [e100,e100,e200,e6]
 generalize (c.fInput.all fun s=>decide (s.length<=200))=a1
 generalize (c.fOutput.all fun s=>decide (s.length<=200))=a2
 generalize (c.fTrace.all fun s=>decide (s.length<=1300))=a3
 generalize c.fFiles.all Lv=a4
 generalize adj aE.fName c.fFiles=a5
 cases decide (c.fInput.length<=100)
 ·simp
 cases decide (c.fOutput.length<=100)
 ·simp
 cases decide (c.fFiles.length<=6)
 ·simp
 cases decide (c.fTrace.length<=200)
 ·simp
 cases (decide (0<=c.fAt)&&decide (c.fAt<=(c.fInput.length:Int)))<;>cases a1<;>cases a2<;>cases a3<;>cases a4<;>simp
def z8 (x:ay):Bool:=Jp x.fHeap.fNext x.fHeap.fObjects&&O4 x.fScope&&Qk x.fConsole&&(vsR x.fScope.fVars).all (fG x.fHeap.fObjects)
theorem HR {x:aB} (hm:x.m<=1048576):me x=some (((if O4 x=true then vsR x.fVars else []),()),()):=by
 have hq:=x.m_eq
 rw [vO,rU hm]
 simp only [Option.bind_some]
 by_cases h:O4 x=true
 ·simp only [h,Bool.not_true,Bool.false_eq_true,if_false,if_true]
  have:=sG (xs:=x.fVars) (by omega) (f:=fun b=>[b.fValue]) (B:=68719476736) (J:=fun i a=>cQ i x.fVars x.fFunctions x.fTypes a) (by
   intro i y a hlt hy hi hw hb
   show cQ _ _ _ _ _=cQ _ _ _ _ _
   rw [kN,if_pos (by simp [aw,hlt]),hi,hw]
   simp only [Option.bind_some]
   rw [aH hb];rfl) (by have:=FU x.fVars;unfold vsR at this;omega)
  rw [show cQ 0 x.fVars x.fFunctions x.fTypes []=_ from this,kN,if_neg (by simp [aw])];rfl
 ·simp [h]
theorem Ct {n:Int} {O:List am} (hO:O.length<=1048576) (ho:∀ o∈O,o.fKeys.length<=1048576/\o.fVals.length<=1048576) (hh:Jp n O=true) {l:List ap} (hl:l.length<=1048576):vp (aJ.mk n O) l=some (l.all (fG O)):=by
 rw [GP]
 have hv:po (aJ.mk n O)=some true:=by rw [tG];simp only [sK hO ho,hh,Option.bind_some]
 have hf:∀ v,lS (aJ.mk n O) v=some (fG O v):=by
  intro v;rw [vT];simp only [sK hO ho,hh,Option.bind_some,if_true,wN hO]
 exact cP (xs:=l) (by omega) (F:=fun v=>lS (aJ.mk n O) v) (p:=fG O) (J:=fun i=>kD l i n O) (fun i=>by show kD _ _ _ _=_;rw [Bt,hv];simp only [Option.bind_some]) (fun y _=>hf y)
theorem Aa {x:ay} (hm:x.m<=1048576):pm x=some (z8 x):=by
 have hq:=x.m_eq
 have hq2:=x.fHeap.m_eq
 have hq3:=x.fScope.m_eq
 have hob:=Jq (O:=x.fHeap.fObjects) (by omega)
 rw [zz,tG,sK (by omega) hob,rU (by omega),HP (by omega),HR (by omega)]
 simp only [Option.bind_some]
 unfold z8
 by_cases h1:Jp x.fHeap.fNext x.fHeap.fObjects=true
 rotate_left
 ·simp [h1]
 by_cases h2:O4 x.fScope=true
 rotate_left
 ·simp [h2]
 rw [h1,h2,if_pos rfl,if_pos rfl,if_pos rfl,show x.fHeap=aJ.mk x.fHeap.fNext x.fHeap.fObjects from rfl,Ct (by omega) hob h1 (by rw [FU];omega)]
 cases Qk x.fConsole<;>simp
theorem Ab {x:ay} (hm:x.m<=1048576):pj x=some (z8 x):=by
 have hq:=x.m_eq
 have hq2:=x.fHeap.m_eq
 have hq3:=x.fScope.m_eq
 have hob:=Jq (O:=x.fHeap.fObjects) (by omega)
 rw [zu,DF (by omega) hob,Cr (by omega),HQ (by omega),show x.fScope=aB.mk x.fScope.fVars x.fScope.fFunctions x.fScope.fTypes from rfl,HO (by omega)]
 simp only [Option.bind_some]
 unfold z8
 by_cases h1:Jp x.fHeap.fNext x.fHeap.fObjects=true
 rotate_left
 ·simp [h1]
 rw [pW (by omega) (Kk h1) _ (by rw [FU];omega),h1]
 cases O4 x.fScope<;>cases Qk x.fConsole<;>simp
end Go.Dv.U

namespace Go.Dv.U
open Go Go.Dv Go.Proofs
theorem y9 {α:Type} {l:List α} {k:Int} (h0:0<=k) (h1:k<l.length):∃ y,idx l k=some y/\l[k.toNat]?=some y:=by
 obtain ⟨n,rfl⟩:∃ n:Nat,k=n:=⟨k.toNat,by omega⟩
 have hn:n<l.length:=by omega
 exact ⟨l[n],by rw [aZ,List.getElem?_eq_getElem hn],by rw [Int.toNat_natCast,List.getElem?_eq_getElem hn]⟩
def Lw (I:List av) (k:Int):Int:=match idx I k with | some x=>x.fOp | none=>0
def N3 (H:List Int) (k:Int):Int:=(idx H k).getD 0
def svB (O:List am) (l:List ak):Bool:=decide (l.length<=13)&&l.all fun b=>bg b.fName&&fG O b.fValue
theorem Lm {n:Int} {O:List am} (hO:O.length<=1048576) (hs:y8 0 O=true) {l:List ak} (hl:l.length<=1048576):dn l n O=some (l.all fun b=>bg b.fName&&fG O b.fValue):=by
 rw [jr]
 refine cP (xs:=l) (by omega) (F:=fun b=>kp (aJ.mk n O) b) (p:=fun b=>bg b.fName&&fG O b.fValue) (J:=fun i=>bK n O l (len l) i) (fun i=>by show bK _ _ _ _ _=_;rw [ic]) (fun y _=>?_)
 show kp _ _=_
 rw [yh]
 simp only [dx,tL (h:=aJ.mk n O) hO hs,Option.bind_some]
 cases bg y.fName<;>simp
theorem Ln {n:Int} {O:List am} (hO:O.length<=1048576) (ho:∀ o∈O,o.fKeys.length<=1048576/\o.fVals.length<=1048576) (hh:Jp n O=true) {l:List ak} (hl:l.length<=1048576):w8 (aJ.mk n O) l=some (svB O l):=by
 rw [E9]
 have hf:∀ v,lS (aJ.mk n O) v=some (fG O v):=by
  intro v;rw [vT];simp only [sK hO ho,hh,Option.bind_some,if_true,wN hO]
 have key:=mE (xs:=l) (by omega) (c:=fun b _=>bg b.fName&&fG O b.fValue) (J:=fun i=>ff l i n O) (by
  intro i y hlt hy hi hw
  show ff _ _ _ _=_
  rw [qa,if_pos (by simp [aw,hlt]),hi,hw]
  simp only [Option.bind_some,dy,hf]
  cases bg y.fName<;>cases fG O y.fValue<;>simp)
 have hg:∀ (q:List ak) (i:Nat),Fz (fun b _=>bg b.fName&&fG O b.fValue) q i=q.all fun b=>bg b.fName&&fG O b.fValue:=by
  intro q;induction q with
  | nil=>intro i;rfl
  | cons y r ih=>intro i;simp only [Fz,ih,List.all_cons]
 have kend:ff l (l.length:Int) n O=some (decide (l.length<=13)):=by
  rw [qa,if_neg (by simp [aw]),aw];congr 1;exact Cs (b:=13)
 rw [show ff l 0 n O=_ from key,hg,kend]
 unfold svB
 cases (l.all fun b=>bg b.fName&&fG O b.fValue)<;>simp
section
variable {p:aj} (hp:p.fStatements.length<=80) (hf:∀ s∈p.fStatements,fB s=true)
noncomputable def cI (p:aj):List av:=mG p 0 p.fStatements
noncomputable def cE (p:aj):List Int:=jD p 0 0 p.fStatements
noncomputable def cF (p:aj):List Int:=jy p 0 0 p.fStatements
noncomputable def cH (p:aj):List Int:=N2 p 0 p.fStatements
noncomputable def cW (p:aj) (pc:Int):Int:=rQ p 0 0 p.fStatements pc
include hf hp in
theorem Cu : (cI p).length<=80240:=by have:=wK (p:=p) p.fStatements 0 hf;unfold cI;omega
theorem NT (p:aj):(cH p).length=(cI p).length:=Kg _ _
theorem Q4 (p:aj):(cE p).length=p.fStatements.length:=Ak _ _ _
include hp in
theorem D7 (pc:Int):sB (b9.mk (cI p) (cE p) (cF p)) pc=some (cW p pc):=by
 have:=NF (p:=p) (pc:=pc) (I:=mG p 0 p.fStatements) p.fStatements 0 0 [] [] rfl rfl (by omega)
 simp only [List.nil_append] at this
 rw [Fb]
 exact this
include hf hp in
theorem D8 (pc:Int):kF (b9.mk (cI p) (cE p) (cF p)) pc=some (cW p pc):=O1 hp hf pc
include hf hp in
theorem HS : qD (b9.mk (cI p) (cE p) (cF p))=some ((cH p,()),()):=by
 have hl:=wK (p:=p) p.fStatements 0 hf
 have:=ND hp p.fStatements 0 [] [] [] [] hf rfl rfl rfl (by simp;omega) (by omega)
 simp only [List.nil_append,List.length_nil] at this
 rw [Bu]
 simp only
 rw [pZ _ _ (by unfold cI;omega)]
 simp only [Option.bind_some]
 exact this
include hf hp in
theorem HT : AQ p=some (aQ.mk p (b9.mk (cI p) (cE p) (cF p)) (cH p)):=by
 have hl:=wK (p:=p) p.fStatements 0 hf
 have:=NE hp p.fStatements 0 [] [] [] [] hf rfl rfl rfl (by simp;omega) (by omega)
 simp only [List.nil_append,List.length_nil,Nat.zero_add] at this
 rw [GA,Nw hp hf]
 simp only [Option.bind_some,xu]
 rw [pZ _ _ (by omega)]
 simp only [Option.bind_some]
 rw [show len (jy p 0 0 p.fStatements)=(p.fStatements.length:Int) by rw [aw,HH],show dL (jy p 0 0 p.fStatements) (p.fStatements.length:Int) 0 (mG p 0 p.fStatements) (jD p 0 0 p.fStatements) (jy p 0 0 p.fStatements) (List.replicate (mG p 0 p.fStatements).length 0)=_ from this]
 rfl
noncomputable def frB (p:aj) (O:List am) (f:ae):Bool:=bg f.fName&&svB O f.fSaved&&(decide (1<=f.fPC)&&decide (f.fPC<=((cI p).length:Int)-1))&&(Lw (cI p) (f.fPC-1)==13)&&(cW p (f.fPC-1)==f.fAt)
include hf hp in
theorem Lo {n:Int} {O:List am} (hO:O.length<=1048576) (ho:∀ o∈O,o.fKeys.length<=1048576/\o.fVals.length<=1048576) (hh:Jp n O=true) {f:ae} (hm:f.fSaved.length<=1048576):w7 (b9.mk (cI p) (cE p) (cF p)) (aJ.mk n O) f=some (frB p O f):=by
 have hI:=Cu hp hf
 have wl:w64 (len (cI p)-1)=((cI p).length:Int)-1:=by rw [aw,aT (by omega) (by omega)]
 rw [E2]
 simp only [zK,zL,dy,Ln hO ho hh hm,ef,wl,Option.bind_some]
 unfold frB
 cases bg f.fName
 ·simp
 cases svB O f.fSaved
 ·simp
 by_cases hpc:1<=f.fPC/\f.fPC<=((cI p).length:Int)-1
 rotate_left
 ·have:(decide (1<=f.fPC)&&decide (f.fPC<=((cI p).length:Int)-1))=false:=by rw [Bool.eq_false_iff];simpa using hpc
  rw [this];simp
 have hpd:(decide (1<=f.fPC)&&decide (f.fPC<=((cI p).length:Int)-1))=true:=by simp [hpc.1,hpc.2]
 have w1:w64 (f.fPC-1)=f.fPC-1:=aT (by omega) (by omega)
 obtain ⟨y,hy,_⟩:=y9 (l:=cI p) (k:=f.fPC-1) (by omega) (by omega)
 have hop:Lw (cI p) (f.fPC-1)=y.fOp:=by unfold Lw;rw [hy]
 rw [hpd,hop,w1,hy]
 simp only [Option.bind_some,D7 hp]
 cases (y.fOp==13)<;>simp
include hf hp in
theorem Lp {n:Int} {O:List am} (hO:O.length<=1048576) (hs:y8 0 O=true) {f:ae} (hm:f.fSaved.length<=1048576) (q:aj) (H:List Int):jj (aQ.mk q (b9.mk (cI p) (cE p) (cF p)) H) (aJ.mk n O) f=some (frB p O f):=by
 have hI:=Cu hp hf
 rw [rA,qp,kM]
 simp only [dx,Lm hO hs hm,Option.bind_some,D8 hp hf]
 unfold frB svB
 have e13:decide (len f.fSaved<=13)=decide (f.fSaved.length<=13):=by rw [aw];exact Cs (b:=13)
 rw [e13]
 cases bg f.fName
 ·simp
 cases decide (f.fSaved.length<=13)
 ·simp
 cases (f.fSaved.all fun b=>bg b.fName&&fG O b.fValue)
 ·simp
 by_cases hpc:1<=f.fPC/\f.fPC<=((cI p).length:Int)-1
 rotate_left
 ·have:(decide (1<=f.fPC)&&decide (f.fPC<=((cI p).length:Int)-1))=false:=by rw [Bool.eq_false_iff];simpa using hpc
  rw [this]
  by_cases h0:f.fPC>=0
  ·by_cases h1:f.fPC<len (cI p)
   ·have:f.fPC=0:=by rw [aw] at h1;omega
    simp [h0,h1,this]
   ·simp [h0,h1]
  ·simp [h0]
 have hpd:(decide (1<=f.fPC)&&decide (f.fPC<=((cI p).length:Int)-1))=true:=by simp [hpc.1,hpc.2]
 have w1:w64 (f.fPC-1)=f.fPC-1:=aT (by omega) (by omega)
 obtain ⟨y,hy,_⟩:=y9 (l:=cI p) (k:=f.fPC-1) (by omega) (by omega)
 have hop:Lw (cI p) (f.fPC-1)=y.fOp:=by unfold Lw;rw [hy]
 have g0:f.fPC>=0:=by omega
 have g1:f.fPC<len (cI p):=by rw [aw];omega
 have g2:(f.fPC==0)=false:=by rw [Bool.eq_false_iff];simp;omega
 rw [hpd,hop,w1,hy]
 simp only [Option.bind_some,g0,g1,g2,decide_true,if_true,Bool.not_true,Bool.false_eq_true,if_false]
 cases (y.fOp==13)<;>simp
noncomputable def bsF (p:aj):Int->List ae->Option Int
 | b,[]=>some b
 | b,f:: r=>if f.fBase=b then bsF p (w64 (b+w64 (N3 (cH p) f.fPC-1))) r else none
noncomputable def plB (p:aj) (m:aq) (b:Int):Bool:=(len m.fStack==w64 (b+N3 (cH p) m.fPC))&&(!(m.fStatus==2)||Lw (cI p) m.fPC==28||Lw (cI p) m.fPC==1) &&
 (if Lw (cI p) m.fPC=1 then (decide (-1<=m.fAt)&&decide (m.fAt<=(p.fStatements.length:Int)-1))&&(decide (m.fAt>=0)||decide (m.fFrames.length=0)) else m.fAt==cW p m.fPC)
noncomputable def Q5 (p:aj) (m:aq):Bool:=m.fFrames.all (frB p m.fMemory.fHeap.fObjects)&&(match bsF p 0 m.fFrames with | some b=>(m.fBase==b)&&plB p m b | none=>false)
include hf hp in
theorem O5 {m:aq} (hO:m.fMemory.fHeap.fObjects.length<=1048576) (ho:∀ o∈m.fMemory.fHeap.fObjects,o.fKeys.length<=1048576/\o.fVals.length<=1048576) (hh:Jp m.fMemory.fHeap.fNext m.fMemory.fHeap.fObjects=true) (hfr:m.fFrames.length<=1048576) (hsv:∀ f∈m.fFrames,f.fSaved.length<=1048576) (h0:0<=m.fPC) (h1:m.fPC<=((cI p).length:Int)-1):
  g8 0 0 (cI p) (cE p) (cF p) m.fStatus m.fCode m.fMemory.fHeap.fNext m.fMemory.fHeap.fObjects m.fMemory.fScope.fVars m.fMemory.fScope.fFunctions m.fMemory.fScope.fTypes m.fMemory.fConsole.fInput m.fMemory.fConsole.fAt m.fMemory.fConsole.fOutput m.fMemory.fConsole.fFiles m.fMemory.fConsole.fTrace m.fStack m.fFrames m.fPC m.fBase m.fAt m.fSteps m.fFuel (cH p)=some (Q5 p m):=by
 have hI:=Cu hp hf
 have hH:=NT p
 refine cB (xs:=m.fFrames) (by omega) (P:=fun i l=>∀ b:Int,g8 b (i:Int) (cI p) (cE p) (cF p) m.fStatus m.fCode m.fMemory.fHeap.fNext m.fMemory.fHeap.fObjects m.fMemory.fScope.fVars m.fMemory.fScope.fFunctions m.fMemory.fScope.fTypes m.fMemory.fConsole.fInput m.fMemory.fConsole.fAt m.fMemory.fConsole.fOutput m.fMemory.fConsole.fFiles m.fMemory.fConsole.fTrace m.fStack m.fFrames m.fPC m.fBase m.fAt m.fSteps m.fFuel (cH p)=some (l.all (frB p m.fMemory.fHeap.fObjects)&&(match bsF p b l with | some b'=>(m.fBase==b')&&plB p m b' | none=>false))) ?_ ?_ 0
 ·intro b
  obtain ⟨v,hv1,hv2⟩:=y9 (l:=cH p) (k:=m.fPC) h0 (by omega)
  obtain ⟨x,hx1,_⟩:=y9 (l:=cI p) (k:=m.fPC) h0 (by omega)
  have hht:N3 (cH p) m.fPC=v:=by unfold N3;rw [hv1];rfl
  have hop:Lw (cI p) m.fPC=x.fOp:=by unfold Lw;rw [hx1]
  have we:w64 (len (cE p)-1)=(p.fStatements.length:Int)-1:=by rw [aw,Q4,aT (by omega) (by omega)]
  rw [oO,if_neg (by simp [aw])]
  simp only [hv1,hv2,hx1,Option.bind_some,xP,xQ,ef,we,D7 hp,List.all_nil,Bool.true_and,bsF]
  unfold plB
  rw [hht,hop,aw m.fFrames,Al]
  by_cases c1:m.fBase=b
  ·by_cases c2:len m.fStack=w64 (b+v)
   ·have d1:(m.fBase !=b)=false:=by simp [c1]
    have d2:(len m.fStack !=w64 (b+v))=false:=by simp [c2]
    rw [d1,d2]
    generalize (decide (-1<=m.fAt)&&decide (m.fAt<=(p.fStatements.length:Int)-1))=d6
    generalize decide (m.fAt>=0)=d7
    generalize decide (m.fFrames.length=0)=d8
    generalize (m.fAt==cW p m.fPC)=d9
    by_cases c5:x.fOp=1
    ·by_cases c3:m.fStatus=2<;>cases d6<;>cases d7<;>cases d8<;>simp [c2,c3,c5,c1]
    ·by_cases c4:x.fOp=28
     ·by_cases c3:m.fStatus=2<;>cases d9<;>simp [c2,c3,c4,c1]
     ·by_cases c3:m.fStatus=2<;>cases d9<;>simp [c2,c3,c4,c5,c1]
   ·have d1:(m.fBase !=b)=false:=by simp [c1]
    have d2:(len m.fStack !=w64 (b+v))=true:=by simpa using c2
    have d3:(len m.fStack==w64 (b+v))=false:=by simpa using c2
    rw [d1,d2,d3];simp
  ·have d1:(m.fBase !=b)=true:=by simpa using c1
   have d3:(m.fBase==b)=false:=by simpa using c1
   rw [d1,d3];simp
 ·intro i y l _ hlt hy hi hw ih b
  rw [oO,if_pos (by simp [aw,hlt]),hi]
  simp only [Option.bind_some,Lo hp hf hO ho hh (hsv y hy),hw,List.all_cons,bsF]
  by_cases c1:y.fBase=b
  ·have d1:(y.fBase !=b)=false:=by simp [c1]
   rw [d1,if_neg (by simp),if_pos c1]
   by_cases c2:frB p m.fMemory.fHeap.fObjects y=true
   ·have hpc:1<=y.fPC/\y.fPC<=((cI p).length:Int)-1:=by unfold frB at c2;simp only [Bool.and_eq_true,decide_eq_true_eq] at c2;exact c2.1.1.2
    obtain ⟨v,hv1,hv2⟩:=y9 (l:=cH p) (k:=y.fPC) (by omega) (by omega)
    have hht:N3 (cH p) y.fPC=v:=by unfold N3;rw [hv1];rfl
    rw [hht,hv1,hv2]
    simp only [Option.bind_some,ih,c2,Bool.not_true,Bool.false_eq_true,if_false,Bool.true_and]
   ·have c2':frB p m.fMemory.fHeap.fObjects y=false:=by simpa using c2
    rw [c2'];simp
  ·have d1:(y.fBase !=b)=true:=by simpa using c1
   rw [d1,if_pos rfl,if_neg c1];simp
include hf hp in
theorem Lq {m:aq} (hfr:m.fFrames.length<=1048576) (hall:m.fFrames.all (frB p m.fMemory.fHeap.fObjects)=true):
  fc (aQ.mk p (b9.mk (cI p) (cE p) (cF p)) (cH p)) m=some (match bsF p 0 m.fFrames with | some b=>m.fBase==b | none=>false):=by
 have hI:=Cu hp hf
 have hH:=NT p
 rw [mO]
 have key:=cB (xs:=m.fFrames) (by omega) (P:=fun i l=>l.all (frB p m.fMemory.fHeap.fObjects)=true->∀ b:Int,cZ b m.fFrames (len m.fFrames) (i:Int) p.fStatements (cI p) (cE p) (cF p) (cH p) m.fStatus m.fCode m.fMemory.fHeap.fNext m.fMemory.fHeap.fObjects m.fMemory.fScope.fVars m.fMemory.fScope.fFunctions m.fMemory.fScope.fTypes m.fMemory.fConsole.fInput m.fMemory.fConsole.fAt m.fMemory.fConsole.fOutput m.fMemory.fConsole.fFiles m.fMemory.fConsole.fTrace m.fStack m.fFrames m.fPC m.fBase m.fAt m.fSteps m.fFuel=some (match bsF p b l with | some b'=>m.fBase==b' | none=>false)) (by
  intro _ b
  rw [fx,if_neg (by simp [aw])];rfl) (by
  intro i y l _ hlt hy hi hw ih hal b
  simp only [List.all_cons,Bool.and_eq_true] at hal
  have hpc:1<=y.fPC/\y.fPC<=((cI p).length:Int)-1:=by
   have:=hal.1;unfold frB at this;simp only [Bool.and_eq_true,decide_eq_true_eq] at this;exact this.1.1.2
  obtain ⟨v,hv1,hv2⟩:=y9 (l:=cH p) (k:=y.fPC) (by omega) (by omega)
  have hht:N3 (cH p) y.fPC=v:=by unfold N3;rw [hv1];rfl
  rw [fx,if_pos (by simp [aw,hlt]),hi]
  simp only [Option.bind_some,hw,bsF,hht,hv1,ih hal.2]
  by_cases c1:y.fBase=b
  ·simp [c1]
  ·simp [c1])
 exact key hall 0
include hf hp in
theorem Lr {m:aq} (h0:0<=m.fPC) (h1:m.fPC<=((cI p).length:Int)-1):
  dG (aQ.mk p (b9.mk (cI p) (cE p) (cF p)) (cH p)) m=some (plB p m m.fBase):=by
 have hI:=Cu hp hf
 have hH:=NT p
 obtain ⟨v,hv1,hv2⟩:=y9 (l:=cH p) (k:=m.fPC) h0 (by omega)
 obtain ⟨x,hx1,_⟩:=y9 (l:=cI p) (k:=m.fPC) h0 (by omega)
 have hht:N3 (cH p) m.fPC=v:=by unfold N3;rw [hv1];rfl
 have hop:Lw (cI p) m.fPC=x.fOp:=by unfold Lw;rw [hx1]
 have we:w64 (len p.fStatements-1)=(p.fStatements.length:Int)-1:=by rw [aw,aT (by omega) (by omega)]
 have g0:m.fPC>=0:=h0
 have g1:m.fPC<len (cI p):=by rw [aw];omega
 rw [gL,kM]
 simp only [g0,g1,decide_true,if_true,Option.bind_some,Bool.not_true,Bool.false_eq_true,if_false,hv1,hx1,lc,ld,dw,we,D8 hp hf]
 unfold plB
 rw [hht,hop,aw m.fFrames,Al]
 by_cases c2:len m.fStack=w64 (m.fBase+v)
 ·have d2:(len m.fStack !=w64 (m.fBase+v))=false:=by simp [c2]
  rw [d2]
  generalize (decide (-1<=m.fAt)&&decide (m.fAt<=(p.fStatements.length:Int)-1))=d6
  generalize decide (m.fAt>=0)=d7
  generalize decide (m.fFrames.length=0)=d8
  generalize (m.fAt==cW p m.fPC)=d9
  by_cases c5:x.fOp=1
  ·by_cases c3:m.fStatus=2<;>cases d6<;>cases d7<;>cases d8<;>simp [c2,c3,c5]
  ·by_cases c4:x.fOp=28
   ·by_cases c3:m.fStatus=2<;>cases d9<;>simp [c2,c3,c4]
   ·by_cases c3:m.fStatus=2<;>cases d9<;>simp [c2,c3,c4,c5]
 ·have d2:(len m.fStack !=w64 (m.fBase+v))=true:=by simpa using c2
  have d3:(len m.fStack==w64 (m.fBase+v))=false:=by simpa using c2
  rw [d2,d3];simp
theorem Jr {q:aQ} {m:aq} (h:¬ (0<=m.fPC/\m.fPC<=(q.fCode.fInstrs.length:Int)-1)):dG q m=some false:=by
 rw [gL,kM]
 by_cases g0:m.fPC>=0
 ·have g1:¬ m.fPC<len q.fCode.fInstrs:=by rw [aw];omega
  simp [g0,g1]
 ·simp [g0]
noncomputable def maB (p:aj) (m:aq):Bool:=(decide (1<=m.fStatus)&&decide (m.fStatus<=3))&&(decide (0<=m.fFuel)&&decide (m.fFuel<=4000))&&(decide (0<=m.fSteps)&&decide (m.fSteps<=m.fFuel))&&(decide (0<=m.fPC)&&decide (m.fPC<=((cI p).length:Int)-1)) &&
 (if m.fStatus=3 then decide (1<=m.fCode)&&decide (m.fCode<=11) else m.fCode==0)&&z8 m.fMemory&&m.fStack.all (fG m.fMemory.fHeap.fObjects)&&decide (m.fFrames.length<=12)&&Q5 p m
theorem HU {m:aq} (hm:m.m<=1048576):m.fMemory.m<=1048576/\m.fMemory.fHeap.fObjects.length<=1048576/\(∀ o∈m.fMemory.fHeap.fObjects,o.fKeys.length<=1048576/\o.fVals.length<=1048576)/\m.fStack.length<=1048576/\m.fFrames.length<=1048576/\∀ f∈m.fFrames,f.fSaved.length<=1048576:=by
 have h1:=m.m_eq
 have h2:=m.fMemory.m_eq
 have h3:=m.fMemory.fHeap.m_eq
 refine ⟨by omega,by omega,Jq (by omega),by omega,by omega,fun f hf=>?_⟩
 have h4:=bh (m:=ae.m) hf
 have h5:=f.m_eq
 omega
include hf hp in
theorem Ls {m:aq} (hm:m.m<=1048576):r4 (b9.mk (cI p) (cE p) (cF p)) m=some (maB p m):=by
 obtain ⟨b1,b2,b3,b4,b5,b6⟩:=HU hm
 have hI:=Cu hp hf
 have wl:w64 (len (cI p)-1)=((cI p).length:Int)-1:=by rw [aw,aT (by omega) (by omega)]
 have eta:ay.mk (aJ.mk m.fMemory.fHeap.fNext m.fMemory.fHeap.fObjects) (aB.mk m.fMemory.fScope.fVars m.fMemory.fScope.fFunctions m.fMemory.fScope.fTypes) (au.mk m.fMemory.fConsole.fInput m.fMemory.fConsole.fAt m.fMemory.fConsole.fOutput m.fMemory.fConsole.fFiles m.fMemory.fConsole.fTrace)=m.fMemory:=rfl
 rw [EQ]
 simp only [zh,zi,zr,zt,zA,zB,ef,wl,Option.bind_some,eta,Aa b1,HS hp hf]
 unfold maB
 cases (decide (1<=m.fStatus)&&decide (m.fStatus<=3))
 ·simp
 cases (decide (0<=m.fFuel)&&decide (m.fFuel<=4000))
 ·simp
 cases (decide (0<=m.fSteps)&&decide (m.fSteps<=m.fFuel))
 ·simp
 by_cases hpc:0<=m.fPC/\m.fPC<=((cI p).length:Int)-1
 rotate_left
 ·have:(decide (0<=m.fPC)&&decide (m.fPC<=((cI p).length:Int)-1))=false:=by rw [Bool.eq_false_iff];simpa using hpc
  rw [this];simp
 have hpd:(decide (0<=m.fPC)&&decide (m.fPC<=((cI p).length:Int)-1))=true:=by simp [hpc.1,hpc.2]
 rw [hpd]
 by_cases hmem:z8 m.fMemory=true
 rotate_left
 ·have hmem':z8 m.fMemory=false:=by simpa using hmem
  rw [hmem']
  by_cases c3:m.fStatus=3<;>by_cases c1:m.fCode=0<;>cases (decide (1<=m.fCode)&&decide (m.fCode<=11))<;>simp [c3,c1]
 have hh:Jp m.fMemory.fHeap.fNext m.fMemory.fHeap.fObjects=true:=by unfold z8 at hmem;simp only [Bool.and_eq_true] at hmem;exact hmem.1.1.1
 rw [hmem,Ct b2 b3 hh b4,O5 hp hf b2 b3 hh b5 b6 hpc.1 hpc.2]
 have e12:decide (len m.fFrames>12)=!decide (m.fFrames.length<=12):=by rw [aw];exact y7 (b:=12)
 rw [e12]
 simp only [Option.bind_some]
 by_cases c3:m.fStatus=3
 ·by_cases c4:(decide (1<=m.fCode)&&decide (m.fCode<=11))=true
  ·cases (m.fStack.all (fG m.fMemory.fHeap.fObjects))<;>cases decide (m.fFrames.length<=12)<;>simp_all
  ·have c4':(decide (1<=m.fCode)&&decide (m.fCode<=11))=false:=by simpa using c4
   simp [c3,c4']
 ·have d3:(m.fStatus==3)=false:=by simpa using c3
  have d3':(m.fStatus !=3)=true:=by simpa using c3
  by_cases c1:m.fCode=0
  ·have c4:(decide (1<=m.fCode)&&decide (m.fCode<=11))=false:=by rw [c1];rfl
   rw [d3,d3',c4]
   cases (m.fStack.all (fG m.fMemory.fHeap.fObjects))<;>cases decide (m.fFrames.length<=12)<;>simp [c1,c3]
  ·rw [d3,d3']
   cases (decide (1<=m.fCode)&&decide (m.fCode<=11))<;>simp [c1,c3]
include hf hp in
theorem HV {m:aq} (hm:m.m<=1048576):gM (aQ.mk p (b9.mk (cI p) (cE p) (cF p)) (cH p)) m=some (maB p m):=by
 obtain ⟨b1,b2,b3,b4,b5,b6⟩:=HU hm
 have hI:=Cu hp hf
 have eta:ay.mk (aJ.mk m.fMemory.fHeap.fNext m.fMemory.fHeap.fObjects) (aB.mk m.fMemory.fScope.fVars m.fMemory.fScope.fFunctions m.fMemory.fScope.fTypes) (au.mk m.fMemory.fConsole.fInput m.fMemory.fConsole.fAt m.fMemory.fConsole.fOutput m.fMemory.fConsole.fFiles m.fMemory.fConsole.fTrace)=m.fMemory:=rfl
 have etaM:aq.mk m.fStatus m.fCode m.fMemory m.fStack m.fFrames m.fPC m.fBase m.fAt m.fSteps m.fFuel=m:=rfl
 have e12:decide (len m.fFrames>12)=!decide (m.fFrames.length<=12):=by rw [aw];exact y7 (b:=12)
 -- from the memory on
 have hL6:dE p.fStatements (cI p) (cE p) (cF p) (cH p) m.fStatus m.fCode m.fMemory.fHeap.fNext m.fMemory.fHeap.fObjects m.fMemory.fScope.fVars m.fMemory.fScope.fFunctions m.fMemory.fScope.fTypes m.fMemory.fConsole.fInput m.fMemory.fConsole.fAt m.fMemory.fConsole.fOutput m.fMemory.fConsole.fFiles m.fMemory.fConsole.fTrace m.fStack m.fFrames m.fPC m.fBase m.fAt m.fSteps m.fFuel=some (z8 m.fMemory&&m.fStack.all (fG m.fMemory.fHeap.fObjects)&&decide (m.fFrames.length<=12)&&Q5 p m&&(decide (0<=m.fPC)&&decide (m.fPC<=((cI p).length:Int)-1))):=by
  rw [mK]
  simp only [mL,mM,eta,etaM,Ab b1,Option.bind_some,e12]
  by_cases hmem:z8 m.fMemory=true
  rotate_left
  ·simp [hmem]
  have hh:Jp m.fMemory.fHeap.fNext m.fMemory.fHeap.fObjects=true:=by unfold z8 at hmem;simp only [Bool.and_eq_true] at hmem;exact hmem.1.1.1
  have hs:=Kk hh
  have ea:bJ m.fFrames p.fStatements (cI p) (cE p) (cF p) (cH p) m.fStatus m.fCode m.fMemory.fHeap.fNext m.fMemory.fHeap.fObjects m.fMemory.fScope.fVars m.fMemory.fScope.fFunctions m.fMemory.fScope.fTypes m.fMemory.fConsole.fInput m.fMemory.fConsole.fAt m.fMemory.fConsole.fOutput m.fMemory.fConsole.fFiles m.fMemory.fConsole.fTrace m.fStack m.fFrames m.fPC m.fBase m.fAt m.fSteps m.fFuel=some (m.fFrames.all (frB p m.fMemory.fHeap.fObjects)):=by
   rw [dU]
   refine cP (xs:=m.fFrames) (by omega) (F:=fun f=>dH f p.fStatements (cI p) (cE p) (cF p) (cH p) m.fStatus m.fCode m.fMemory.fHeap.fNext m.fMemory.fHeap.fObjects m.fMemory.fScope.fVars m.fMemory.fScope.fFunctions m.fMemory.fScope.fTypes m.fMemory.fConsole.fInput m.fMemory.fConsole.fAt m.fMemory.fConsole.fOutput m.fMemory.fConsole.fFiles m.fMemory.fConsole.fTrace m.fStack m.fFrames m.fPC m.fBase m.fAt m.fSteps m.fFuel) (p:=frB p m.fMemory.fHeap.fObjects) (J:=fun i=>aS p.fStatements (cI p) (cE p) (cF p) (cH p) m.fStatus m.fCode m.fMemory.fHeap.fNext m.fMemory.fHeap.fObjects m.fMemory.fScope.fVars m.fMemory.fScope.fFunctions m.fMemory.fScope.fTypes m.fMemory.fConsole.fInput m.fMemory.fConsole.fAt m.fMemory.fConsole.fOutput m.fMemory.fConsole.fFiles m.fMemory.fConsole.fTrace m.fStack m.fFrames m.fPC m.fBase m.fAt m.fSteps m.fFuel m.fFrames (len m.fFrames) i) (fun i=>by show aS _ _ _ _ _ _ _ _ _ _ _ _ _ _ _ _ _ _ _ _ _ _ _ _ _ _ _=_;rw [dC]) (fun y hy=>?_)
   show dH _ _ _ _ _ _ _ _ _ _ _ _ _ _ _ _ _ _ _ _ _ _ _ _ _=_
   rw [mR,Lp hp hf b2 hs (b6 y hy)];rfl
  have etaP:aj.mk p.fStatements=p:=rfl
  rw [hmem,pW b2 hs _ (by omega),ea]
  simp only [Option.bind_some,etaP]
  unfold Q5
  by_cases hall:m.fFrames.all (frB p m.fMemory.fHeap.fObjects)=true
  rotate_left
  ·have:m.fFrames.all (frB p m.fMemory.fHeap.fObjects)=false:=by simpa using hall
   rw [this]
   cases (m.fStack.all (fG m.fMemory.fHeap.fObjects))<;>cases decide (m.fFrames.length<=12)<;>simp
  rw [hall,Lq hp hf b5 hall]
  simp only [Option.bind_some]
  cases hb:bsF p 0 m.fFrames with
  | none=>cases (m.fStack.all (fG m.fMemory.fHeap.fObjects))<;>cases decide (m.fFrames.length<=12)<;>simp
  | some b=>
   simp only
   by_cases hbb:m.fBase=b
   rotate_left
   ·have d:(m.fBase==b)=false:=by simpa using hbb
    simp only [d]
    cases (m.fStack.all (fG m.fMemory.fHeap.fObjects))<;>cases decide (m.fFrames.length<=12)<;>simp
   subst hbb
   simp only [beq_self_eq_true]
   by_cases hpc:0<=m.fPC/\m.fPC<=((cI p).length:Int)-1
   ·have hpd:(decide (0<=m.fPC)&&decide (m.fPC<=((cI p).length:Int)-1))=true:=by simp [hpc.1,hpc.2]
    rw [Lr hp hf hpc.1 hpc.2,hpd]
    cases (m.fStack.all (fG m.fMemory.fHeap.fObjects))<;>cases decide (m.fFrames.length<=12)<;>simp
   ·have hpd:(decide (0<=m.fPC)&&decide (m.fPC<=((cI p).length:Int)-1))=false:=by rw [Bool.eq_false_iff];simpa using hpc
    rw [Jr (q:=aQ.mk p (b9.mk (cI p) (cE p) (cF p)) (cH p)) hpc,hpd]
    cases (m.fStack.all (fG m.fMemory.fHeap.fObjects))<;>cases decide (m.fFrames.length<=12)<;>simp
 rw [pC]
 simp only [mJ,dw,Option.bind_some,hL6]
 unfold maB
 generalize (decide (1<=m.fStatus)&&decide (m.fStatus<=3))=a1
 generalize (decide (0<=m.fFuel)&&decide (m.fFuel<=4000))=a2
 generalize (decide (0<=m.fSteps)&&decide (m.fSteps<=m.fFuel))=a3
 generalize (decide (0<=m.fPC)&&decide (m.fPC<=((cI p).length:Int)-1))=a4
 generalize (decide (1<=m.fCode)&&decide (m.fCode<=11))=a5
 generalize z8 m.fMemory=a6
 generalize m.fStack.all (fG m.fMemory.fHeap.fObjects)=a7
 generalize decide (m.fFrames.length<=12)=a8
 generalize Q5 p m=a9
 by_cases c3:m.fStatus=3
 ·have d3:(m.fStatus==3)=true:=by simpa using c3
  rw [d3,if_pos rfl,if_pos c3]
  cases a1<;>cases a2<;>cases a3<;>cases a4<;>cases a5<;>cases a6<;>cases a7<;>cases a8<;>cases a9<;>rfl
 ·have d3:(m.fStatus==3)=false:=by simpa using c3
  rw [d3,if_neg (by simp),if_neg c3]
  generalize (m.fCode==0)=a5'
  cases a1<;>cases a2<;>cases a3<;>cases a4<;>cases a5'<;>cases a6<;>cases a7<;>cases a8<;>cases a9<;>rfl
end
theorem yC {p:aj} {m:aq} (hp:p.m<=1048576) (hm:m.m<=1048576):nM p m=some (tK p&&maB p m):=by
 rw [xh]
 try simp only [aj.re_eq]
 rw [yx hp]
 simp only [Option.bind_some]
 by_cases h:tK p=true
 ·obtain ⟨h1,h2⟩:=y4 h
  rw [h,if_pos rfl,Nv h1 h2]
  simp only [Option.bind_some]
  rw [show r4 (b9.mk (mG p 0 p.fStatements) (jD p 0 0 p.fStatements) (jy p 0 0 p.fStatements)) m=_ from Ls h1 h2 hm]
  rfl
 ·simp [h]
theorem yD {p:aj} {m:aq} (hp:p.m<=1048576) (hm:m.m<=1048576):nN p m=some (tK p&&maB p m):=by
 rw [xi]
 try simp only [aj.re_eq]
 rw [yy hp]
 simp only [Option.bind_some]
 by_cases h:tK p=true
 ·obtain ⟨h1,h2⟩:=y4 h
  rw [h,if_pos rfl,HT h1 h2]
  simp only [Option.bind_some]
  rw [HV h1 h2 hm]
  rfl
 ·simp [h]
theorem oZ {p:aj} {m:aq} (h0:p.Ok) (h1:m.Ok):fV p m=some true:=by
 rw [oN]
 simp only [Hf p h0 1048576 (by decide) (by decide),Option.bind_some]
 by_cases c0:aU 1048576 p.m<0
 ·simp [c0]
 have hp:p.m<=1048576:=by have:=J4 c0;omega
 simp only [c0,decide_false,Bool.false_eq_true,if_false]
 rw [Ho m h1 _ (aO c0) (bz (by decide) (by decide))]
 simp only [Option.bind_some]
 by_cases c1:aU (aU 1048576 p.m) m.m<0
 ·simp [c1]
 have hm:m.m<=1048576:=by rw [aP c0] at c1;have:=J4 c1;omega
 simp only [c1,decide_false,Bool.false_eq_true,if_false,Hg p hp,Hp m hm,Option.bind_some,yC hp hm,yD hp hm,Hh p hp,Hq m hm,Bool.not_true]
 simp
end Go.Dv.U
