/- An evaluator over the program text and its soundness: what a function returns, as plain equations. It holds for every program that the configuration describes. -/
import Derived.Test.YtikhhcienngnbaaGreatDoorDva
set_option linter.all false
set_option linter.unusedVariables false
set_option linter.unusedSimpArgs false
namespace Go.Dv
open Go
section
variable {G:Sig} {C:Cfg G}
theorem Ax (L:List (Obj G.S)) (os:List Nat):∀ (n:Nat) (v:V G.S),ig (freeze L os) n v=ig L n v
 | 0,v=>rfl
 | n + 1,v=>by
  have ih:ig (freeze L os) n=ig L n:=funext (Ax L os n)
  cases v with
  | arr o=>
   simp only [ig,oq]
   cases L[o]? with
   | none=>rfl
   | some ob=>
    cases ob with
    | tr e t xs hs=>
     cases hs with
     | nil=>cases os.contains o<;>rfl
     | cons=>rfl
    | _=>rfl
  | ref o off=>
   simp only [ig,oq,ih]
   cases L[o]? with
   | none=>rfl
   | some ob=>
    cases ob with
    | tr e t xs hs=>
     cases hs with
     | nil=>cases os.contains o<;>rfl
     | cons=>rfl
    | _=>rfl
  | ag cs=>simp only [ig,ih]
  | tup cs=>simp only [ig,ih]
  | fn f cs=>simp only [ig,ih]
  | _=>rfl
theorem Mm (hS:bG G) {t:Ty} (np:t.np=true) {x:t.den G.S} {y:V G.S} (hy:y∈Ty.cells G t x) {w:World} {ok:Okc} {M M2:Mem} {u:Value} (h:VR w ok M y u):VR w ok M2 y u:=by
 cases t with
 | st n=>
  have:=hS.imm n x
  rw [List.all_eq_true] at this
  exact h.anyS hS M2 (this y hy)
 | sl t=>
  simp only [Ty.cells,List.mem_singleton] at hy
  subst hy
  exact h.anyM hS M2 1 np
 | ptr t=>cases np
 | int k=>simp only [Ty.cells,List.mem_singleton] at hy;subst hy;exact h.anyM hS M2 1 rfl
 | bool=>simp only [Ty.cells,List.mem_singleton] at hy;subst hy;exact h.anyM hS M2 1 rfl
 | str=>simp only [Ty.cells,List.mem_singleton] at hy;subst hy;exact h.anyM hS M2 1 rfl
structure Mle (M1 M2:Mem):Prop where
 hd:∀ o x,M1 o=some x->M2 o=some x
 ft:∀ o x,M1 o=some x->∀ b,(M2.ft o b↔M1.ft o b)
theorem Mle.refl (M:Mem):Mle M M:=⟨fun _ _ h=>h,fun _ _ _ _=>Iff.rfl⟩
theorem Mle.trans {M1 M2 M3:Mem} (h:Mle M1 M2) (k:Mle M2 M3):Mle M1 M3:=⟨fun o x e=>k.hd o x (h.hd o x e),fun o x e b=>(k.ft o x (h.hd o x e) b).trans (h.ft o x e b)⟩
theorem Mle.ex {M1 M2:Mem} (h:Mle M1 M2) (w:World) (ok:Okc):Ex M1 ok w M2 ok w:=⟨h.hd,fun _ _ _ h1 h2=>⟨h1,h2⟩⟩
theorem Pz.any {w:World} {M M':Mem} {F F':Nat->Prop} {e:TypeId} {t:Ty} {xs:List (t.den G.S)} {a:Option Addr} {c:Nat} (h:Pz w M F e t xs [] a c) (hF:∀ b,F b->F' b):Pz w M' F' e t xs [] a c:=by
 obtain ⟨us,FF,h1,h2,h3,h4,h5,h6⟩:=h
 refine ⟨us,FF,h1,h2,fun i x j y u k1 k2 k3=>?_,h4,fun i j b k=>hF b (h5 i j b k),h6⟩
 rcases h3 i x j y u k1 k2 k3 with ⟨q1,q2⟩ | ⟨⟨o',q⟩,_⟩
 ·exact .inl ⟨fun o' h=>(by cases h),q2⟩
 ·cases q
def NX (ob:Obj G.S):Prop:=(∃ e t xs,ob = .arr e t xs false/\t.np=true)\/∃ e t xs,ob = .tr e t xs []
theorem NX.live {ob:Obj G.S} (h:NX ob):ob.live:=by rcases h with ⟨e,t,xs,rfl,_⟩ | ⟨e,t,xs,rfl⟩<;>trivial
theorem NX.rd {ob:Obj G.S} (h:NX ob):∀ off,¬ ob.rd off:=by
 rcases h with ⟨e,t,xs,rfl,_⟩ | ⟨e,t,xs,rfl⟩
 ·intro off hr;cases hr
 ·intro off hr;exact hr
theorem Ol {y:V G.S} (h:y.scal=true):y.clo 20=true:=by cases y<;>first | exact h | rfl | cases h
theorem NX.or (hS:bG G) {ob:Obj G.S} (h:NX ob) {w:World} {ok:Okc} {M M':Mem} {o o':Nat} (hM:M' o'=M o) (hf:∀ b,M.ft o b->M'.ft o' b) (hor:OR w ok M o ob):OR w ok M' o' ob:=by
 rcases h with ⟨e,t,xs,rfl,hfl⟩ | ⟨e,t,xs,rfl⟩
 ·obtain ⟨a,c,us,h1,h2,h3,h4⟩:=hor
  exact ⟨a,c,us,hM.trans h1,h2,h3,fun i x j y u p1 p2 p3=>(h4 i x j y u p1 p2 p3).anyM hS _ 20 (Ol (List.all_eq_true.1 (Kx hS hfl x) y (List.mem_of_getElem? p2)))⟩
 ·obtain ⟨a,c,h1,h2⟩:=hor
  exact ⟨a,c,hM.trans h1,h2.any hf⟩
inductive Sim (w:World) (ok:Okc) (M M':Mem):Obj G.S->Obj G.S->Prop
 | arr (e:TypeId) (t:Ty) (xs:List (t.den G.S)) (fz:Bool) (np:t.np=true):Sim w ok M M' (.arr e t xs fz) (.arr e t xs fz)
 | tr (e:TypeId) (t:Ty) (xs:List (t.den G.S)):Sim w ok M M' (.tr e t xs []) (.tr e t xs [])
 | box (te:TypeId) (cs ds:List (V G.S)) (fz:Bool) (h:∀ l,VRs w ok M cs l->VRs w ok M' ds l):Sim w ok M M' (.box te cs fz) (.box te ds fz)
theorem Sim.mono {w:World} {ok:Okc} {M M' M2:Mem} {a b:Obj G.S} (h:Sim w ok M M' a b) (hx:Mle M' M2):Sim w ok M M2 a b:=by
 cases h with
 | arr e t xs fz np=>exact .arr e t xs fz np
 | tr e t xs=>exact .tr e t xs
 | box te cs ds fz h=>exact .box te cs ds fz fun l hl=>(h l hl).mono (hx.ex w ok)
structure RI (w:World) (ok:Okc) (old:List (Obj G.S)) (M:Mem) (r:Rn G.S) (M':Mem):Prop where
 dom:∀ o x,M' o=some x->o<r.L.length
 fnd:∀ o o',Rn.find r.map o=some o'->o'<r.L.length/\∃ x,M o=some x/\M' o'=some x/\∀ b,(M'.ft o' b↔M.ft o b)
 obj:∀ o' ob',r.L[o']?=some ob'->ob' = .dead\/(∃ o ob,Rn.find r.map o=some o'/\old[o]?=some ob/\Sim w ok M M' ob ob') \/
  (∃ e t,ob'=(if G.tre e=true then .tr e t [] [] else .arr e t [] false)/\M' o'=some (.arr none 0 0 e (Ty.sz G t))/\0<Ty.sz G t/\∀ b,¬ M'.ft o' b)
section
variable {w0 w:World} {Fp:Fx} {okA ok:Okc} {M:Mem} {old:List (Obj G.S)}
def JG (w:World) (ok:Okc) (old:List (Obj G.S)) (M:Mem) (r r':Rn G.S) (M1 M2:Mem):Prop:=
 RI w ok old M r' M2/\Mle M1 M2/\r.L.length<=r'.L.length/\∀ o o',Rn.find r.map o=some o'->Rn.find r'.map o=some o'
theorem JG.refl {r:Rn G.S} {M1:Mem} (h:RI w ok old M r M1):JG w ok old M r r M1 M1:=⟨h,.refl _,Nat.le_refl _,fun _ _ h=>h⟩
theorem JG.trans {r r1 r2:Rn G.S} {M1 M2 M3:Mem} (h:JG w ok old M r r1 M1 M2) (k:JG w ok old M r1 r2 M2 M3):JG w ok old M r r2 M1 M3:=
 ⟨k.1,h.2.1.trans k.2.1,Nat.le_trans h.2.2.1 k.2.2.1,fun o o' e=>k.2.2.2 o o' (h.2.2.2 o o' e)⟩
theorem Mle.new {M:Mem} {n:Nat} (h:∀ o x,M o=some x->o<n) (x:MB) (F:Nat->Prop):Mle M (Jv M n x F):=⟨fun i y hi=>by rw [H2 _ _ _ (by have:=h i y hi;omega)];exact hi,fun i y hi b=>PA _ _ _ (by have:=h i y hi;omega) b⟩
theorem RI.add {r:Rn G.S} {M1:Mem} (h:RI w ok old M r M1) {o:Nat} {x:MB} (hx:M o=some x) (hf:Rn.find r.map o=none) (ob':Obj G.S)
  (hob:ob' = .dead\/(∃ ob,old[o]?=some ob/\Sim w ok M (Jv M1 r.L.length x (M.ft o)) ob ob')):
  JG w ok old M r ⟨(o,r.L.length):: r.map,r.L++[ob']⟩ M1 (Jv M1 r.L.length x (M.ft o)):=by
 have hle:Mle M1 (Jv M1 r.L.length x (M.ft o)):=.new h.dom x _
 have find:∀ i i',Rn.find r.map i=some i'->Rn.find ((o,r.L.length):: r.map) i=some i':=by
  intro i i' hi
  simp only [Rn.find]
  rw [if_neg (by intro e;subst e;rw [hf] at hi;cases hi)]
  exact hi
 refine ⟨⟨fun i y hi=>?_,fun i i' hi=>?_,fun i ob hi=>?_⟩,hle,by simp,find⟩
 ·simp only [List.length_append,List.length_singleton]
  by_cases e:i=r.L.length
  ·omega
  ·rw [H2 _ _ _ e] at hi
   have:=h.dom i y hi;omega
 ·simp only [Rn.find] at hi
  split at hi
  ·rename_i e
   subst e
   cases hi
   exact ⟨by simp,x,hx,oo _ _ _ _,fun b=>by simp [Jv]⟩
  ·obtain ⟨h1,y,h2,h3,h4⟩:=h.fnd i i' hi
   exact ⟨by simp;omega,y,h2,hle.hd _ _ h3,fun b=>(hle.ft _ _ h3 b).trans (h4 b)⟩
 ·simp only at hi
  rw [List.getElem?_append] at hi
  split at hi
  ·rcases h.obj i ob hi with rfl | ⟨o1,ob1,h1,h2,h3⟩ | ⟨e,t,h1,h2,h3,h4⟩
   ·exact .inl rfl
   ·exact .inr (.inl ⟨o1,ob1,find _ _ h1,h2,h3.mono hle⟩)
   ·exact .inr (.inr ⟨e,t,h1,hle.hd _ _ h2,h3,fun b hb=>h4 b ((hle.ft _ _ h2 b).1 hb)⟩)
  ·rename_i hge
   have hi':i-r.L.length=0:=by have:=(List.getElem?_eq_some_iff.1 hi).1;simp at this;omega
   have hi2:i=r.L.length:=by omega
   rw [hi'] at hi
   simp at hi
   subst hi;subst hi2
   rcases hob with rfl | ⟨ob1,h1,h2⟩
   ·exact .inl rfl
   ·exact .inr (.inl ⟨o,ob1,by simp [Rn.find],h1,h2⟩)
theorem wS {n:Nat} (ih:∀ (v:V G.S) (r:Rn G.S) (v':V G.S) (r':Rn G.S) (M1:Mem),rnV old n v r=some (v',r')->RI w ok old M r M1 ->
   ∃ M2,JG w ok old M r r' M1 M2/\∀ val,VR w ok M v val->VR w ok M2 v' val):∀ (cs:List (V G.S)) (r:Rn G.S) (ds:List (V G.S)) (r':Rn G.S) (M1:Mem),Lz (rnV old n) cs r=some (ds,r')->RI w ok old M r M1 ->
   ∃ M2,JG w ok old M r r' M1 M2/\∀ l,VRs w ok M cs l->VRs w ok M2 ds l
 | [],r,ds,r',M1,h,hri=>by
  simp only [Lz,Option.some.injEq,Prod.mk.injEq] at h
  obtain ⟨rfl,rfl⟩:=h
  exact ⟨M1,.refl hri,fun l hl=>by have:l=[]:=List.eq_nil_of_length_eq_zero hl.1.symm;subst this;exact .nil⟩
 | c:: cs,r,ds,r',M1,h,hri=>by
  simp only [Lz] at h
  split at h
  ·rename_i c' r1 h1
   split at h
   ·rename_i ds' r2 h2
    simp only [Option.some.injEq,Prod.mk.injEq] at h
    obtain ⟨rfl,rfl⟩:=h
    obtain ⟨M2,g1,g2⟩:=ih c r c' r1 M1 h1 hri
    obtain ⟨M3,g3,g4⟩:=wS ih cs r1 ds' r2 M2 h2 g1.1
    refine ⟨M3,g1.trans g3,fun l hl=>?_⟩
    obtain ⟨v,l',rfl,k1,k2⟩:=hl.inv
    exact .cons ((g2 v k1).mono (g3.2.1.ex w ok)) (g4 l' k2)
   ·cases h
  ·cases h
theorem JH (hS:bG G) (hm:MI C w0 Fp okA M ok old w):∀ (n:Nat) (v:V G.S) (r:Rn G.S) (v':V G.S) (r':Rn G.S) (M1:Mem),rnV old n v r=some (v',r')->RI w ok old M r M1 ->
   ∃ M2,JG w ok old M r r' M1 M2/\∀ val,VR w ok M v val->VR w ok M2 v' val
 | 0,v,r,v',r',M1,h,hri=>by simp [rnV] at h
 | n + 1,v,r,v',r',M1,h,hri=>by
  have ih:=JH hS hm n
  have dflt:(if v.clo 20=true then some (v,r) else none)=some (v',r')->∃ M2,JG w ok old M r r' M1 M2/\∀ val,VR w ok M v val->VR w ok M2 v' val:=by
   intro h
   split at h
   ·rename_i hc
    simp only [Option.some.injEq,Prod.mk.injEq] at h
    obtain ⟨rfl,rfl⟩:=h
    exact ⟨M1,.refl hri,fun val hv=>hv.anyM hS _ 20 hc⟩
   ·cases h
  cases v with
  | arr o=>
   simp only [rnV] at h
   split at h
   ·rename_i o' hf
    simp only [Option.some.injEq,Prod.mk.injEq] at h
    obtain ⟨rfl,rfl⟩:=h
    obtain ⟨h1,x,h2,h3,_⟩:=hri.fnd o o' hf
    refine ⟨M1,.refl hri,fun val hv=>?_⟩
    cases hv with
    | arr _ a n c e sz hM=>rw [h2] at hM;cases hM;exact .arr _ a n c e sz h3
   ·rename_i hf
    split at h
    ·rename_i e t xs fz ho
     split at h
     ·rename_i np
      simp only [Option.some.injEq,Prod.mk.injEq] at h
      obtain ⟨rfl,rfl⟩:=h
      obtain ⟨a,c,us,hM,_⟩:=hm.objs o _ ho
      refine ⟨_,hri.add hM hf _ (.inr ⟨_,ho,.arr e t xs fz np⟩),fun val hv=>?_⟩
      cases hv with
      | arr _ a' n' c' e' sz' hM'=>rw [hM] at hM';cases hM';exact .arr _ _ _ _ _ _ (oo _ _ _ _)
     ·cases h
    ·rename_i e t xs ho
     split at h
     ·rename_i np
      simp only [Option.some.injEq,Prod.mk.injEq] at h
      obtain ⟨rfl,rfl⟩:=h
      obtain ⟨a,c,hM,_⟩:=hm.objs o _ ho
      refine ⟨_,hri.add hM hf _ (.inr ⟨_,ho,.tr e t xs⟩),fun val hv=>?_⟩
      cases hv with
      | arr _ a' n' c' e' sz' hM'=>rw [hM] at hM';cases hM';exact .arr _ _ _ _ _ _ (oo _ _ _ _)
     ·cases h
    ·cases h
  | nil e t=>
   simp only [rnV] at h
   split at h
   ·rename_i hz
    simp only [Option.some.injEq,Prod.mk.injEq] at h
    obtain ⟨rfl,rfl⟩:=h
    have hle:Mle M1 (Jv M1 r.L.length (.arr none 0 0 e (Ty.sz G t)) fun _=>False):=.new hri.dom _ _
    refine ⟨Jv M1 r.L.length (.arr none 0 0 e (Ty.sz G t)) fun _=>False,⟨⟨fun i y hi=>?_,fun i i' hi=>?_,fun i ob hi=>?_⟩,hle,by simp,fun _ _ h=>h⟩,fun val hv=>?_⟩
    ·simp only [List.length_append,List.length_singleton]
     by_cases e:i=r.L.length
     ·omega
     ·rw [H2 _ _ _ e] at hi
      have:=hri.dom i y hi;omega
    ·obtain ⟨h1,y,h2,h3,h4⟩:=hri.fnd i i' hi
     exact ⟨by simp;omega,y,h2,hle.hd _ _ h3,fun b=>(hle.ft _ _ h3 b).trans (h4 b)⟩
    ·simp only at hi
     rw [List.getElem?_append] at hi
     split at hi
     ·rcases hri.obj i ob hi with rfl | ⟨o1,ob1,h1,h2,h3⟩ | ⟨e,t,h1,h2,h3,h4⟩
      ·exact .inl rfl
      ·exact .inr (.inl ⟨o1,ob1,h1,h2,h3.mono hle⟩)
      ·exact .inr (.inr ⟨e,t,h1,hle.hd _ _ h2,h3,fun b hb=>h4 b ((hle.ft _ _ h2 b).1 hb)⟩)
     ·rename_i hge
      have hi':i-r.L.length=0:=by have:=(List.getElem?_eq_some_iff.1 hi).1;simp at this;omega
      have hi2:i=r.L.length:=by omega
      rw [hi'] at hi
      simp at hi
      subst hi;subst hi2
      exact .inr (.inr ⟨e,t,rfl,oo _ _ _ _,hz,fun b hb=>by simp [Jv] at hb⟩)
    ·cases hv
     exact .arr _ _ _ _ _ _ (oo _ _ _ _)
   ·cases h
  | ref o off=>
   simp only [rnV] at h
   split at h
   ·rename_i o' hf
    simp only [Option.some.injEq,Prod.mk.injEq] at h
    obtain ⟨rfl,rfl⟩:=h
    obtain ⟨h1,x,h2,h3,_⟩:=hri.fnd o o' hf
    refine ⟨M1,.refl hri,fun val hv=>?_⟩
    cases hv with
    | ref _ _ b te hM=>rw [h2] at hM;cases hM;exact .ref _ _ b _ h3
   ·rename_i hf
    split at h
    ·rename_i te cs fz ho
     split at h
     ·rename_i ds r1 hs
      simp only [Option.some.injEq,Prod.mk.injEq] at h
      obtain ⟨rfl,rfl⟩:=h
      obtain ⟨b,l,hM,_⟩:=hm.objs o _ ho
      have g1:=hri.add hM hf .dead (.inl rfl)
      obtain ⟨M2,g2,g3⟩:=wS ih cs _ ds r1 _ hs g1.1
      have g4:=g1.trans g2
      have hfo:Rn.find r1.map o=some r.L.length:=g2.2.2.2 o _ (by simp [Rn.find])
      refine ⟨M2,⟨⟨fun i y hi=>by simpa using g2.1.dom i y hi,fun i i' hi=>by simpa using g2.1.fnd i i' hi,fun i ob hi=>?_⟩,g4.2.1,by simpa using g4.2.2.1,g4.2.2.2⟩,fun val hv=>?_⟩
      ·simp only at hi
       rw [List.getElem?_set] at hi
       split at hi
       ·rename_i e1
        subst e1
        split at hi
        ·cases hi
         exact .inr (.inl ⟨o,_,hfo,ho,.box te cs ds fz g3⟩)
        ·cases hi
       ·exact g2.1.obj i ob hi
      ·cases hv with
       | ref _ _ b' te' hM'=>
        rw [hM] at hM';cases hM'
        exact .ref _ _ b _ (g2.2.1.hd _ _ (oo _ _ _ _))
     ·cases h
    ·cases h
  | ag cs=>
   simp only [rnV] at h
   cases hs:Lz (rnV old n) cs r with
   | none=>rw [hs] at h;cases h
   | some p=>
    rw [hs] at h
    obtain ⟨ds,r1⟩:=p
    simp only [Option.map_some,Option.some.injEq,Prod.mk.injEq] at h
    obtain ⟨rfl,rfl⟩:=h
    obtain ⟨M2,g2,g3⟩:=wS ih cs _ ds r1 _ hs hri
    refine ⟨M2,g2,fun val hv=>?_⟩
    cases hv with
    | ag _ l hl hh=>have:=g3 l ⟨hl,hh⟩;exact .ag _ l this.1 this.2
  | fn g cs=>
   simp only [rnV] at h
   cases hs:Lz (rnV old n) cs r with
   | none=>rw [hs] at h;cases h
   | some p=>
    rw [hs] at h
    obtain ⟨ds,r1⟩:=p
    simp only [Option.map_some,Option.some.injEq,Prod.mk.injEq] at h
    obtain ⟨rfl,rfl⟩:=h
    obtain ⟨M2,g2,g3⟩:=wS ih cs _ ds r1 _ hs hri
    refine ⟨M2,g2,fun val hv=>?_⟩
    cases hv with
    | fn _ _ l hl hh=>have:=g3 l ⟨hl,hh⟩;exact .fn _ _ l this.1 this.2
  | un=>
   simp only [rnV,Option.some.injEq,Prod.mk.injEq] at h
   obtain ⟨rfl,rfl⟩:=h
   exact ⟨M1,.refl hri,fun val hv=>.un _⟩
  | er q=>
   simp only [rnV,Option.some.injEq,Prod.mk.injEq] at h
   obtain ⟨rfl,rfl⟩:=h
   exact ⟨M1,.refl hri,fun val hv=>.un _⟩
  | lb q=>
   simp only [rnV,Option.some.injEq,Prod.mk.injEq] at h
   obtain ⟨rfl,rfl⟩:=h
   exact ⟨M1,.refl hri,fun val hv=>by cases hv;exact .bool _⟩
  | tup cs=>
   simp only [rnV] at h
   split at h
   ·simp only [Option.some.injEq,Prod.mk.injEq] at h
    obtain ⟨rfl,rfl⟩:=h
    exact ⟨M1,.refl hri,fun val hv=>.un _⟩
   ·cases h
  | pe o i off=>simp [rnV] at h
  | _=>exact dflt h
theorem RI.src {r:Rn G.S} {M':Mem} (h:RI w ok old M r M'):∀ o' ob' b,r.L[o']?=some ob'->ob'.live->hasB M' o' b->∃ o ob,Rn.find r.map o=some o'/\old[o]?=some ob/\ob.live/\hasB M o b/\Sim w ok M M' ob ob':=by
 intro o' ob' b ho hl hb
 rcases h.obj o' ob' ho with rfl | ⟨o,ob,h1,h2,h3⟩ | ⟨e,t,_,h2,h3,h4⟩
 ·exact hl.elim
 ·obtain ⟨_,x,hx,hx',hft⟩:=h.fnd o o' h1
  have hb':hasB M o b:=by
   rcases hb with hb | hb
   ·simp only [blk,hx',Option.bind_some] at hb
    refine .inl ?_
    simp only [blk,hx,Option.bind_some];exact hb
   ·exact .inr ((hft b).1 hb)
  refine ⟨o,ob,h1,h2,?_,hb',h3⟩
  cases h3<;>trivial
 ·rcases hb with hb | hb
  ·simp [blk,h2,MB.blk] at hb
  ·exact (h4 b hb).elim
theorem RI.mi (hS:bG G) (hm:MI C w0 Fp okA M ok old w) {r:Rn G.S} {M':Mem} (h:RI w ok old M r M') (hpin:∀ i x,Fp.pin i=some x->M' i=some x):MI C w0 Fp okA M' ok r.L w:=by
 have src:∀ o' ob' b,r.L[o']?=some ob'->ob'.live->hasB M' o' b->∃ o ob,Rn.find r.map o=some o'/\old[o]?=some ob/\ob.live/\hasB M o b/\(∀ off,ob.rd off->ob'.rd off):=by
  intro o' ob' b ho hl hb
  obtain ⟨o,ob,h1,h2,h3,h4,h5⟩:=h.src o' ob' b ho hl hb
  refine ⟨o,ob,h1,h2,h3,h4,?_⟩
  cases h5<;>exact fun _ h=>h
 refine ⟨fun o' ob' ho=>?_,h.dom,fun o1 o2 ob1 ob2 b h1 h2 l1 l2 b1 b2=>?_,fun o ob b off ho hl hb hk=>?_,fun o ob b ho hl hb=>?_,fun o ob b ho hl hb=>?_,hm.rdA,hm.lt,hm.okN,hm.glob,hm.os,hm.tape,hm.output,hm.size,hm.frame,hm.gt,hpin⟩
 ·rcases h.obj o' ob' ho with rfl | ⟨o,ob,h1,h2,h3⟩ | ⟨e,t,he,h2,h3,_⟩
  ·trivial
  ·obtain ⟨_,x,hx,hx',hft⟩:=h.fnd o o' h1
   have hor:=hm.objs o ob h2
   cases h3 with
   | arr e t xs fz np=>
    obtain ⟨a,c,us,g1,g2,g3,g4⟩:=hor
    rw [hx] at g1;cases g1
    exact ⟨a,c,us,hx',g2,g3,fun i x j y u k1 k2 k3=>Mm hS np (List.mem_of_getElem? k2) (g4 i x j y u k1 k2 k3)⟩
   | tr e t xs=>
    obtain ⟨a,c,g1,g2⟩:=hor
    rw [hx] at g1;cases g1
    exact ⟨a,c,hx',g2.any fun b=>(hft b).2⟩
   | box te cs ds fz hh=>
    obtain ⟨b,l,g1,g2,g3⟩:=hor
    rw [hx] at g1;cases g1
    exact ⟨b,l,hx',g2,hh l g3⟩
  ·have h0:w.ownsRow 0 e (Ty.sz G t) (.slice none 0 0) 0 []:=⟨by simp,.inl ⟨rfl,rfl⟩⟩
   split at he
   ·subst he
    exact ⟨none,0,h2,[],fun _ _ _=>False,h0,h3,fun i x j y u k1=>by simp at k1,fun _ _ _ _ _ h=>h.elim,fun _ _ _ h=>h.elim,fun b h=>by simp at h⟩
   ·subst he
    exact ⟨none,0,[],h2,h0,h3,fun i x j y u k1=>by simp at k1⟩
 ·obtain ⟨s1,sb1,f1,g1,k1,q1,_⟩:=src o1 ob1 b h1 l1 b1
  obtain ⟨s2,sb2,f2,g2,k2,q2,_⟩:=src o2 ob2 b h2 l2 b2
  have:=hm.dis s1 s2 sb1 sb2 b g1 g2 k1 k2 q1 q2
  subst this
  rw [f1] at f2
  exact Option.some.inj f2
 ·obtain ⟨s1,sb1,f1,g1,k1,q1,hr⟩:=src o ob b ho hl hb
  exact hr off (hm.own s1 sb1 b off g1 k1 q1 hk)
 ·obtain ⟨s1,sb1,f1,g1,k1,q1,_⟩:=src o ob b ho hl hb
  exact hm.old s1 sb1 b g1 k1 q1
 ·obtain ⟨s1,sb1,f1,g1,k1,q1,_⟩:=src o ob b ho hl (.inr hb)
  exact hm.blk_lt g1 k1 q1
theorem Om {w:World} {ok:Okc} {M:Mem} {cs:List (V G.S)} {l:List Value} (h:VRs w ok M cs l):VRs w ok M (cs.map Qv) l:=by
 refine ⟨by simpa using h.1,fun j y v hj hv=>?_⟩
 rw [List.getElem?_map] at hj
 cases hc:cs[j]? with
 | none=>rw [hc] at hj;cases hj
 | some c=>
  rw [hc] at hj
  have:=h.2 j c v hc hv
  simp only [Option.map_some,Option.some.injEq] at hj
  subst hj
  cases c with
  | nil e t=>cases this;exact .sl0 _ _ _
  | _=>exact this
theorem Ay : ∀ (os:List Nat) (i:Nat),os.Nodup->∀ j o,os[j]?=some o->Rn.find (yG os i) o=some (i+j)
 | a:: os,i,hn,j,o,h=>by
  rw [List.nodup_cons] at hn
  simp only [yG,Rn.find]
  cases j with
  | zero=>simp at h;subst h;simp
  | succ j=>
   simp only [List.getElem?_cons_succ] at h
   rw [if_neg (by rintro rfl;exact hn.1 (List.mem_of_getElem? h)),Ay os (i+1) hn.2 j o h]
   congr 1;omega
theorem DN : ∀ (os:List Nat) (i o o':Nat),Rn.find (yG os i) o=some o'->∃ j,os[j]?=some o/\o'=i+j
 | a:: os,i,o,o',h=>by
  simp only [yG,Rn.find] at h
  split at h
  ·rename_i e
   cases h
   exact ⟨0,by simp [e],by omega⟩
  ·obtain ⟨j,h1,h2⟩:=DN os (i+1) o o' h
   exact ⟨j+1,by simpa using h1,by omega⟩
theorem Mn {os:List Nat} (hsome:∀ o∈os,∃ x,M o=some x):RI w ok old M ⟨yG os 0,List.replicate os.length .dead⟩ ⟨fun i=>match os[i]? with | some o=>M o | none=>none,fun i b=>∃ o,os[i]?=some o/\M.ft o b⟩:=by
 refine ⟨fun i x hi=>?_,fun o o' ho=>?_,fun o' ob hi=>?_⟩
 ·simp only [List.length_replicate]
  cases hq:os[i]? with
  | none=>simp [hq] at hi
  | some o=>exact (List.getElem?_eq_some_iff.1 hq).1
 ·obtain ⟨j,h1,h2⟩:=DN os 0 o o' ho
  rw [Nat.zero_add] at h2
  subst h2
  obtain ⟨x,hx⟩:=hsome o (List.mem_of_getElem? h1)
  exact ⟨by simpa using (List.getElem?_eq_some_iff.1 h1).1,x,hx,by simp [h1,hx],fun b=>by simp [h1]⟩
 ·simp only at hi
  rw [List.getElem?_replicate] at hi
  split at hi
  ·cases hi;exact .inl rfl
  ·cases hi
theorem rX (hm:MI C w0 Fp okA M ok old w) {nl:Bool}:∀ {os:List Nat} {i:Nat} {r r':Rn G.S},Cw nl old os i r=some r'->∀ o∈os,∃ x,M o=some x
 | o:: os,i,r,r',h,q,hq=>by
  simp only [Cw] at h
  split at h
  ·rename_i te cs fz ho
   split at h
   ·cases hq with
    | head=>exact hm.mem_some ho trivial
    | tail _ hq=>exact rX hm h q hq
   ·cases h
  ·rename_i ho
   split at h
   ·cases hq with
    | head=>exact hm.mem_some ho trivial
    | tail _ hq=>exact rX hm h q hq
   ·cases h
  ·rename_i ho
   split at h
   ·cases hq with
    | head=>exact hm.mem_some ho trivial
    | tail _ hq=>exact rX hm h q hq
   ·cases h
  ·cases h
theorem Em (hS:bG G) (hm:MI C w0 Fp okA M ok old w) {nl:Bool}:∀ (os:List Nat) (i:Nat) (r r':Rn G.S) (M1:Mem),Cw nl old os i r=some r'->RI w ok old M r M1 ->
  (∀ j o,os[j]?=some o->Rn.find r.map o=some (i+j))->∃ M2,JG w ok old M r r' M1 M2
 | [],i,r,r',M1,h,hri,_=>by simp [Cw] at h;subst h;exact ⟨M1,.refl hri⟩
 | o :: os,i,r,r',M1,h,hri,hf=>by
  have put:∀ (ob:Obj G.S),old[o]?=some ob->Sim w ok M M1 ob ob->Cw nl old os (i+1) {r with L:=r.L.set i ob}=some r'->∃ M2,JG w ok old M r r' M1 M2:=by
   intro ob ho hsim h
   have hfo:Rn.find r.map o=some i:=by have:=hf 0 o rfl;simpa using this
   have hri2:RI w ok old M {r with L:=r.L.set i ob} M1:=by
    refine ⟨fun i' y hi=>by simpa using hri.dom i' y hi,fun i' i'' hi=>by simpa using hri.fnd i' i'' hi,fun i' ob' hi=>?_⟩
    rcases u7 hi with ⟨rfl,rfl,_⟩ | ⟨_,hi⟩
    ·exact .inr (.inl ⟨o,_,hfo,ho,hsim⟩)
    ·exact hri.obj i' ob' hi
   obtain ⟨M3,g4⟩:=Em hS hm os (i+1) _ r' M1 h hri2 (fun j q hq=>by
    have:=hf (j+1) q (by simpa using hq)
    rw [this];congr 1;omega)
   refine ⟨M3,g4.1,g4.2.1,?_,g4.2.2.2⟩
   have h2:=g4.2.2.1
   simp only [List.length_set] at h2
   exact h2
  simp only [Cw] at h
  split at h
  ·rename_i te cs fz ho
   split at h
   ·rename_i ds r1 hs
    obtain ⟨M2,g2,g3⟩:=wS (JH hS hm 20) _ r ds r1 M1 hs hri
    have g3':∀ l,VRs w ok M cs l->VRs w ok M2 ds l:=fun l hl=>g3 l (by cases nl;exact hl;exact Om hl)
    have hfo:Rn.find r1.map o=some i:=g2.2.2.2 o _ (by have:=hf 0 o rfl;simpa using this)
    have hri2:RI w ok old M {r1 with L:=r1.L.set i (.box te ds fz)} M2:=by
     refine ⟨fun i' y hi=>by simpa using g2.1.dom i' y hi,fun i' i'' hi=>by simpa using g2.1.fnd i' i'' hi,fun i' ob hi=>?_⟩
     simp only at hi
     rw [List.getElem?_set] at hi
     split at hi
     ·rename_i e1
      subst e1
      split at hi
      ·cases hi
       exact .inr (.inl ⟨o,_,hfo,ho,.box te cs ds fz g3'⟩)
      ·cases hi
     ·exact g2.1.obj i' ob hi
    obtain ⟨M3,g4⟩:=Em hS hm os (i+1) _ r' M2 h hri2 (fun j q hq=>by
     have:=g2.2.2.2 q _ (hf (j+1) q (by simpa using hq))
     rw [this];congr 1;omega)
    refine ⟨M3,g4.1,g2.2.1.trans g4.2.1,?_,fun a b e=>g4.2.2.2 a b (g2.2.2.2 a b e)⟩
    have h1:=g2.2.2.1
    have h2:=g4.2.2.1
    simp only [List.length_set] at h2
    exact Nat.le_trans h1 h2
   ·cases h
  ·rename_i e t xs fz ho
   split at h
   ·exact put _ ho (.arr e t xs fz ‹_›) h
   ·cases h
  ·rename_i e t xs ho
   split at h
   ·exact put _ ho (.tr e t xs) h
   ·cases h
  ·cases h
theorem Az (hS:bG G) (hm:MI C w0 Fp okA M ok old w) {nl:Bool} {os:List Nat} {r:Rn G.S} (h:FX nl old os=some r) (hn:os.Nodup):
  ∃ M2,RI w ok old M r M2/\∀ j o,os[j]?=some o->Rn.find r.map o=some j/\∃ x,M o=some x/\M2 j=some x:=by
 unfold FX at h
 have hsome:=rX hm h
 have hf0:∀ j o,os[j]?=some o->Rn.find (yG os 0) o=some (0+j):=Ay os 0 hn
 obtain ⟨M2,g⟩:=Em hS hm os 0 _ r _ h (Mn hsome) hf0
 refine ⟨M2,g.1,fun j o ho=>⟨by have:=g.2.2.2 o _ (hf0 j o ho);rw [this,Nat.zero_add],?_⟩⟩
 obtain ⟨x,hx⟩:=hsome o (List.mem_of_getElem? ho)
 exact ⟨x,hx,g.2.1.hd j _ (by simp [ho,hx])⟩
end
end
end Go.Dv

namespace Go.Dv
open Go
section
variable {G:Sig} {C:Cfg G} {Φ:FuncId->List Item->St G.S->Option (Ret G.S)} {f:FuncId} {r:Ret G.S}
section
variable {Lc:List (Obj G.S)} {Mc M2:Mem} {w':World} {okc:Okc} {n len N:Nat}
end
section
variable {w0 w w':World} {Fp:Fx} {okA ok okc:Okc} {M M3 Mc:Mem} {old:List (Obj G.S)} {q:Rn G.S}
end
theorem dm {P:Program} {g:FuncId} {fn:Func} (hf:P.funcs[g]?=some fn) (hn:(fn.name == "runtime.NumGoroutine")=false) {body:Code} (hb:fn.body=some body) (args:Array Value) (w:World):(callFunc g args).run P w = .ok (.enter g args) w:=by
 have hn':¬ fn.name = "runtime.NumGoroutine" := by simpa using hn
 simp [callFunc,hf,hn',hb]
theorem On (hS:bG G) (hΦ:o6 C Φ) {g:FuncId} {args:List (V G.S)} {st:St G.S} {k:K G} (h:(LA C g args st k).run G Φ f=some r):
  ∃ v' st' rd wr,(st'.tm=st.tm/\st'.n0=st.n0/\(wr=[]->st'.L=st.L)/\∀ b,b∉wr->b<st.L.length->st'.L[b]?=st.L[b]?)/\(∀ (w0:World) (Fp:Fx) (okA:Okc) (M:Mem) (ok:Okc) (w:World) (vals:List Value),MI C w0 Fp okA M ok st.L w->VRs w ok M args vals ->
   (callFunc g vals.toArray).run C.P w = .ok (.enter g vals.toArray) w/\Calls C.P g vals.toArray w (fun e w'=>∃ v M' ok',e = .returned v/\MI C w0 Fp okA M' ok' st'.L w'/\Ex M ok w M' ok' w'/\VR w' ok' M' v' v)) /\
   (k v' st' rd wr).run G Φ f=some r:=by
 unfold LA at h
 exact al h
end
end Go.Dv

namespace Go.Dv
open Go
section
variable {G:Sig} {C:Cfg G} {Φ:FuncId->List Item->St G.S->Option (Ret G.S)} {f:FuncId} {r:Ret G.S} {w0:World} {Fp:Fx} {okA:Okc} {M:Mem} {ok:Okc} {L:List (Obj G.S)} {w w':World}
theorem MI.chg (h:MI C w0 Fp okA M ok L w) {g:Option Nat} (hos:w'.os=w.os) (htape:w'.tape=w.tape) (hout:w'.output=w.output) (hsz:w.heap.size<=w'.heap.size)
    (hg:∀ k,k<w.heap.size->g≠some k->w'.heap[k]?=w.heap[k]?) (hl:∀ (i:Nat) x b,L[i]?=some x->x.live->hasB M i b->g≠some b) (hok:∀ b off,ok b off->g≠some b) (hold:∀ b,g=some b->w0.heap.size<=b\/Fp b):
    MI C w0 Fp okA M ok L w'/\Ex M ok w M ok w':=by
  have he:Ex M ok w M ok w':=⟨fun _ _ h=>h,fun b off u hb hc=>⟨hb,by rw [cell_of_heap (hg b (h.lt b off hb) (hok b off hb))];exact hc⟩⟩
  refine ⟨⟨?_,h.dom,h.dis,h.own,h.old,fun o ob b ho hl hb=>Nat.lt_of_lt_of_le (h.flt o ob b ho hl hb) hsz,h.rdA,fun b off hb=>Nat.lt_of_lt_of_le (h.lt b off hb) hsz,h.okN,h.glob.mono he.rd,hos.trans h.os,htape.trans h.tape,hout.trans h.output,Nat.le_trans h.size hsz,fun b hb hf=>?_,h.gt,h.pin⟩,he⟩
  · intro i x hi
    by_cases hlv:x.live
    · exact (h.objs i _ hi).mono he (fun _ h=>h) fun k hk=>hg k (h.blk_lt hi hlv hk) (hl i _ k hi hlv hk)
    · cases x with
      | dead=>trivial
      | _=>exact (hlv trivial).elim
  · rw [hg b (Nat.lt_of_lt_of_le hb h.size) (fun e=>by
      rcases hold b e with h1 | h1
      · omega
      · exact hf h1)]
    exact h.frame b hb hf
theorem SP {xs:List Int} {us:List Value} (hl:us.length=xs.length) (h:∀ (i:Nat) (x:Int) (u:Value),xs[i]?=some x->us[i]?=some u->u = .int .u8 x):us=xs.map (Value.int .u8):=by
 apply List.ext_getElem?
 intro i
 rw [List.getElem?_map]
 by_cases hi:i<xs.length
 ·rw [List.getElem?_eq_getElem hi,List.getElem?_eq_getElem (by omega)]
  rw [h i xs[i] (us[i]'(by omega)) (List.getElem?_eq_getElem hi) (List.getElem?_eq_getElem (by omega))]
  rfl
 ·rw [List.getElem?_eq_none (by omega),List.getElem?_eq_none (by omega)];rfl
theorem QH {w:World} {ok:Okc} {M:Mem} (xs:List Int):∀ (i:Nat) (x:Ty.den G.S (.int .u8)) (j:Nat) (y:V G.S) (u:Value),(show List (Ty.den G.S (.int .u8)) from xs)[i]?=some x->(Ty.cells G (.int .u8) x)[j]?=some y->(xs.map (Value.int .u8))[i*Ty.sz G (.int .u8)+j]?=some u->VR w ok M y u:=by
 intro i x j y u hi hj hu
 have hj0:j=0:=by
  have:=(List.getElem?_eq_some_iff.1 hj).1
  simp [Ty.cells] at this;exact this
 subst hj0
 simp only [Ty.cells,List.getElem?_cons_zero,Option.some.injEq] at hj
 subst hj
 simp only [Ty.sz,Nat.mul_one,Nat.add_zero] at hu
 rw [List.getElem?_map] at hu
 have hi:xs[i]?=some x:=hi
 rw [hi] at hu
 have hu:Value.int .u8 x=u:=Option.some.inj hu
 subst hu
 exact .int _ _
theorem Gc (s:List UInt8):Pe s=(s.map fun b=>(b.toNat:Int)).map (Value.int .u8):=by
 unfold Pe;rw [List.map_map];rfl
theorem KG {xs:List Int} {l:List UInt8} (h:qr xs=some l):xs.map (Value.int .u8)=Pe l:=by
 unfold qr at h
 split at h
 ·rename_i ha
  cases h
  unfold Pe
  rw [List.map_map]
  refine List.map_congr_left fun n hn=>?_
  have:=List.all_eq_true.1 ha n hn
  simp only [Bool.and_eq_true_iff,decide_eq_true_eq] at this
  simp only [Function.comp]
  congr 1
  simp;omega
 ·cases h
theorem En {a b:V G.S} {l:List Value} (h:VRs w ok M [a,b] l):∃ x y,l=[x,y]/\VR w ok M a x/\VR w ok M b y:=by
 obtain ⟨x,l1,rfl,h1,h2⟩:=h.inv
 obtain ⟨y,l2,rfl,h3,h4⟩:=h2.inv
 have:l2=[]:=by have:=h4.1;exact List.eq_nil_of_length_eq_zero (by simpa using this.symm)
 subst this
 exact ⟨x,y,rfl,h1,h3⟩
theorem PJ {a b:V G.S} {x y:Value} (h1:VR w ok M a x) (h2:VR w ok M b y):VRs w ok M [a,b] [x,y]:=by
 refine ⟨rfl,fun j u v hj hv=>?_⟩
 match j with
 | 0=>cases hj;cases hv;exact h1
 | 1=>cases hj;cases hv;exact h2
 | j+2=>cases hj
theorem DO {o b:Nat} {T:TypeId} {a:V G.S} {px:Value} (hM:M o=some (.box b T)) (ha:ol a o=true) (h1:VR w ok M a px):px = .pointer none\/px = .pointer (some ⟨b,0,none⟩):=by
 cases a with
 | nilp=>cases h1;exact .inl rfl
 | ref o' off=>
  unfold ol at ha
  simp only [Bool.and_eq_true_iff,beq_iff_eq] at ha
  obtain ⟨rfl,rfl⟩:=ha
  cases h1 with
  | ref _ _ b' te' h'=>rw [hM] at h';cases h';exact .inr rfl
 | _=>simp [ol] at ha
theorem Mo (hS:bG G) (hm:MI C w0 Fp okA M ok L w) {o o2:Nat} {T e:TypeId} {a:V G.S} {xs:List Int} (hL:L[o]?=some (.box T [a,.arr o2] false)) (hL2:L[o2]?=some (.arr e (.int .u8) xs false)) (ha:ol a o=true):
  ∃ b p v,M o=some (.box b T)/\w.heap[b]?=some (.cells #[p,v] T (0,0))/\H7 T e w b v (xs.map (Value.int .u8))/\v.ownBlock=blk M o2:=by
 have hoo:o≠o2:=by rintro rfl;rw [hL] at hL2;cases hL2
 obtain ⟨b,l,hM,hh,hv0⟩:=hm.objs o _ hL
 obtain ⟨px,pv,rfl,hv1,hv2⟩:=En hv0
 obtain ⟨rds,hM2,hown⟩:=As hS hm hL2 hv2
 have hown:w.ownsRow 0 e 1 pv xs.length rds.us:=hown
 have hul:rds.us.length=xs.length:=by have:=hown.1;simp only [Nat.mul_one] at this;exact this
 have hus:rds.us=xs.map (Value.int .u8):=SP hul fun i x u hi hu=>by
  have:=rds.el i x 0 (.int .u8 x) u hi rfl (by simp only [Ty.sz,Nat.mul_one,Nat.add_zero];exact hu)
  cases this;rfl
 rw [hus] at hown
 have hobk:pv.ownBlock=blk M o2:=by
  rw [rds.val]
  simp only [blk,hM2,MB.blk,Option.bind_some]
  cases rds.a<;>rfl
 refine ⟨b,px,pv,hM,hh,⟨?_,by rw [List.length_map];exact hown,fun e1=>?_⟩,hobk⟩
 ·rcases DO hM ha hv1 with rfl | rfl
  ·exact .inl hh
  ·exact .inr hh
 ·rw [hobk] at e1
  exact hoo (hm.dis o o2 _ _ b hL hL2 trivial trivial (.inl (by simp [blk,hM,MB.blk])) (.inl e1))
theorem Mp (hm:MI C w0 Fp okA M ok L w) {o:Nat} {T e:TypeId} {a:V G.S} (hL:L[o]?=some (.box T [a,.nil e (.int .u8)] false)) (ha:ol a o=true):
  ∃ b p,M o=some (.box b T)/\w.heap[b]?=some (.cells #[p,.slice none 0 0] T (0,0))/\H7 T e w b (.slice none 0 0) []:=by
 obtain ⟨b,l,hM,hh,hv0⟩:=hm.objs o _ hL
 obtain ⟨px,pv,rfl,hv1,hv2⟩:=En hv0
 cases hv2
 refine ⟨b,px,hM,hh,⟨?_,World.ownsRow_nil w 0 e 1,fun e1=>by cases e1⟩⟩
 rcases DO hM ha hv1 with rfl | rfl
 ·exact .inl hh
 ·exact .inr hh
theorem Eo {e:TypeId} {v:Value} {n:Nat} {us:List Value} (h:w.ownsRow 0 e 1 v n us):∃ a c,v = .slice a n c:=by
 rcases h.2 with ⟨rfl,rfl⟩ | ⟨g,cap,cur,rfl,_⟩
 ·exact ⟨_,_,rfl⟩
 ·exact ⟨_,_,rfl⟩
theorem JI (hS:bG G) {o:Nat} {T e:TypeId} {a bv:V G.S} {b:Nat} {p v:Value} {ys:List Int} {v':Value} (ho:L[o]?=some (.box T [a,bv] false)) (hm:MI C w0 Fp okA M ok L w) (hM:M o=some (.box b T)) (hh:w.heap[b]?=some (.cells #[p,v] T (0,0)))
  (hw:PE T e w b v (ys.map (Value.int .u8)) w' v') {L1:List (Obj G.S)} (hlen:L1.length=L.length+1) (ho1:L1[o]?=some (.box T [a,bv] false)) {x:MB} (hxb:x.blk=v'.ownBlock) (hx:x=(match v' with | .slice a n c=>MB.arr a n c e 1 | _=>x))
  (step:∀ w1:World,w1.os=w.os->w1.tape=w.tape->w1.output=w.output->w.heap.size<=w1.heap.size->(∀ k,k<w.heap.size->v.ownBlock≠some k->w1.heap[k]?=w.heap[k]?)->w1.ownsRow 0 e 1 v' ys.length (ys.map (Value.int .u8)) ->
   MI C w0 Fp okA (o4 M L.length x) ok L1 w1/\Ex M ok w (o4 M L.length x) ok w1):
  MI C w0 Fp okA (o4 M L.length x) ok (L1.set o (.box T [.ref o 0,.arr L.length] false)) w'/\Ex M ok w (o4 M L.length x) ok w':=by
 have hbl:b<w.heap.size:=(Array.getElem?_eq_some_iff.1 hh).1
 have hol:o<L.length:=(List.getElem?_eq_some_iff.1 ho).1
 have c1:(w'.setRow b #[p,v]).heap[b]?=some (.cells #[p,v] T (0,0)):=setRow_heap w' b _ _ T _ hw.cell
 have own1:(w'.setRow b #[p,v]).ownsRow 0 e 1 v' ys.length (ys.map (Value.int .u8)):=by
  have:=hw.own
  rw [List.length_map] at this
  exact this.kept (row:=some b) ⟨rfl,rfl,rfl,by simp,fun k _ hk=>setRow_other w' b k _ (fun e=>hk (by simp [e]))⟩ (.inr hw.ne)
 obtain ⟨hm1,he1⟩:=step (w'.setRow b #[p,v]) hw.os hw.tape hw.output (by have:=hw.size;simpa using this) (fun k hk hne=>by
  by_cases e1:k=b
  ·subst e1;rw [c1,hh]
  ·rw [setRow_other w' b k _ e1];exact hw.frame k hk e1 hne) own1
 have hM1:o4 M L.length x o=some (.box b T):=by rw [wP _ _ (by omega)];exact hM
 have hsl:∃ a' c',v' = .slice a' ys.length c':=Eo own1
 obtain ⟨a',c',rfl⟩:=hsl
 simp only at hx
 subst hx
 obtain ⟨hm2,he2⟩:=hm1.upd (w':=w') (.box T [.ref o 0,.arr L.length] false) ho1 trivial (by simp [blk,hM1,MB.blk]) rfl rfl rfl (by simp) (fun k hk=>(setRow_other w' b k _ hk).symm) (fun _ hr=>by simp [Obj.rd] at hr) (fun he=>⟨b,[.pointer (some ⟨b,0,none⟩),.slice a' ys.length c'],hM1,hw.cell,PJ (.ref _ 0 b T hM1) (.arr _ a' ys.length c' e 1 (bR _ _ _))⟩)
 exact ⟨hm2,he1.trans he2⟩
theorem Mq {w:World} {ok:Okc} {M:Mem} {n:Int} {v:Value}:VR (G:=G) w ok M (.tup [.int .i64 n,.un]) (.tuple #[.int .i64 n,v]):=by
 refine .tup _ [.int .i64 n,v] rfl fun j u z hj hz=>?_
 match j with
 | 0=>cases hj;cases hz;exact .int _ _
 | 1=>cases hj;exact .un _
 | j+2=>cases hj
theorem Mr {xs ys zs:List Int} (h:app xs ys=some zs):zs=xs++ys/\xs.length+ys.length<=68719476736:=by
 unfold app at h
 split at h
 ·rename_i hl;cases h;exact ⟨rfl,hl⟩
 ·cases h
theorem Ms (hS:bG G) (hE:ou C) {g:FuncId} {T e:TypeId} (hbl:C.bld g=some (1,T,e)) {o o2:Nat} {a:V G.S} {xs ys:List Int} {sb:ByteArray} (hL:L[o]?=some (.box T [a,.arr o2] false)) (hL2:L[o2]?=some (.arr e (.int .u8) xs false)) (ha:ol a o=true)
  (hy:app xs (sb.data.toList.map fun b=>(b.toNat:Int))=some ys) (hm:MI C w0 Fp okA M ok L w) {x:Value} (hx:VR w ok M (.ref (S:=G.S) o 0) x):
  Calls C.P g [x,.string sb].toArray w (fun en w'=>∃ v M' ok',en = .returned v/\MI C w0 Fp okA M' ok' (List.set (L.set o2 .dead++[Obj.arr (S:=G.S) e (.int .u8) ys false]) o (.box T [.ref o 0,.arr L.length] false)) w'/\Ex M ok w M' ok' w'/\VR (G:=G) w' ok' M' (.tup [.int .i64 (sb.data.toList.length:Int),.un]) v):=by
 have hol:o<L.length:=(List.getElem?_eq_some_iff.1 hL).1
 have hoo:o≠o2:=by rintro rfl;rw [hL] at hL2;cases hL2
 obtain ⟨b,p,v,hM,hh,hB,hobk⟩:=Mo hS hm hL hL2 ha
 cases hx with
 | ref _ _ b' te' h'=>
 rw [hM] at h'
 cases h'
 obtain ⟨hyy,hyl⟩:=Mr hy
 rw [List.length_map] at hyl
 have hsz:sb.size=sb.data.toList.length:=(Array.length_toList (xs:=sb.data)).symm
 refine (hE.bw g _ _ hbl w b v _ sb hB (by rw [List.length_map,hsz];omega)).mono ?_
 rintro en w' ⟨rfl,v',hw⟩
 have hus2:xs.map (Value.int .u8)++Pe sb.data.toList=ys.map (Value.int .u8):=by rw [Gc,hyy,List.map_append]
 rw [hus2] at hw
 obtain ⟨a',c',rfl⟩:∃ a' c',v' = .slice a' ys.length c':=by have:=hw.own;rw [List.length_map] at this;exact Eo this
 obtain ⟨hm2,he2⟩:=JI (x:=.arr a' ys.length c' e 1) hS hL hm hM hh hw (L1:=L.set o2 .dead++[Obj.arr (S:=G.S) e (.int .u8) ys false]) (by simp) (by rw [List.getElem?_append_left (by simpa using hol),List.getElem?_set_ne (fun e=>hoo e.symm)];exact hL) (by cases a'<;>rfl) rfl (fun w1 q1 q2 q3 q4 q5 q6=>by
  refine hm.replace (w':=w1) (ob0:=.arr e (.int .u8) xs false) hL2 trivial (fun off hr=>by simp [Obj.rd] at hr) (.arr a' ys.length c' e 1) (.arr e (.int .u8) ys false) ⟨q1,q2,q3,q4,fun k hk hne=>q5 k hk (fun e=>hne (by rw [<-hobk];exact e.symm))⟩ (fun b2 hb2=>by
   have:(Value.slice a' ys.length c').ownBlock=some b2:=by cases a'<;>simpa [MB.blk,Value.ownBlock] using hb2
   rw [<-hobk]
   exact hw.blk b2 this) (fun he=>⟨a',c',_,bR _ _ _,q6,Nat.one_pos,QH ys⟩))
 rw [hsz]
 exact ⟨_,_,_,rfl,hm2,he2,Mq⟩
theorem Mt (hS:bG G) (hE:ou C) {g:FuncId} {T e:TypeId} (hbl:C.bld g=some (1,T,e)) {o:Nat} {a:V G.S} {ys:List Int} {sb:ByteArray} (hL:L[o]?=some (.box T [a,.nil e (.int .u8)] false)) (ha:ol a o=true)
  (hy:app ([]:List Int) (sb.data.toList.map fun b=>(b.toNat:Int))=some ys) (hm:MI C w0 Fp okA M ok L w) {x:Value} (hx:VR w ok M (.ref (S:=G.S) o 0) x):
  Calls C.P g [x,.string sb].toArray w (fun en w'=>∃ v M' ok',en = .returned v/\MI C w0 Fp okA M' ok' (List.set (L++[Obj.arr (S:=G.S) e (.int .u8) ys false]) o (.box T [.ref o 0,.arr L.length] false)) w'/\Ex M ok w M' ok' w'/\VR (G:=G) w' ok' M' (.tup [.int .i64 (sb.data.toList.length:Int),.un]) v):=by
 have hol:o<L.length:=(List.getElem?_eq_some_iff.1 hL).1
 obtain ⟨b,p,hM,hh,hB⟩:=Mp hm hL ha
 cases hx with
 | ref _ _ b' te' h'=>
 rw [hM] at h'
 cases h'
 obtain ⟨hyy,hyl⟩:=Mr hy
 rw [List.length_map] at hyl
 have hsz:sb.size=sb.data.toList.length:=(Array.length_toList (xs:=sb.data)).symm
 refine (hE.bw g _ _ hbl w b _ _ sb hB (by rw [hsz];simp at hyl ⊢;omega)).mono ?_
 rintro en w' ⟨rfl,v',hw⟩
 have hus2:([]:List Value)++Pe sb.data.toList=ys.map (Value.int .u8):=by rw [Gc,hyy,List.nil_append,List.nil_append]
 rw [hus2] at hw
 obtain ⟨a',c',rfl⟩:∃ a' c',v' = .slice a' ys.length c':=by have:=hw.own;rw [List.length_map] at this;exact Eo this
 obtain ⟨hm2,he2⟩:=JI (x:=.arr a' ys.length c' e 1) hS hL hm hM hh hw (L1:=L++[Obj.arr (S:=G.S) e (.int .u8) ys false]) (by simp) (by rw [List.getElem?_append_left hol];exact hL) (by cases a'<;>rfl) rfl (fun w1 q1 q2 q3 q4 q5 q6=>by
  have hgk:∀ k,k<w.heap.size->w1.heap[k]?=w.heap[k]?:=fun k hk=>q5 k hk (fun e=>by cases e)
  exact ⟨hm.push (.arr a' ys.length c' e 1) (.arr e (.int .u8) ys false) q1 q2 q3 q4 hgk ⟨a',c',_,bR _ _ _,q6,Nat.one_pos,QH ys⟩ (fun b2 hb2=>by
   have:(Value.slice a' ys.length c').ownBlock=some b2:=by cases a'<;>simpa [MB.blk,Value.ownBlock] using hb2
   rcases hw.blk b2 this with h9 | h9
   ·exact h9
   ·cases h9),hm.ex_push _ hgk⟩)
 rw [hsz]
 exact ⟨_,_,_,rfl,hm2,he2,Mq⟩
theorem Oo (hS:bG G) (hE:ou C) {g:FuncId} {T e:TypeId} (hbl:C.bld g=some (3,T,e)) {o o2:Nat} {a:V G.S} {xs:List Int} {l:List UInt8} (hL:L[o]?=some (.box T [a,.arr o2] false)) (hL2:L[o2]?=some (.arr e (.int .u8) xs false)) (ha:ol a o=true)
    (hy:qr xs=some l) (hm:MI C w0 Fp okA M ok L w) {x:Value} (hx:VR w ok M (.ref (S:=G.S) o 0) x):
    Calls C.P g [x].toArray w (fun en w'=>∃ v M' ok',en = .returned v/\MI C w0 Fp okA M' ok' ((L.set o2 .dead).set o .dead) w'/\Ex M ok w M' ok' w'/\VR (G:=G) w' ok' M' (.str l) v):=by
  obtain ⟨b,p,v,hM,hh,hB,hobk⟩:=Mo hS hm hL hL2 ha
  cases hx with
  | ref _ _ b' te' h'=>
  rw [hM] at h'
  cases h'
  rw [KG hy] at hB
  refine (hE.bs g _ _ hbl w b v l hB).mono ?_
  rintro en w' ⟨rfl,hw⟩
  have hk:=(hm.kill o2).kill o
  have key:∀ (i:Nat) (x:Obj G.S),((L.set o2 .dead).set o .dead)[i]?=some x->x.live->L[i]?=some x/\i≠o2:=by
    intro i x hi hl
    rw [List.getElem?_set] at hi
    split at hi
    · split at hi
      · cases hi;exact hl.elim
      · cases hi
    · rw [List.getElem?_set] at hi
      split at hi
      · split at hi
        · cases hi;exact hl.elim
        · cases hi
      · rename_i h1 h2
        exact ⟨hi,fun e=>h2 e.symm⟩
  obtain ⟨hm2,he2⟩:=hk.chg (w':=w') (g:=v.ownBlock) hw.os hw.tape hw.output hw.size (fun k hk hne=>hw.frame k hk hne) (fun i x b2 hi hl hb2 e=>by
      obtain ⟨h1,h2⟩:=key i x hi hl
      rw [hobk] at e
      exact h2 (hm.dis i o2 _ _ b2 h1 hL2 hl trivial hb2 (.inl e))) (fun b2 off hk2 e=>by
      rw [hobk] at e
      have:=hm.own o2 _ b2 off hL2 trivial (.inl e) hk2
      simp [Obj.rd] at this) (fun b2 e=>by
      rw [hobk] at e
      exact hm.old o2 _ b2 hL2 trivial (.inl e))
  exact ⟨_,_,_,rfl,hm2,he2,.str ⟨l.toArray⟩⟩
theorem Oq (hE:ou C) {g:FuncId} {T e:TypeId} (hbl:C.bld g=some (3,T,e)) {o:Nat} {a:V G.S} (hL:L[o]?=some (.box T [a,.nil e (.int .u8)] false)) (ha:ol a o=true)
  (hm:MI C w0 Fp okA M ok L w) {x:Value} (hx:VR w ok M (.ref (S:=G.S) o 0) x):
  Calls C.P g [x].toArray w (fun en w'=>∃ v M' ok',en = .returned v/\MI C w0 Fp okA M' ok' (L.set o .dead) w'/\Ex M ok w M' ok' w'/\VR (G:=G) w' ok' M' (.str []) v):=by
 obtain ⟨b,p,hM,hh,hB⟩:=Mp hm hL ha
 cases hx with
 | ref _ _ b' te' h'=>
 rw [hM] at h'
 cases h'
 refine (hE.bs g _ _ hbl w b _ [] hB).mono ?_
 rintro en w' ⟨rfl,hw⟩
 obtain ⟨hm2,he2⟩:=(hm.kill o).chg (w':=w') (g:=none) hw.os hw.tape hw.output hw.size (fun k hk hne=>hw.frame k hk (fun e=>by cases e)) (fun i x b2 hi hl hb2 e=>by cases e) (fun b2 off hk2 e=>by cases e) (fun b2 e=>by cases e)
 exact ⟨_,_,_,rfl,hm2,he2,.str ⟨#[]⟩⟩
theorem PK (hS:bG G) (hE:ou C) {kd:Nat} {T e:TypeId} {g:FuncId} (hbl:C.bld g=some (kd,T,e)) {args:List (V G.S)} {st:St G.S} {k:K G} (h:(SH C kd T e g args st k).run G Φ f=some r):
  ∃ v' st' rd wr,(st'.tm=st.tm/\st'.n0=st.n0/\(wr=[]->st'.L=st.L)/\∀ b,b∉wr->b<st.L.length->st'.L[b]?=st.L[b]?)/\(∀ (w0:World) (Fp:Fx) (okA:Okc) (M:Mem) (ok:Okc) (w:World) (vals:List Value),MI C w0 Fp okA M ok st.L w->VRs w ok M args vals ->
   (callFunc g vals.toArray).run C.P w = .ok (.enter g vals.toArray) w/\Calls C.P g vals.toArray w (fun e w'=>∃ v M' ok',e = .returned v/\MI C w0 Fp okA M' ok' st'.L w'/\Ex M ok w M' ok' w'/\VR w' ok' M' v' v)) /\
   (k v' st' rd wr).run G Φ f=some r:=by
 unfold SH at h
 split at h
 ·exact al h
 ·rename_i fn hf
  split at h
  ·exact al h
  ·rename_i body hb
   split at h
   ·rename_i hname
    split at h
    ·rename_i o off s
     split at h
     ·rename_i hk
      obtain ⟨rfl,rfl⟩:=hk
      split at h
      ·rename_i te a o2 hL
       split at h
       ·rename_i e' xs hL2
        split at h
        ·rename_i hc
         obtain ⟨rfl,rfl,ha⟩:=hc
         obtain ⟨ys,hy,h⟩:=bT h
         have hol:o<st.L.length:=(List.getElem?_eq_some_iff.1 hL).1
         have hoo:o≠o2:=by rintro rfl;rw [hL] at hL2;cases hL2
         refine ⟨_,_,_,_,⟨?_,?_,(fun e=>by cases e),fun c hc hlt=>?_⟩,fun w0 Fp okA M ok w vals hm hv=>⟨dm hf hname hb _ _,?_⟩,h⟩
         ·rfl
         ·rfl
         ·simp only [List.mem_cons,List.not_mem_nil,or_false,not_or] at hc
          show (List.set _ o _)[c]?=_
          rw [List.getElem?_set_ne (fun e=>hc.1 e.symm),List.getElem?_append_left (by simpa using hlt),List.getElem?_set_ne (fun e=>hc.2 e.symm)]
         ·obtain ⟨x,y,rfl,h1,h2⟩:=En hv
          cases h2 with
          | str sb=>exact Ms hS hE hbl hL hL2 ha hy hm h1
        ·exact al h
       ·exact al h
      ·rename_i te a e' hL
       split at h
       ·rename_i hc
        obtain ⟨rfl,rfl,ha⟩:=hc
        obtain ⟨ys,hy,h⟩:=bT h
        have hol:o<st.L.length:=(List.getElem?_eq_some_iff.1 hL).1
        refine ⟨_,_,_,_,⟨?_,?_,(fun e=>by cases e),fun c hc hlt=>?_⟩,fun w0 Fp okA M ok w vals hm hv=>⟨dm hf hname hb _ _,?_⟩,h⟩
        ·rfl
        ·rfl
        ·simp only [List.mem_cons,List.not_mem_nil,or_false] at hc
         show (List.set _ o _)[c]?=_
         rw [List.getElem?_set_ne (fun e=>hc e.symm),List.getElem?_append_left hlt]
        ·obtain ⟨x,y,rfl,h1,h2⟩:=En hv
         cases h2 with
         | str sb=>exact Mt hS hE hbl hL ha hy hm h1
       ·exact al h
      ·exact al h
     ·exact al h
    ·rename_i o off
     split at h
     ·rename_i hk
      obtain ⟨rfl,rfl⟩:=hk
      split at h
      ·rename_i te a o2 hL
       split at h
       ·rename_i e' xs hL2
        split at h
        ·rename_i hc
         obtain ⟨rfl,rfl,ha⟩:=hc
         obtain ⟨l,hy,h⟩:=bT h
         refine ⟨_,_,_,_,⟨?_,?_,(fun e=>by cases e),fun c hc hlt=>?_⟩,fun w0 Fp okA M ok w vals hm hv=>⟨dm hf hname hb _ _,?_⟩,h⟩
         ·rfl
         ·rfl
         ·simp only [List.mem_cons,List.not_mem_nil,or_false,not_or] at hc
          show (List.set _ o _)[c]?=_
          rw [List.getElem?_set_ne (fun e=>hc.1 e.symm),List.getElem?_set_ne (fun e=>hc.2 e.symm)]
         ·obtain ⟨x,l2,rfl,h1,h2⟩:=hv.inv
          have:l2=[]:=by have:=h2.1;exact List.eq_nil_of_length_eq_zero (by simpa using this.symm)
          subst this
          exact Oo hS hE hbl hL hL2 ha hy hm h1
        ·exact al h
       ·exact al h
      ·rename_i te a e' hL
       split at h
       ·rename_i hc
        obtain ⟨rfl,rfl,ha⟩:=hc
        refine ⟨_,_,_,_,⟨?_,?_,(fun e=>by cases e),fun c hc hlt=>?_⟩,fun w0 Fp okA M ok w vals hm hv=>⟨dm hf hname hb _ _,?_⟩,h⟩
        ·rfl
        ·rfl
        ·simp only [List.mem_cons,List.not_mem_nil,or_false] at hc
         show (List.set _ o _)[c]?=_
         rw [List.getElem?_set_ne (fun e=>hc e.symm)]
        ·obtain ⟨x,l2,rfl,h1,h2⟩:=hv.inv
         have:l2=[]:=by have:=h2.1;exact List.eq_nil_of_length_eq_zero (by simpa using this.symm)
         subst this
         exact Oq hE hbl hL ha hm h1
       ·exact al h
      ·exact al h
     ·exact al h
    ·exact al h
   ·exact al h
end
end Go.Dv

namespace Go.Dv
open Go
section
variable {G:Sig} {C:Cfg G} {Φ:FuncId->List Item->St G.S->Option (Ret G.S)} {f:FuncId} {r:Ret G.S}
theorem Mu {g:Nat} {todo:List Item} {st:St G.S} {ot:List (Bool×List BTy)} {k:Ko G.S ot->Tree G.S} (h:(Tree.callO g todo st ot k).run G Φ f=some r):
  ∃ ret p,Φ g todo st=some ret/\mI G ot ret=some p/\(k p).run G Φ f=some r:=by
 simp only [Tree.run] at h
 cases h1:Φ g todo st with
 | none=>rw [h1] at h;cases h
 | some ret=>
  rw [h1] at h
  simp only [Option.bind_some] at h
  cases h2:mI G ot ret with
  | none=>rw [h2] at h;cases h
  | some p=>rw [h2] at h;exact ⟨ret,p,rfl,h2,h⟩
def Gd (ob:Obj G.S):Prop:=(∃ e t xs,ob = .arr e t xs false/\Ty.fl G t=true)\/∃ e t xs,ob = .tr e t xs []
theorem Gd.live {ob:Obj G.S} (h:Gd ob):ob.live:=by rcases h with ⟨e,t,xs,rfl,_⟩ | ⟨e,t,xs,rfl⟩<;>trivial
theorem Gd.rd {ob:Obj G.S} (h:Gd ob):∀ off,¬ ob.rd off:=by
 rcases h with ⟨e,t,xs,rfl,_⟩ | ⟨e,t,xs,rfl⟩
 ·intro off hr;cases hr
 ·intro off hr;exact hr
theorem Gd.or (hS:bG G) {ob:Obj G.S} (h:Gd ob) {w:World} {ok ok':Okc} {M M':Mem} {o o':Nat} (hM:M' o'=M o) (hf:∀ b,M.ft o b->M'.ft o' b) (hor:OR w ok M o ob):OR w ok' M' o' ob:=by
 rcases h with ⟨e,t,xs,rfl,hfl⟩ | ⟨e,t,xs,rfl⟩
 ·obtain ⟨a,c,us,h1,h2,h3,h4⟩:=hor
  exact ⟨a,c,us,hM.trans h1,h2,h3,fun i x j y u p1 p2 p3=>Eh (Ei hS hfl x y (List.mem_of_getElem? p2)) (h4 i x j y u p1 p2 p3) _ _ _⟩
 ·obtain ⟨a,c,h1,h2⟩:=hor
  exact ⟨a,c,hM.trans h1,h2.any hf⟩
theorem ov (L:List (Obj G.S)):freeze L []=L:=by
 apply List.ext_getElem?
 intro o
 exact iw L (by simp)
theorem o7 : ∀ (b:List BTy) (p:Cv G.S b) (n:Nat),b.all (BTy.wff (G:=G))=true->∀ ob∈(cellsOf (G:=G) b p n).2.1,Gd ob
 | [],p,n,_,ob,h=>by cases h
 | .im t:: r,p,n,hw,ob,h=>o7 r p.2 n (by simp only [List.all_cons,Bool.and_eq_true] at hw;exact hw.2) ob h
 | .ow e t:: r,p,n,hw,ob,h=>by
  simp only [List.all_cons,Bool.and_eq_true] at hw
  simp only [cellsOf,List.mem_cons] at h
  rcases h with rfl | h
  ·exact .inl ⟨_,_,_,rfl,hw.1⟩
  ·exact o7 r p.2 _ hw.2 ob h
 | .tw e t:: r,p,n,hw,ob,h=>by
  simp only [List.all_cons,Bool.and_eq_true] at hw
  simp only [cellsOf,List.mem_cons] at h
  rcases h with rfl | h
  ·exact .inr ⟨_,_,_,rfl⟩
  ·exact o7 r p.2 _ hw.2 ob h
theorem AA : ∀ (ot:List (Bool×List BTy)) (p:Ko G.S ot) (n:Nat),(ot.all fun b=>b.2.all (BTy.wff (G:=G)))=true->∀ ob∈(eK (G:=G) ot p n).2,Gd ob
 | [],p,n,_,ob,h=>by cases h
 | b:: r,p,n,hw,ob,h=>by
  simp only [List.all_cons,Bool.and_eq_true] at hw
  simp only [eK,List.mem_append] at h
  rcases h with h | h
  ·exact o7 b.2 p.1 n hw.1 ob h
  ·exact AA r p.2 _ hw.2 ob h
theorem Ot {t:Ty} (ht:t.flat=true) {x:t.den G.S} {w w':World} {ok ok':Okc} {M M':Mem} {v:Value} (h:VR w ok M (inj G t x) v):VR w' ok' M' (inj G t x) v:=by
 cases t<;>first | cases ht | skip
 ·cases h;exact .int _ _
 ·cases h;exact .bool _
 ·exact Eh (y:=.str x) rfl h _ _ _
section
variable {Lc:List (Obj G.S)} {Mc M2:Mem} {w':World} {okc ok:Okc} {N K B:Nat}
theorem vd (hS:bG G) (hM:∀ j x,B<=j->j<K->Mc j=some x->M2 (N+j)=some x):∀ (b:List BTy) (cs:List (V G.S)) (d m:Nat) (p:Cv G.S b),B<=d->eF G Lc b cs d=some (p,m)->b.all BTy.wf=true->d+(cellsOf (G:=G) b p (N+d)).2.1.length<=K ->
  ∃ k,m=d+k/\(cellsOf (G:=G) b p (N+d)).2.2=N+(d+k)/\(cellsOf (G:=G) b p (N+d)).2.1.length=k /\
   (∀ (j:Nat) (ob:Obj G.S),(cellsOf (G:=G) b p (N+d)).2.1[j]?=some ob->Lc[d+j]?=some ob/\NX ob) /\
   (∀ l,VRs w' okc Mc cs l->VRs w' ok M2 (cellsOf (G:=G) b p (N+d)).1 l)
 | [],[],d,m,p,_,h,_,_=>by
  simp only [eF,Option.some.injEq,Prod.mk.injEq] at h
  cases h
  exact ⟨0,rfl,rfl,rfl,fun j ob hj=>by simp [cellsOf] at hj,fun l hl=>⟨hl.1,fun j y v hj=>by simp [cellsOf] at hj⟩⟩
 | [],c:: cs,d,m,p,_,h,_,_=>by simp [eF] at h
 | .im t:: b,[],d,m,p,_,h,_,_=>by simp [eF] at h
 | .ow e t:: b,[],d,m,p,_,h,_,_=>by simp [eF] at h
 | .tw e t:: b,[],d,m,p,_,h,_,_=>by simp [eF] at h
 | .im t:: b,v:: vs,d,m,p,hd,h,hwf,hK=>by
  simp only [List.all_cons,Bool.and_eq_true] at hwf
  simp only [eF] at h
  split at h
  ·rename_i x hx
   split at h
   ·rename_i y m' hy
    cases h
    obtain ⟨k,h1,h2,h3,h4,h5⟩:=vd hS hM b vs d _ y hd hy hwf.2 hK
    refine ⟨k,h1,h2,h3,h4,fun l hl=>?_⟩
    obtain ⟨u,l',rfl,k1,k2⟩:=hl.inv
    exact .cons (Ot hwf.1 (tj hS hx k1).2) (h5 l' k2)
   ·cases h
  ·cases h
 | .ow e t:: b,v:: vs,d,m,p,hd,h,hwf,hK=>by
  simp only [List.all_cons,Bool.and_eq_true] at hwf
  cases v with
  | arr o =>
   simp only [eF] at h
   split at h
   ·rename_i ho
    subst ho
    split at h
    ·rename_i e' t' xs hL
     split at h
     ·rename_i he
      subst he
      split at h
      ·rename_i ht
       subst ht
       split at h
       ·rename_i y m' hy
        cases h
        simp only [cellsOf,List.length_cons] at hK
        rw [Nat.add_assoc] at hK
        obtain ⟨k,h1,h2,h3,h4,h5⟩:=vd hS hM b vs (o+1) m y (by omega) hy hwf.2 (by omega)
        refine ⟨k+1,h1.trans (by omega),?_,?_,fun j ob hj=>?_,fun l hl=>?_⟩
        ·simp only [cellsOf]
         rw [Nat.add_assoc,h2];omega
        ·simp only [cellsOf,List.length_cons]
         rw [Nat.add_assoc,h3]
        ·simp only [cellsOf] at hj
         cases j with
         | zero=>
          simp only [List.getElem?_cons_zero,Option.some.injEq] at hj
          subst hj
          exact ⟨hL,.inl ⟨_,_,_,rfl,hwf.1⟩⟩
         | succ j=>
          simp only [List.getElem?_cons_succ] at hj
          rw [Nat.add_assoc] at hj
          have:=h4 j ob hj
          rw [show o+(j+1)=o+1+j by omega]
          exact this
        ·obtain ⟨u,l',rfl,k1,k2⟩:=hl.inv
         simp only [cellsOf]
         refine .cons ?_ (by rw [Nat.add_assoc];exact h5 l' k2)
         cases k1 with
         | arr _ a n' c e2 sz hMM=>exact .arr _ a n' c e2 sz (hM o _ hd (by omega) hMM)
       ·cases h
      ·cases h
     ·cases h
    ·cases h
   ·cases h
  | _=>simp [eF] at h
 | .tw e t:: b,v:: vs,d,m,p,hd,h,hwf,hK=>by
  simp only [List.all_cons,Bool.and_eq_true] at hwf
  cases v with
  | arr o =>
   simp only [eF] at h
   split at h
   ·rename_i ho
    subst ho
    split at h
    ·rename_i e' t' xs hL
     split at h
     ·rename_i he
      subst he
      split at h
      ·rename_i ht
       subst ht
       split at h
       ·rename_i y m' hy
        cases h
        simp only [cellsOf,List.length_cons] at hK
        rw [Nat.add_assoc] at hK
        obtain ⟨k,h1,h2,h3,h4,h5⟩:=vd hS hM b vs (o+1) m y (by omega) hy hwf.2 (by omega)
        refine ⟨k+1,h1.trans (by omega),?_,?_,fun j ob hj=>?_,fun l hl=>?_⟩
        ·simp only [cellsOf]
         rw [Nat.add_assoc,h2];omega
        ·simp only [cellsOf,List.length_cons]
         rw [Nat.add_assoc,h3]
        ·simp only [cellsOf] at hj
         cases j with
         | zero=>
          simp only [List.getElem?_cons_zero,Option.some.injEq] at hj
          subst hj
          exact ⟨hL,.inr ⟨_,_,_,rfl⟩⟩
         | succ j=>
          simp only [List.getElem?_cons_succ] at hj
          rw [Nat.add_assoc] at hj
          have:=h4 j ob hj
          rw [show o+(j+1)=o+1+j by omega]
          exact this
        ·obtain ⟨u,l',rfl,k1,k2⟩:=hl.inv
         simp only [cellsOf]
         refine .cons ?_ (by rw [Nat.add_assoc];exact h5 l' k2)
         cases k1 with
         | arr _ a n' c e2 sz hMM=>exact .arr _ a n' c e2 sz (hM o _ hd (by omega) hMM)
       ·cases h
      ·cases h
     ·cases h
    ·cases h
   ·cases h
  | _=>simp [eF] at h
theorem KH {v:V G.S} {cs:List (V G.S)} (h:v.cellsL=some cs) (hn:NV v=false):cs=[v]/\v.one=true:=by
 cases v<;>first | (cases hn;done) | (cases h;exact ⟨rfl,rfl⟩) | cases h
theorem AB (hS:bG G) (hM:∀ j x,B<=j->j<K->Mc j=some x->M2 (N+j)=some x):∀ (ot:List (Bool×List BTy)) (vs:List (V G.S)) (d:Nat) (p:Ko G.S ot),B<=d->uY G Lc ot vs d=some p->(ot.all fun b=>b.2.all BTy.wf)=true->d+(eK (G:=G) ot p (N+d)).2.length<=K ->
   (∀ (j:Nat) (ob:Obj G.S),(eK (G:=G) ot p (N+d)).2[j]?=some ob->Lc[d+j]?=some ob/\NX ob) /\
   (∀ l,VRs w' okc Mc vs l->VRs w' ok M2 (eK (G:=G) ot p (N+d)).1 l)
 | [],[],d,p,_,h,_,_=>⟨fun j ob hj=>by simp [eK] at hj,fun l hl=>⟨hl.1,fun j y v hj=>by simp [eK] at hj⟩⟩
 | [],v:: vs,d,p,_,h,_,_=>by simp [uY] at h
 | b:: ot,[],d,p,_,h,_,_=>by simp [uY] at h
 | b :: ot,v:: vs,d,p,hd,h,hwf,hK=>by
  simp only [List.all_cons,Bool.and_eq_true] at hwf
  simp only [uY] at h
  split at h
  ·rename_i hag
   split at h
   ·rename_i cs hcs
    split at h
    ·rename_i x m hx
     split at h
     ·rename_i y hy
      cases h
      simp only [eK,List.length_append] at hK
      obtain ⟨k,h1,h2,h3,h4,h5⟩:=vd (w':=w') (okc:=okc) (ok:=ok) (M2:=M2) hS hM b.2 cs d m x hd hx hwf.1 (by omega)
      subst h1
      rw [h2,h3] at hK
      obtain ⟨g1,g2⟩:=AB hS hM ot vs (d+k) y (by omega) hy hwf.2 (by omega)
      refine ⟨fun j ob hj=>?_,fun l hl=>?_⟩
      ·simp only [eK,h2] at hj
       by_cases hjk:j<k
       ·rw [List.getElem?_append_left (by omega)] at hj
        exact h4 j ob hj
       ·rw [List.getElem?_append_right (by omega),h3] at hj
        have:=g1 (j-k) ob hj
        rwa [show d+k+(j-k)=d+j by omega] at this
      ·obtain ⟨u,l',rfl,k1,k2⟩:=hl.inv
       simp only [eK,h2]
       refine .cons ?_ (g2 l' k2)
       have hcl:=h5 _ (kw hcs k1)
       cases hb:b.1 with
       | true=>
        rw [hb] at hag
        rw [if_pos rfl]
        have:∃ q:List Value,u = .agg q.toArray:=by
         cases k1 with
         | st _ _ q=>exact ⟨q,rfl⟩
         | ag _ q=>exact ⟨q,rfl⟩
         | _=>cases hag
        obtain ⟨q,rfl⟩:=this
        have hcl:VRs w' ok M2 (cellsOf (G:=G) b.2 x (N+d)).1 q:=hcl
        exact .ag _ q hcl.1 hcl.2
       | false=>
        rw [hb] at hag
        rw [if_neg (by simp)]
        obtain ⟨rfl,hone⟩:=KH hcs hag
        rw [F8 (LQ hone k1)] at hcl
        split
        ·rename_i v' hv'
         rw [hv'] at hcl
         exact hcl.2 0 v' u rfl rfl
        ·exact .un _
     ·cases h
    ·cases h
   ·cases h
  ·cases h
end
theorem ve (hS:bG G) {w:World} {ok:Okc} {M:Mem}:∀ {ts:List TypeId} {vs us:List (V G.S)} {l:List Value},Ee ts vs=some us->VRs w ok M vs l->VRs w ok M us l
 | [],vs,us,l,h,hv=>by simp [Ee] at h;subst h;exact hv
 | t:: ts,[],us,l,h,hv=>by simp [Ee] at h
 | t:: ts,v:: vs,us,l,h,hv=>by
  obtain ⟨u,l',rfl,h1,h2⟩:=hv.inv
  simp only [Ee] at h
  split at h
  ·split at h
   ·rename_i ty hty x l2 hx hl2
    cases h
    exact .cons (tj hS hx h1).2 (ve hS hl2 h2)
   ·cases h
  ·split at h
   ·rename_i l2 hl2
    cases h
    exact .cons h1 (ve hS hl2 h2)
   ·cases h
theorem Ep (hΦ:o6 C Φ) {g:FuncId} {fn:Func} {body:Code} (hf:C.P.funcs[g]?=some fn) (hb:fn.body=some body) {w0:World} {Fp:Fx} {okA:Okc} {M:Mem} {ok:Okc} {L:List (Obj G.S)} {w:World}
  (hm:MI C w0 Fp okA M ok L w) {vs:List (V G.S)} {vals:List Value} (hv:VRs w ok Mem.no vs vals) (hn:vs.length<=fn.ntmps) {ret:Ret G.S}
  (h:Φ g [.code body] ⟨vs++List.replicate (fn.ntmps-vs.length) .un,[],0⟩=some ret):
  Calls C.P g vals.toArray w (fun e w'=>∃ v,e = .returned v/\Ek C w Fx.no ok ret v w'):=by
 intro cs
 let b:Frame:={(default:Frame) with fn:=g,kind:=.normal}
 have henter:Frame.enter C.P g vals.toArray .normal=b.at {tmps:=vals.toArray++Array.replicate (fn.ntmps-vals.toArray.size) undef,defers:=[]} [.code body]:=by
  simp [Frame.enter,Frame.at,hf,hb,b]
 obtain ⟨v,w',fr,hR,hst,hfn,hlv⟩:=hΦ g _ _ ret h w Fx.no ok Mem.no ok b cs _ w (fun i x h=>by cases h) rfl rfl rfl (JE hm) (JF hv hn)
 rw [henter]
 exact ⟨.returned v,w',fr,⟨v,rfl,hR⟩,hst,hfn,hlv⟩
theorem Mv {ot:List (Bool×List BTy)} {ret:Ret G.S} {p:Ko G.S ot} (hp:mI G ot ret=some p):∃ vs1:List (V G.S),uY G ret.2 ot vs1 0=some p/\((∃ v1,vs1=[v1]/\ret.1=v1)\/(ret.1 = .tup vs1/\vs1.length≠1)):=by
 unfold mI at hp
 split at hp
 ·exact ⟨_,hp,.inl ⟨_,rfl,rfl⟩⟩
 ·rename_i hn1
  split at hp
  ·rename_i vs1 hr1
   refine ⟨vs1,hp,.inr ⟨hr1,fun hl=>?_⟩⟩
   have hlen2:∀ (ot:List (Bool×List BTy)) (vs:List (V G.S)) (d:Nat) (p:Ko G.S ot),uY G ret.2 ot vs d=some p->ot.length=vs.length:=by
    intro ot
    induction ot with
    | nil=>intro vs d p h;cases vs with | nil=>rfl | cons=>simp [uY] at h
    | cons b ot ih=>
     intro vs d p h
     cases vs with
     | nil=>simp [uY] at h
     | cons v vs=>
      simp only [uY] at h
      split at h
      ·split at h
       ·split at h
        ·split at h
         ·rename_i hy;simp [ih vs _ _ hy]
         ·cases h
        ·cases h
       ·cases h
      ·cases h
   have:=hlen2 ot vs1 0 p hp
   rw [hl] at this
   obtain ⟨b1,rfl⟩:=List.length_eq_one_iff.1 this
   exact hn1 b1 rfl
  ·cases hp
theorem Ou (hS:bG G) (hΦ:o6 C Φ) {g:FuncId} {args:List (V G.S)} {st:St G.S} {k:K G} (h:(LB C g args st k).run G Φ f=some r):
    ∃ v' st' rd wr,(st'.tm=st.tm/\st'.n0=st.n0/\(wr=[]->st'.L=st.L)/\∀ b,b∉wr->b<st.L.length->st'.L[b]?=st.L[b]?)/\(∀ (w0:World) (Fp:Fx) (okA:Okc) (M:Mem) (ok:Okc) (w:World) (vals:List Value),MI C w0 Fp okA M ok st.L w->VRs w ok M args vals ->
      (callFunc g vals.toArray).run C.P w = .ok (.enter g vals.toArray) w/\Calls C.P g vals.toArray w (fun e w'=>∃ v M' ok',e = .returned v/\MI C w0 Fp okA M' ok' st'.L w'/\Ex M ok w M' ok' w'/\VR w' ok' M' v' v)) /\
      (k v' st' rd wr).run G Φ f=some r:=by
  unfold LB at h
  split at h
  · exact al h
  · rename_i fn hf
    split at h
    · rename_i ot body hot hb
      split at h
      · rename_i hname
        split at h
        · rename_i vs hs0
          obtain ⟨vs0,hs,hno⟩:=Option.bind_eq_some_iff.1 hs0
          split at h
          · rename_i hcl
            obtain ⟨hclo,hlen,hwf⟩:=hcl
            rw [dR] at h
            obtain ⟨ret,p,hphi,hp,h⟩:=Mu h
            simp only [fU,dR] at h
            generalize hfr:(if (ot.all fun b=>b.2.all (BTy.wff (G:=G)))=true then [] else bH st.L args)=fr at h
            have hlf:(freeze st.L fr).length=st.L.length:=cr _ _
            refine ⟨_,_,_,_,⟨?_,?_,(fun e=>by cases e),fun b hb hlt=>?_⟩,fun w0 Fp okA M ok w vals hm hv=>⟨dm hf hname hb _ _,?_⟩,h⟩
            · rfl
            · rfl
            · simp only [List.mem_cons,not_or] at hb
              show (freeze st.L fr++_)[b]?=_
              rw [List.getElem?_append_left (by rw [hlf];exact hlt),iw _ hb.2]
            have clo:∀ (w:World) (ok:Okc) (M:Mem) (vals:List Value),VRs w ok M vs vals->VRs w ok Mem.no vs vals:=fun w ok M vals hv=>⟨hv.1,fun j y v hj hv'=>(hv.2 j y v hj hv').anyM hS _ 20 (by rw [List.all_eq_true] at hclo;exact hclo y (List.mem_of_getElem? hj))⟩
            obtain ⟨hm1,he1⟩:=hm.freeze hS (bH st.L args)
            have hsn:=ve hS hno (rW hS hm (os:=bH st.L args) hs (fun o ho=>by simpa using ho) hv)
            refine (Ep hΦ hf hb hm1 (clo _ _ _ _ hsn) hlen hphi).mono ?_
            rintro e w' ⟨v,rfl,Mc,okc,hc,hvr⟩
            have key:∃ okb okf:Okc,MI C w0 Fp okA M okb (freeze st.L fr) w/\Ex M ok w M okb w/\(∀ b off,okb b off->okf b off)/\(∀ b off,okf b off->okb b off\/(w.heap.size<=b/\b<w'.heap.size)) /\
                (∀ ob∈(eK ot p st.L.length).2,NX ob->∀ (o o':Nat) (M':Mem),M' o'=Mc o->(∀ b,Mc.ft o b->M'.ft o' b)->OR w' okc Mc o ob->OR w' okf M' o' ob) /\
                (∀ o ob b off,ret.2[o]?=some ob->ob.live->hasB Mc o b->w.heap.size<=b->okf b off->ob.rd off):=by
              by_cases hw:(ot.all fun b=>b.2.all (BTy.wff (G:=G)))=true
              · rw [if_pos hw] at hfr
                subst hfr
                exact ⟨ok,ok,by rw [ov];exact hm,.refl _ _ _,fun _ _ h=>h,fun _ _ h=>.inl h,fun ob hob _ o o' M' h1 h2 h3=>(AA _ _ _ hw ob hob).or hS h1 h2 h3,fun o ob b off _ _ _ h1 h2=>by have:=hm.lt b off h2;omega⟩
              · rw [if_neg hw] at hfr
                subst hfr
                exact ⟨_,okc,hm1,he1,hc.rdA,fun b off hb=>by
                  rcases hc.okN b off hb with q | q | q
                  · exact .inl q
                  · exact .inr ⟨q,hc.lt b off hb⟩
                  · exact q.elim,fun ob _ ho o o' M' h1 h2 h3=>ho.or hS h1 h2 h3,fun o ob b off h1 h2 h3 _ h4=>hc.own o ob b off h1 h2 h3 h4⟩
            obtain ⟨okb,okf,hmb,heb,hk1,hk2,hk3,hk4⟩:=key
            -- what came back,behind the caller's objects
            let K:=(eK ot p st.L.length).2.length
            let M2:Mem:=⟨fun o=>if o<st.L.length then M o else if o<st.L.length+K then Mc (o-st.L.length) else none,fun o b=>if o<st.L.length then M.ft o b else Mc.ft (o-st.L.length) b⟩
            have hM2:∀ j x,j<K->Mc j=some x->M2 (st.L.length+j)=some x:=fun j x hj hx=>by
              simp only [M2]
              rw [if_neg (by omega),if_pos (by omega),Nat.add_sub_cancel_left];exact hx
            have hlist:=Mv hp
            obtain ⟨vs1,hp1,hret⟩:=hlist
            obtain ⟨g1,g2⟩:=AB (w':=w') (okc:=okc) (ok:=okf) (Mc:=Mc) (M2:=M2) (N:=st.L.length) (K:=K) (B:=0) hS (fun j x _=>hM2 j x) ot vs1 0 p (Nat.le_refl _) hp1 hwf (by simp [K])
            simp only [Nat.add_zero,Nat.zero_add] at g1 g2
            have hn2:∀ o ob,st.L.length<=o->(freeze st.L fr++(eK ot p st.L.length).2)[o]?=some ob->ret.2[o-st.L.length]?=some ob/\NX ob/\o<st.L.length+K/\ob∈(eK ot p st.L.length).2:=fun o ob ho hob=>by
              rw [List.getElem?_append_right (by omega),hlf] at hob
              have:=(List.getElem?_eq_some_iff.1 hob).1
              exact ⟨(g1 _ ob hob).1,(g1 _ ob hob).2,by omega,List.mem_of_getElem? hob⟩
            have hMn:∀ o,st.L.length<=o->o<st.L.length+K->M2 o=Mc (o-st.L.length)/\∀ b,M2.ft o b↔Mc.ft (o-st.L.length) b:=fun o h1 h2=>by
              constructor
              · simp only [M2];rw [if_neg (by omega),if_pos h2]
              · intro b;simp only [M2];rw [if_neg (by omega)]
            have hMo:∀ o,o<st.L.length->M2 o=M o/\∀ b,M2.ft o b↔M.ft o b:=fun o h1=>by
              constructor
              · simp only [M2];rw [if_pos h1]
              · intro b;simp only [M2];rw [if_pos h1]
            have hrec:=hmb.recastK (M':=M2) (w':=w') (ok':=okf) (L':=freeze st.L fr++(eK ot p st.L.length).2) (fun _=>False) (fun o=>st.L.length<=o) hc.os hc.tape hc.output hc.size (fun _ h=>h.elim) (fun b hb _=>hc.frame b hb (fun h=>h)) (fun o x ho=>by rw [(hMo o (hm.dom o x ho)).1];exact ho)
              (fun o x ho=>?_) (fun o ob ho hl=>?_) hk1 hk2 (fun he o ob ho hl hch=>?_) (fun o ob b ho hl hch hb=>?_) (fun o1 o2 ob1 ob2 b h1 h2 l1 l2 c1 c2 b1 b2=>?_)
            · refine ⟨v,M2,okf,rfl,hrec.1,heb.trans hrec.2,?_⟩
              rcases hret with ⟨v1,rfl,hr1⟩ | ⟨hr1,hl1⟩
              · rw [hr1] at hvr
                have:=g2 [v] (.sing hvr)
                have hl:=this.1
                match hq:(eK ot p st.L.length).1,hl with
                | [x],_=>rw [hq] at this;exact this.2 0 x v rfl rfl
              · rw [hr1] at hvr
                cases hvr with
                | tup _ l hl hh=>
                  have:=g2 l ⟨hl,hh⟩
                  have hl2:(eK ot p st.L.length).1.length≠1:=by rw [this.1,<-hl];exact hl1
                  match hq:(eK ot p st.L.length).1 with
                  | [x]=>rw [hq] at hl2;simp at hl2
                  | []=>rw [hq] at this;exact .tup _ l this.1 this.2
                  | _:: _:: _=>rw [hq] at this;exact .tup _ l this.1 this.2
            · simp only [M2] at ho
              rw [List.length_append,hlf]
              split at ho
              · omega
              · split at ho
                · assumption
                · cases ho
            · by_cases hlt:o<st.L.length
              · rw [List.getElem?_append_left (by omega)] at ho
                exact .inl ⟨ho,fun h=>h,(hMo o hlt).2⟩
              · exact .inr (by omega)
            · obtain ⟨h1,h2,h3,h4⟩:=hn2 o ob hch ho
              exact hk3 ob h4 h2 _ _ _ (hMn o hch h3).1 (fun b=>((hMn o hch h3).2 b).2) (hc.objs _ ob h1)
            · obtain ⟨h1,h2,h3,_⟩:=hn2 o ob hch ho
              have hb':hasB Mc (o-st.L.length) b:=by
                rcases hb with hb | hb
                · refine .inl ?_
                  simp only [blk,(hMn o hch h3).1] at hb
                  exact hb
                · exact .inr (((hMn o hch h3).2 b).1 hb)
              rcases hc.old _ ob b h1 hl hb' with h4 | h4
              · exact .inl ⟨h4,fun hf=>hc.flt _ ob b h1 hl (((hMn o hch h3).2 b).1 hf),fun off hk=>hk4 _ ob b off h1 hl hb' h4 hk⟩
              · exact h4.elim
            · obtain ⟨p1,p2,p3,_⟩:=hn2 o1 ob1 c1 h1
              obtain ⟨q1,q2,q3,_⟩:=hn2 o2 ob2 c2 h2
              have e1:=(hasB_congr' (hMn o1 c1 p3).1 ((hMn o1 c1 p3).2 b)).1 b1
              have e2:=(hasB_congr' (hMn o2 c2 q3).1 ((hMn o2 c2 q3).2 b)).1 b2
              have:=hc.dis _ _ ob1 ob2 b p1 q1 l1 l2 e1 e2
              omega
          · exact al h
        · exact al h
      · exact al h
    · exact al h
theorem Ov (hS:bG G) (hΦ:o6 C Φ) {g:FuncId} {args:List (V G.S)} {st:St G.S} {k:K G} (h:(LC C g args st k).run G Φ f=some r):
  ∃ v' st' rd wr,(st'.tm=st.tm/\st'.n0=st.n0/\(wr=[]->st'.L=st.L)/\∀ b,b∉wr->b<st.L.length->st'.L[b]?=st.L[b]?)/\(∀ (w0:World) (Fp:Fx) (okA:Okc) (M:Mem) (ok:Okc) (w:World) (vals:List Value),MI C w0 Fp okA M ok st.L w->VRs w ok M args vals ->
   (callFunc g vals.toArray).run C.P w = .ok (.enter g vals.toArray) w/\Calls C.P g vals.toArray w (fun e w'=>∃ v M' ok',e = .returned v/\MI C w0 Fp okA M' ok' st'.L w'/\Ex M ok w M' ok' w'/\VR w' ok' M' v' v)) /\
   (k v' st' rd wr).run G Φ f=some r:=by
 unfold LC at h
 exact al h
theorem Ow (hS:bG G) (hΦ:o6 C Φ) {g:FuncId} {args:List (V G.S)} {st:St G.S} {k:K G} (h:(LD C g args st k).run G Φ f=some r):
  ∃ v' st' rd wr,(st'.tm=st.tm/\st'.n0=st.n0/\(wr=[]->st'.L=st.L)/\∀ b,b∉wr->b<st.L.length->st'.L[b]?=st.L[b]?)/\(∀ (w0:World) (Fp:Fx) (okA:Okc) (M:Mem) (ok:Okc) (w:World) (vals:List Value),MI C w0 Fp okA M ok st.L w->VRs w ok M args vals ->
   (callFunc g vals.toArray).run C.P w = .ok (.enter g vals.toArray) w/\Calls C.P g vals.toArray w (fun e w'=>∃ v M' ok',e = .returned v/\MI C w0 Fp okA M' ok' st'.L w'/\Ex M ok w M' ok' w'/\VR w' ok' M' v' v)) /\
   (k v' st' rd wr).run G Φ f=some r:=by
 unfold LD at h
 exact al h
theorem Ox (hS:bG G) (hΦ:o6 C Φ) {g:FuncId} {args:List (V G.S)} {st:St G.S} {k:K G} (h:(LE C g args st k).run G Φ f=some r):
  ∃ v' st' rd wr,(st'.tm=st.tm/\st'.n0=st.n0/\(wr=[]->st'.L=st.L)/\∀ b,b∉wr->b<st.L.length->st'.L[b]?=st.L[b]?)/\(∀ (w0:World) (Fp:Fx) (okA:Okc) (M:Mem) (ok:Okc) (w:World) (vals:List Value),MI C w0 Fp okA M ok st.L w->VRs w ok M args vals ->
   (callFunc g vals.toArray).run C.P w = .ok (.enter g vals.toArray) w/\Calls C.P g vals.toArray w (fun e w'=>∃ v M' ok',e = .returned v/\MI C w0 Fp okA M' ok' st'.L w'/\Ex M ok w M' ok' w'/\VR w' ok' M' v' v)) /\
   (k v' st' rd wr).run G Φ f=some r:=by
 unfold LE at h
 exact al h
end
end Go.Dv

namespace Go.Dv
open Go
section
variable {G:Sig} {C:Cfg G} {Φ:FuncId->List Item->St G.S->Option (Ret G.S)} {f:FuncId} {r:Ret G.S}
theorem JJ {g:Nat} {todo:List Item} {st:St G.S} {rt:List Ty} {k:yE G.S rt->Tree G.S} (h:(Tree.call g todo st rt k).run G Φ f=some r):
  ∃ ret p,Φ g todo st=some ret/\aC G rt ret.1=some p/\(k p).run G Φ f=some r:=by
 simp only [Tree.run] at h
 cases h1:Φ g todo st with
 | none=>rw [h1] at h;cases h
 | some ret=>
  rw [h1] at h
  simp only [Option.bind_some] at h
  cases h2:aC G rt ret.1 with
  | none=>rw [h2] at h;cases h
  | some p=>rw [h2] at h;exact ⟨ret,p,rfl,h2,h⟩
theorem Oy (hS:bG G) (hΦ:o6 C Φ) (hE:ou C) {g:FuncId} {args:List (V G.S)} {st:St G.S} {k:K G} (h:(Ef C g args st k).run G Φ f=some r):
  ∃ v' st' rd wr,(st'.tm=st.tm/\st'.n0=st.n0/\(wr=[]->st'.L=st.L)/\∀ b,b∉wr->b<st.L.length->st'.L[b]?=st.L[b]?)/\(∀ (w0:World) (Fp:Fx) (okA:Okc) (M:Mem) (ok:Okc) (w:World) (vals:List Value),MI C w0 Fp okA M ok st.L w->VRs w ok M args vals ->
   (callFunc g vals.toArray).run C.P w = .ok (.enter g vals.toArray) w/\Calls C.P g vals.toArray w (fun e w'=>∃ v M' ok',e = .returned v/\MI C w0 Fp okA M' ok' st'.L w'/\Ex M ok w M' ok' w'/\VR w' ok' M' v' v)) /\
   (k v' st' rd wr).run G Φ f=some r:=by
 unfold Ef at h
 split at h
 ·exact al h
 ·rename_i fn hf
  split at h
  ·rename_i rt body hrt hb
   split at h
   ·rename_i hc
    obtain ⟨hname,hnp⟩:=hc
    split at h
    ·rename_i vs hs0
     obtain ⟨vs0,hs,hno⟩:=Option.bind_eq_some_iff.1 hs0
     split at h
     ·rename_i hcl
      obtain ⟨hclo,hlen⟩:=hcl
      have clo:∀ (w:World) (ok:Okc) (M:Mem) (vals:List Value),VRs w ok M vs vals->VRs w ok Mem.no vs vals:=fun w ok M vals hv=>⟨hv.1,fun j y v hj hv'=>(hv.2 j y v hj hv').anyM hS _ 20 (by rw [List.all_eq_true] at hclo;exact hclo y (List.mem_of_getElem? hj))⟩
      split at h
      ·rename_i rt2 gx hx
       split at h
       ·rename_i hrt2
        subst hrt2
        rw [dR] at h
        obtain ⟨p,hg,h⟩:=bT h
        have hk:=h
        unfold Cy at hk
        have fin:∃ v' st' rd wr,(v'=Am G rt2 p/\st'=(if rt2.all Ty.flat then st else {st with L:=freeze st.L (bH st.L args)}))/\((wr=[]->st'.L=st.L)/\∀ b,b∉wr->b<st.L.length->st'.L[b]?=st.L[b]?)/\(k v' st' rd wr).run G Φ f=some r:=by
         split at hk
         ·rename_i hf;exact ⟨_,_,_,_,⟨rfl,by rw [if_pos hf]⟩,⟨fun _=>rfl,fun _ _ _=>rfl⟩,hk⟩
         ·rename_i hf;exact ⟨_,_,_,_,⟨rfl,by rw [if_neg hf]⟩,⟨fun e=>by simp only [e,ov],fun b hb _=>iw _ hb⟩,hk⟩
        obtain ⟨v',st',rd,wr,⟨hv',hst'⟩,hwr,hfin⟩:=fin
        refine ⟨v',st',rd,wr,⟨by subst hst';split<;>rfl,by subst hst';split<;>rfl,hwr⟩,fun w0 Fp okA M ok w vals hm hv=>⟨dm hf hname hb _ _,?_⟩,hfin⟩
        obtain ⟨hm1,he1⟩:=hm.freeze hS (bH st.L args)
        have hsn:=ve hS hno (rW hS hm (os:=bH st.L args) hs (fun o ho=>by simpa using ho) hv)
        obtain ⟨rv,hp,hcall⟩:=hE.ext g _ gx vs p hx hg (okF M ok st.L (bH st.L args)) w vals hm1.lt hm1.globX (clo _ _ _ _ hsn)
        refine hcall.mono ?_
        rintro e w' ⟨v,rfl,hpost⟩
        obtain ⟨v2,st2,rd2,wr2,⟨hv2,hst2⟩,⟨M',ok',h1,h2,h3⟩,_⟩:=Ml (C:=C) (Φ:=Φ) (f:=f) (r:=r) hS hm hnp hpost hp h
        subst hv2;subst hst2;subst hv';subst hst'
        exact ⟨v,M',ok',rfl,h1,h2,h3⟩
       ·exact al h
      ·rename_i hx
       rw [dR] at h
       obtain ⟨ret,p,hphi,hp,h⟩:=JJ h
       have hk:=h
       unfold Cy at hk
       have fin:∃ v' st' rd wr,(v'=Am G rt p/\st'=(if rt.all Ty.flat then st else {st with L:=freeze st.L (bH st.L args)}))/\((wr=[]->st'.L=st.L)/\∀ b,b∉wr->b<st.L.length->st'.L[b]?=st.L[b]?)/\(k v' st' rd wr).run G Φ f=some r:=by
        split at hk
        ·rename_i hf;exact ⟨_,_,_,_,⟨rfl,by rw [if_pos hf]⟩,⟨fun _=>rfl,fun _ _ _=>rfl⟩,hk⟩
        ·rename_i hf;exact ⟨_,_,_,_,⟨rfl,by rw [if_neg hf]⟩,⟨fun e=>by simp only [e,ov],fun b hb _=>iw _ hb⟩,hk⟩
       obtain ⟨v',st',rd,wr,⟨hv',hst'⟩,hwr,hfin⟩:=fin
       refine ⟨v',st',rd,wr,⟨by subst hst';split<;>rfl,by subst hst';split<;>rfl,hwr⟩,fun w0 Fp okA M ok w vals hm hv=>⟨dm hf hname hb _ _,?_⟩,hfin⟩
       obtain ⟨hm1,he1⟩:=hm.freeze hS (bH st.L args)
       have hsn:=ve hS hno (rW hS hm (os:=bH st.L args) hs (fun o ho=>by simpa using ho) hv)
       refine (yL hΦ hf hb hm1 (clo _ _ _ _ hsn) hlen hphi).mono ?_
       rintro e w' ⟨v,rfl,hpost⟩
       obtain ⟨v2,st2,rd2,wr2,⟨hv2,hst2⟩,⟨M',ok',h1,h2,h3⟩,_⟩:=Ml (C:=C) (Φ:=Φ) (f:=f) (r:=r) hS hm hnp hpost hp h
       subst hv2;subst hst2;subst hv';subst hst'
       exact ⟨v,M',ok',rfl,h1,h2,h3⟩
     ·exact al h
    ·exact al h
   ·exact al h
  ·exact al h
theorem Ia {w:World} {ok:Okc} {M:Mem} {s:List UInt8} {v:Value} (h:VR (G:=G) w ok M (.str s) v):v=encStr s:=by
 cases h with
 | str b=>simp [encStr]
theorem Mw {w:World} {ok:Okc} {M:Mem} (s:List UInt8):VR (G:=G) w ok M (.str s) (encStr s):=by
 have:=VR.str (G:=G) (w:=w) (ok:=ok) (M:=M) ⟨s.toArray⟩
 exact this
theorem qv {w:World} {base:Nat} {e:TypeId} {size:Nat} {v:Value} {n:Nat} {us:List Value} (h:w.ownsRow base e size v n us):w.ownsRow 0 e size v n us:=
  ⟨h.1, by rcases h.2 with q | ⟨g,cap,cur,q1,q2,q3⟩
           · exact .inl q
           · exact .inr ⟨g,cap,cur,q1,Nat.zero_le _,q3⟩⟩
theorem Pf {w:World} {ok:Okc} {M:Mem} (xs:List (List UInt8)):∀ (i:Nat) (x:Ty.den G.S .str) (j:Nat) (y:V G.S) (u:Value),xs[i]?=some x->(Ty.cells G .str x)[j]?=some y->(xs.map encStr)[i*Ty.sz G .str+j]?=some u->VR w ok M y u:=by
 intro i x j y u hi hj hu
 have hj0:j=0:=by
  have:=(List.getElem?_eq_some_iff.1 hj).1
  simp [Ty.cells] at this;exact this
 subst hj0
 simp only [Ty.cells,List.getElem?_cons_zero,Option.some.injEq] at hj
 subst hj
 simp only [Ty.sz,Nat.mul_one,Nat.add_zero] at hu
 rw [List.getElem?_map,hi] at hu
 have hu:encStr x=u:=Option.some.inj hu
 subst hu
 exact Mw x
theorem QI {xs:List (List UInt8)} {us:List Value} (hl:us.length=xs.length) (h:∀ (i:Nat) (x:List UInt8) (u:Value),xs[i]?=some x->us[i]?=some u->u=encStr x):us=xs.map encStr:=by
 apply List.ext_getElem?
 intro i
 rw [List.getElem?_map]
 by_cases hi:i<xs.length
 ·rw [List.getElem?_eq_getElem hi,List.getElem?_eq_getElem (by omega)]
  rw [h i xs[i] (us[i]'(by omega)) (List.getElem?_eq_getElem hi) (List.getElem?_eq_getElem (by omega))]
  rfl
 ·rw [List.getElem?_eq_none (by omega),List.getElem?_eq_none (by omega)];rfl
theorem Af (hS:bG G) (hΦ:o6 C Φ) (hE:ou C) {g:FuncId} {args:List (V G.S)} {st:St G.S} {k:K G} (h:(Kr C g args st k).run G Φ f=some r):
    ∃ v' st' rd wr,(st'.tm=st.tm/\st'.n0=st.n0/\(wr=[]->st'.L=st.L)/\∀ b,b∉wr->b<st.L.length->st'.L[b]?=st.L[b]?)/\(∀ (w0:World) (Fp:Fx) (okA:Okc) (M:Mem) (ok:Okc) (w:World) (vals:List Value),MI C w0 Fp okA M ok st.L w->VRs w ok M args vals ->
      (callFunc g vals.toArray).run C.P w = .ok (.enter g vals.toArray) w/\Calls C.P g vals.toArray w (fun e w'=>∃ v M' ok',e = .returned v/\MI C w0 Fp okA M' ok' st'.L w'/\Ex M ok w M' ok' w'/\VR w' ok' M' v' v)) /\
      (k v' st' rd wr).run G Φ f=some r:=by
  unfold Kr at h
  split at h
  · rename_i gx hx
    unfold Qy at h
    exact al h
  split at h
  · rename_i e t hx
    unfold TK at h
    split at h
    · exact al h
    · rename_i fn hf
      split at h
      · rename_i body hb
        split at h
        · rename_i hname
          split at h
          · rename_i o
            split at h
            · rename_i e' t' xs fz hL
              split at h
              · rename_i he'
                subst he'
                split at h
                · rename_i ht'
                  subst ht'
                  obtain ⟨ys,hg,hk⟩:=bT h
                  have hys:ys=xs/\xs.length<=big:=by
                    unfold F1 at hg
                    split at hg
                    · rename_i hq;exact ⟨(Option.some.inj hg).symm,hq⟩
                    · cases hg
                  obtain ⟨rfl,hbig⟩:=hys
                  refine ⟨.arr st.L.length,{st with L:=st.L++[.arr e' t' ys false]},[o],[st.L.length],⟨rfl,rfl,(fun e=>by cases e),fun b hb hlt=>List.getElem?_append_left hlt⟩,fun w0 Fp okA M ok w vals hm hv=>⟨dm hf hname.1 hb _ _,?_⟩,hk⟩
                  obtain ⟨v1,l1,rfl,hv1,hv2⟩:=hv.inv
                  obtain ⟨rfl⟩:l1=[]:=by have:=hv2.1;exact List.eq_nil_of_length_eq_zero (by simpa using this.symm)
                  obtain ⟨a,c,us,hM,hown,hz,hel⟩:=hm.objs o _ hL
                  have hval:v1 = .slice a ys.length c:=by
                    cases hv1 with
                    | arr o a n c e sz hq=>
                      have hq:M o=_:=hq
                      rw [hM] at hq
                      cases hq
                      rfl
                  subst hval
                  have hone:∀ u∈us,u.oneCell'=true:=fun u hu=>by
                    obtain ⟨i,hi⟩:=List.mem_iff_getElem?.1 hu
                    have hil:i<ys.length*Ty.sz G t':=by rw [<-hown.1];exact (List.getElem?_eq_some_iff.1 hi).1
                    have hq1:i / Ty.sz G t'<ys.length:=(Nat.div_lt_iff_lt_mul hz).2 hil
                    have hq2:i % Ty.sz G t'<Ty.sz G t':=Nat.mod_lt _ hz
                    have hq3:i / Ty.sz G t'*Ty.sz G t'+i % Ty.sz G t'=i:=Nat.div_add_mod' _ _
                    have hcl:(Ty.cells G t' ys[i / Ty.sz G t']).length=Ty.sz G t':=dQ hS _ _
                    have hq4:=List.getElem?_eq_getElem (l:=Ty.cells G t' ys[i / Ty.sz G t']) (i:=i % Ty.sz G t') (by rw [hcl];exact hq2)
                    have hy:=hel _ _ _ _ u (List.getElem?_eq_getElem hq1) hq4 (by rw [hq3];exact hi)
                    have hs:=Ei hS hname.2 _ _ (List.mem_of_getElem? hq4)
                    generalize (Ty.cells G t' ys[i / Ty.sz G t'])[i % Ty.sz G t']=y at hy hs
                    cases hy<;>first | rfl | cases hs
                  refine (hE.cln g e' t' hx a ys.length c us w hown hone hbig).mono ?_
                  rintro en w' ⟨v',rfl,h2,h3⟩
                  obtain ⟨a2,c2,rfl,hob⟩:=iB h2
                  have hgk:∀ k,k<w.heap.size->w'.heap[k]?=w.heap[k]?:=fun k hk=>h3.block k hk (by simp)
                  have he:=hm.ex_push (w':=w') (.arr a2 ys.length c2 e' (Ty.sz G t')) hgk
                  refine ⟨_,_,_,rfl,hm.push (.arr a2 ys.length c2 e' (Ty.sz G t')) (.arr e' t' ys false) h3.os h3.tape h3.output h3.size hgk ?_ ?_,he,?_⟩
                  · exact ⟨a2,c2,us,bR _ _ _,qv h2,hz,fun i x j y u p1 p2 p3=>(hel i x j y u p1 p2 p3).mono he⟩
                  · intro b hb'
                    simp only [MB.blk] at hb'
                    rw [<-hob] at hb'
                    exact (h2.lt b hb').1
                  · exact .arr _ a2 ys.length c2 e' (Ty.sz G t') (bR _ _ _)
                · exact al h
              · exact al h
            · exact al h
          · exact al h
        · exact al h
      · exact al h
  split at h
  · rename_i kd T e hx
    exact PK hS hE hx h
  split at h
  · rename_i e gx hx
    unfold Qx at h
    exact al h
  split at h
  · rename_i e gx hx
    unfold ownT at h
    split at h
    · exact al h
    · rename_i fn hf
      split at h
      · rename_i body hb
        split at h
        · rename_i hname
          split at h
          · rename_i vs hs
            split at h
            · rename_i hclo
              rw [dR] at h
              obtain ⟨xs,hg,hk⟩:=bT h
              refine ⟨.arr st.L.length,{st with L:=freeze st.L (bH st.L args)++[.arr e .str xs false]},bH st.L args,st.L.length:: bH st.L args,⟨rfl,rfl,(fun e=>by cases e),fun b hb hlt=>by
                  simp only [List.mem_cons,not_or] at hb
                  show (freeze st.L (bH st.L args)++_)[b]?=_
                  rw [List.getElem?_append_left (by rw [cr];exact hlt),iw _ hb.2]⟩,fun w0 Fp okA M ok w vals hm hv=>⟨dm hf hname hb _ _,?_⟩,hk⟩
              obtain ⟨hm1,he1⟩:=hm.freeze hS (bH st.L args)
              have hsn:=rW hS hm (os:=bH st.L args) hs (fun o ho=>by simpa using ho) hv
              have clo:VRs w (okF M ok st.L (bH st.L args)) Mem.no vs vals:=⟨hsn.1,fun j y v hj hv'=>(hsn.2 j y v hj hv').anyM hS _ 20 (by rw [List.all_eq_true] at hclo;exact hclo y (List.mem_of_getElem? hj))⟩
              refine (hE.own g e gx vs xs hx hg _ w vals hm1.lt hm1.globX clo).mono ?_
              rintro en w' ⟨v',rfl,h2,h3⟩
              obtain ⟨a,c,rfl,hob⟩:=iB h2
              have hgk:∀ k,k<w.heap.size->w'.heap[k]?=w.heap[k]?:=fun k hk=>h3.block k hk (by simp)
              have hlen:(freeze st.L (bH st.L args)).length=st.L.length:=cr _ _
              have he:=hm1.ex_push (w':=w') (.arr a xs.length c e (Ty.sz G .str)) hgk
              refine ⟨_,_,_,rfl,hm1.push (.arr a xs.length c e (Ty.sz G .str)) (.arr e .str xs false) h3.os h3.tape h3.output h3.size hgk ?_ ?_,he1.trans he,?_⟩
              · exact ⟨a,c,xs.map encStr,bR _ _ _,qv h2,Nat.one_pos,Pf xs⟩
              · intro b hb'
                simp only [MB.blk] at hb'
                rw [<-hob] at hb'
                exact (h2.lt b hb').1
              · rw [hlen];exact .arr _ a xs.length c e (Ty.sz G .str) (bR _ _ _)
            · exact al h
          · exact al h
        · exact al h
      · exact al h
  split at h
  · rename_i e t hx
    unfold Qw at h
    split at h
    · exact al h
    · rename_i fn hf
      split at h
      · rename_i body hb
        split at h
        · rename_i hname
          split at h
          · rename_i e' t' n
            obtain ⟨u,hg,hk⟩:=bT h
            have hn:0<=n/\n<=big:=by
              unfold F0 at hg
              split at hg
              · assumption
              · cases hg
            refine ⟨.arr st.L.length,{st with L:=st.L++[.arr e t [] false]},[],[st.L.length],⟨rfl,rfl,(fun e=>by cases e),fun b hb hlt=>List.getElem?_append_left hlt⟩,fun w0 Fp okA M ok w vals hm hv=>⟨dm hf hname.1 hb _ _,?_⟩,hk⟩
            obtain ⟨v1,l1,rfl,hv1,hv2⟩:=hv.inv
            obtain ⟨v2,l2,rfl,hv3,hv4⟩:=hv2.inv
            obtain ⟨rfl⟩:l2=[]:=by have:=hv4.1;exact List.eq_nil_of_length_eq_zero (by simpa using this.symm)
            cases hv1
            cases hv3
            refine (hE.grw g e t hx n w hn.1 hn.2).mono ?_
            rintro en w' ⟨v',rfl,h2,h3⟩
            obtain ⟨a,c,rfl,hob⟩:=iB h2
            have hgk:∀ k,k<w.heap.size->w'.heap[k]?=w.heap[k]?:=fun k hk=>h3.block k hk (by simp)
            have he:=hm.ex_push (w':=w') (.arr a 0 c e (Ty.sz G t)) hgk
            refine ⟨_,_,_,rfl,hm.push (.arr a 0 c e (Ty.sz G t)) (.arr e t [] false) h3.os h3.tape h3.output h3.size hgk ?_ ?_,he,?_⟩
            · exact ⟨a,c,[],bR _ _ _,qv h2,hname.2,fun i x j y u p1=>by simp at p1⟩
            · intro b hb'
              simp only [MB.blk] at hb'
              rw [<-hob] at hb'
              exact (h2.lt b hb').1
            · exact .arr _ a 0 c e (Ty.sz G t) (bR _ _ _)
          · exact al h
        · exact al h
      · exact al h
  · split at h
    · rename_i e gx hx
      unfold eatT at h
      split at h
      · exact al h
      · rename_i fn hf
        split at h
        · rename_i body hb
          split at h
          · rename_i hname
            split at h
            · rename_i o
              split at h
              · rename_i e' xs hL
                split at h
                · rename_i he'
                  subst he'
                  obtain ⟨ys,hg,hk⟩:=bT h
                  refine ⟨.arr st.L.length,{st with L:=st.L.set o .dead++[.arr e' .str ys false]},[o],[o],⟨rfl,rfl,(fun e=>by cases e),fun b hb hlt=>by
                    simp only [List.mem_singleton] at hb
                    show (st.L.set o .dead++_)[b]?=_
                    rw [List.getElem?_append_left (by simpa using hlt),List.getElem?_set_ne (fun e=>hb e.symm)]⟩,fun w0 Fp okA M ok w vals hm hv=>⟨dm hf hname hb _ _,?_⟩,hk⟩
                  obtain ⟨v,l',rfl,hv1,hv2⟩:=hv.inv
                  obtain ⟨rfl⟩:l'=[]:=by have:=hv2.1;exact List.eq_nil_of_length_eq_zero (by simpa using this.symm)
                  obtain ⟨rds,hM,hown⟩:=As hS hm hL hv1
                  have hus:rds.us=(show List (List UInt8) from xs).map encStr:=QI (by have:=hown.1;simp only [Ty.sz,Nat.mul_one] at this;exact this) fun i x u hi hu=>by
                    have:=rds.el i x 0 (.str x) u hi rfl (by simp only [Ty.sz,Nat.mul_one,Nat.add_zero];exact hu)
                    exact Ia this
                  rw [hus] at hown
                  refine (hE.eat g e' gx xs ys hx hg w v hown).mono ?_
                  rintro en w' ⟨v',rfl,h2,h3,h4⟩
                  obtain ⟨a,c,rfl,hob⟩:=iB h2
                  have hobk:v.ownBlock=blk M o:=by
                    rw [rds.val]
                    simp only [blk,hM,MB.blk,Option.bind_some]
                    cases rds.a<;>rfl
                  rw [hobk] at h3
                  have hsub:Ex M ok w (o4 M st.L.length (.arr a ys.length c e' (Ty.sz G .str))) ok w'->OR (G:=G) w' ok (o4 M st.L.length (.arr a ys.length c e' (Ty.sz G .str))) st.L.length (.arr e' .str ys false):=by
                    intro he
                    exact ⟨a,c,ys.map encStr,bR _ _ _,h2,Nat.one_pos,Pf ys⟩
                  have hrep:=hm.replace (w':=w') (ob0:=.arr e' .str xs false) hL trivial (fun off hr=>by simp [Obj.rd] at hr) (.arr a ys.length c e' (Ty.sz G .str)) (.arr e' .str ys false) h3 (fun b hb'=>by
                    simp only [MB.blk] at hb'
                    rw [<-hobk]
                    exact h4 b (by rw [hob];exact hb')) hsub
                  exact ⟨_,_,_,rfl,hrep.1,hrep.2,.arr _ a _ c e' (Ty.sz G .str) (bR _ _ _)⟩
                · exact al h
              · exact al h
            · exact al h
          · exact al h
        · exact al h
    · split at h
      · split at h
        · exact Ov hS hΦ h
        · exact On hS hΦ h
      · split at h
        · exact Ox hS hΦ h
        split at h
        · exact Ou hS hΦ h
        · split at h
          · exact Ow hS hΦ h
          · exact Oy hS hΦ hE h
end
end Go.Dv

namespace Go.Dv
open Go
section
variable {G:Sig} {C:Cfg G} {Φ:FuncId->List Item->St G.S->Option (Ret G.S)} {f:FuncId} {r:Ret G.S}
theorem H3.val {o:Oper} {st st':St G.S} {v:V G.S} (h1:st'.tm=st.tm) (h2:st'.n0=st.n0)
  (h:∀ (w0:World) (Fp:Fx) (okA:Okc) (M:Mem) (ok:Okc) (a:Act) (w:World),MI C w0 Fp okA M ok st.L w->TR w ok M st.tm a ->
   ∃ val w' M' ok',(execOp a.eval o).run C.P w = .ok (.value val) w'/\MI C w0 Fp okA M' ok' st'.L w'/\Ex M ok w M' ok' w'/\VR w' ok' M' v val):H3 C o st v st':=by
 refine ⟨h1,h2,fun w0 Fp okA M ok a w hm ht next Q hk=>?_⟩
 obtain ⟨val,w',M',ok',hr,hm',he,hv⟩:=h w0 Fp okA M ok a w hm ht
 unfold Oper.wp
 rw [hr,Oper.upon_value]
 exact hk val w' M' ok' hm' he hv
theorem Mx {op:UnOp} {x:V G.S} {k:V G.S->Tree G.S} (h:(unV op x k).run G Φ f=some r):
  ∃ v,(∀ (w:World) (ok:Okc) (M:Mem) (vx:Value),VR w ok M x vx->∃ val,(Op.unary op vx).run C.P w = .ok val w/\VR w ok M v val)/\(k v).run G Φ f=some r:=by
 unfold unV at h
 split at h
 ·refine ⟨_,fun w ok M vx hx=>?_,h⟩;cases hx;exact ⟨_,by simp [Op.unary,Op.intArith],.int _ _⟩
 ·refine ⟨_,fun w ok M vx hx=>?_,h⟩;cases hx;exact ⟨_,by simp [Op.unary],.bool _⟩
 ·refine ⟨_,fun w ok M vx hx=>?_,h⟩;cases hx;exact ⟨_,by simp [Op.unary],.lb _⟩
 ·exact al h
theorem tQ {s:TypeId} {i:Nat} {fd:Field} (h:Ao C s i=some fd):∃ fs,C.P.underlying s=some (.struct fs)/\fs[i]?=some fd:=by
 unfold Ao at h
 split at h
 ·rename_i fs hu;exact ⟨fs,hu,h⟩
 ·cases h
theorem jI {s:TypeId} {i:Nat} {fd:Field} {n:Nat} {b off:Nat} {w:World} (h:Ao C s i=some fd) (hs:gW C fd.type=some (n+1)):
  (Instr.fieldAt s (.pointer (some ⟨b,off,none⟩)) i).run C.P w = .ok (.pointer (some ⟨b,off+fd.offset,none⟩)) w:=by
 obtain ⟨fs,hu,hf⟩:=tQ h
 simp [Instr.fieldAt,run_underlying hu,hf,Instr.sureAddr,fieldPlace,dz hs,jW]
theorem JK (hS:bG G) {ts:List TypeId} {ty:TypeId} {x:V G.S} {L:List (Obj G.S)} {n:Int} (h1:Pu C ts x=true) (h2:N6 x L=some n) {w0:World} {Fp:Fx} {okA:Okc} {M:Mem} {ok:Okc} {w:World} (hm:MI C w0 Fp okA M ok L w) {vx:Value} (hx:VR w ok M x vx):
  (Builtin.len_ ts.toArray ty #[vx]).run C.P w = .ok (.int .i64 n) w:=by
 unfold Pu at h1
 split at h1
 ·rename_i t
  split at h1
  ·rename_i s hu
   cases hx with
   | str b=>simp only [N6,Option.some.injEq] at h2;subst h2;simp [Builtin.len_,run_underlying hu,goInt]
  ·rename_i e ty' xs hu
   obtain ⟨rd⟩:=LY hS hx
   obtain ⟨a,c,us,rfl,_,_,_,_⟩:=rd
   simp only [N6,Option.some.injEq] at h2;subst h2;simp [Builtin.len_,run_underlying hu,goInt]
  ·rename_i e e' ty' hu
   cases hx
   simp only [N6,Option.some.injEq] at h2;subst h2;simp [Builtin.len_,run_underlying hu,goInt]
  ·rename_i e o hu
   simp only [N6] at h2
   split at h2
   ·rename_i e' t' xs fz hL
    obtain ⟨rd,_,_⟩:=As hS hm hL hx
    obtain ⟨a,c,us,rfl,_,_,_,_⟩:=rd
    simp only [Option.some.injEq] at h2;subst h2;simp [Builtin.len_,run_underlying hu,goInt]
   ·rename_i e' t' xs hs hL
    obtain ⟨a,c,hM,_⟩:=hm.objs o _ hL
    cases hx with
    | arr _ a' n' c' e2 sz' hM'=>
     rw [hM] at hM';cases hM'
     simp only [Option.some.injEq] at h2;subst h2;simp [Builtin.len_,run_underlying hu,goInt]
   ·cases h2
  ·cases h1
 ·cases h1
theorem DP : ∀ (l:List Int) (b:ByteArray),(l.foldl (fun r n=>r.push (UInt8.ofNat n.toNat)) b).data.toList=b.data.toList++l.map (fun n=>UInt8.ofNat n.toNat)
 | [],b=>by simp
 | n:: l,b=>by
  simp only [List.foldl_cons,List.map_cons]
  rw [DP l]
  simp [ByteArray.push]
theorem Oz {w:World} {ok:Okc} {M:Mem} (e:TypeId) (b:ByteArray) (xs:List Int) (hx:∀ i:Nat,xs[i]?=(b.data.toList[i]?).map fun (x:UInt8)=>(x.toNat:Int)) (hl:xs.length=b.size):
  VR (G:=G) (Lib.bytesWorld w e b) (fun b' off=>ok b' off\/b'=w.heap.size) M (.sl (.int .u8) xs) (.slice (some ⟨w.heap.size,0,none⟩) b.size (grownCap w b.size 0 e)):=by
 rw [<-hl]
 refine .sl1 (.int .u8) xs w.heap.size 0 _ (fun i _=>.int .u8 (b.data.toList.getD i 0).toNat) ?_ (fun i x j y hi hj=>?_) (fun i x j y hi hj=>?_)
 ·show xs.length<=_
  rw [hl];exact grownCap_ge _ _ _ _
 ·have hjl:j=0:=by have:=(List.getElem?_eq_some_iff.1 hj).1;simp [Ty.cells] at this;exact this
  subst hjl
  have hil:i<b.size:=by rw [<-hl];exact (List.getElem?_eq_some_iff.1 hi).1
  refine ⟨?_,.inr rfl⟩
  have:=Lib.bytesWorld_cell w e b i hil
  simpa [Ty.sz] using this
 ·have hjl:j=0:=by have:=(List.getElem?_eq_some_iff.1 hj).1;simp [Ty.cells] at this;exact this
  subst hjl
  simp only [Ty.cells,List.getElem?_cons_zero,Option.some.injEq] at hj
  subst hj
  have hi':xs[i]?=some x:=hi
  rw [hx] at hi'
  cases hbi:b.data.toList[i]? with
  | none=>rw [hbi] at hi';cases hi'
  | some q=>
   rw [hbi] at hi'
   cases hi'
   rw [List.getD_eq_getElem?_getD,hbi]
   exact .int _ _
theorem OA (us:List Value) (ys:List Int) (hl:us.length=ys.length) (h:∀ (i:Nat) (q:Int) (u:Value),ys[i]?=some q->us[i]?=some u->u = .int .u8 q):us=ys.map (Value.int .u8):=by
 apply List.ext_getElem?
 intro i
 rw [List.getElem?_map]
 cases hyi:ys[i]? with
 | none=>
  have:us.length<=i:=by rw [hl];exact List.getElem?_eq_none_iff.1 hyi
  rw [List.getElem?_eq_none this];rfl
 | some q=>
  have hlt:i<us.length:=by rw [hl];exact (List.getElem?_eq_some_iff.1 hyi).1
  rw [List.getElem?_eq_getElem hlt,h i q _ hyi (List.getElem?_eq_getElem hlt)]
  rfl
theorem QJ (ys:List Int) (w:World) (ok:Okc) (M:Mem):VR (G:=G) w ok M (.str (ys.map fun n=>UInt8.ofNat n.toNat)) (.string (ys.foldl (fun r n=>r.push (UInt8.ofNat n.toNat)) ByteArray.empty)):=by
 have:=DP ys ByteArray.empty
 have e0:ByteArray.empty.data.toList=[]:=rfl
 rw [e0,List.nil_append] at this
 rw [<-this]
 exact .str _
theorem My (hS:bG G) {src dst:TypeId} {x:V G.S} {st:St G.S} {k:K G} (h:(Pv C src dst x st k).run G Φ f=some r):
  ∃ v rd wr,(∀ (w0:World) (Fp:Fx) (okA:Okc) (M:Mem) (ok:Okc) (w:World) (vx:Value),MI C w0 Fp okA M ok st.L w->VR w ok M x vx ->
   ∃ val w' M' ok',(convert src dst vx).run C.P w = .ok val w'/\MI C w0 Fp okA M' ok' st.L w'/\Ex M ok w M' ok' w'/\VR w' ok' M' v val)/\(k v st rd wr).run G Φ f=some r:=by
 unfold Pv at h
 split at h
 ·rename_i k1 k2 k3 n hs hd
  refine ⟨_,_,_,fun w0 Fp okA M ok w vx hm hx=>?_,h⟩
  cases hx
  exact ⟨_,w,M,ok,by simp [convert,run_underlying hs,run_underlying hd,Conv.intToInt],hm,Ex.refl _ _ _,.int _ _⟩
 ·rename_i s hs hd
  refine ⟨_,_,_,fun w0 Fp okA M ok w vx hm hx=>?_,h⟩
  cases hx
  exact ⟨_,w,M,ok,by simp [convert,run_underlying hs,run_underlying hd],hm,Ex.refl _ _ _,.str _⟩
 ·rename_i e s hs hd
  split at h
  ·rename_i he
   refine ⟨_,_,_,fun w0 Fp okA M ok w vx hm hx=>?_,h⟩
   cases hx with
   | str b=>
    have hg:∀ k,k<w.heap.size->(Lib.bytesWorld w e b).heap[k]?=w.heap[k]?:=fun k hk=>Lib.bytesWorld_at_old w e b k hk
    have hsz:=Lib.bytesWorld_size w e b
    obtain ⟨hm2,he2⟩:=hm.grow (w':=Lib.bytesWorld w e b) (fun b' off=>b'=w.heap.size) (by simp [Lib.bytesWorld,World.freeze];rfl) (by first | rfl | (simp [Lib.bytesWorld,World.freeze];done) | (simp [Lib.bytesWorld,World.freeze];rfl)) (by simp [Lib.bytesWorld,World.freeze];rfl) (by omega) hg (fun b' off hb=>by omega)
    exact ⟨_,_,M,_,Lib.run_convert_string_bytes w src dst e b hs hd he,hm2,he2,Oz e b (b.data.toList.map fun (x:UInt8)=>(x.toNat:Int)) (fun i=>List.getElem?_map) (by simp)⟩
  ·exact al h
 ·rename_i e hs hd
  split at h
  ·rename_i he
   split at h
   ·rename_i ys hys
    refine ⟨_,_,_,fun w0 Fp okA M ok w vx hm hx=>?_,h⟩
    obtain ⟨rd⟩:=L0 hS hm hys hx
    obtain ⟨a,c,us,rfl,hl,hcell,_,hel⟩:=rd
    have hl':us.length=ys.length:=by simpa [Ty.sz] using hl
    have hus:=OA us ys hl' (fun i q u hq hu=>by
     have h1:=hel i q 0 _ u hq rfl (by simpa [Ty.sz] using hu)
     cases h1
     rfl)
    refine ⟨.string (ys.foldl (fun r n=>r.push (UInt8.ofNat n.toNat)) ByteArray.empty),w,M,ok,?_,hm,Ex.refl _ _ _,?_⟩
    ·rw [run_convert_bytes_string w src dst e a ys.length c hs he hd]
     cases a with
     | none=>
      have:ys=[]:=by
       cases ys with
       | nil=>rfl
       | cons q qs => 
        have hlt:0<us.length:=by rw [hl'];simp
        obtain ⟨ad,h1,_⟩:=hcell 0 us[0] (List.getElem?_eq_getElem hlt)
        cases h1
      subst this
      simp [Conv.bytesToString]
     | some ad=>
      have hld:=run_loadCells_list (P:=C.P) w ad us (fun j v hj=>by obtain ⟨ad',h1,h2⟩:=hcell j v hj;cases h1;exact h2)
      rw [hl',hus] at hld
      exact run_bytesToString w ad ys.length c ys hld
    ·exact QJ ys _ _ _
   ·exact al h
  ·exact al h
 ·rename_i k1 k2 n hs hd
  obtain ⟨s,hc,h⟩:=bT h
  refine ⟨_,_,_,fun w0 Fp okA M ok w vx hm hx=>?_,h⟩
  cases hx
  unfold chr at hc
  split at hc
  ·rename_i hn
   cases hc
   refine ⟨_,w,M,ok,run_convert_int_string w src dst _ n (by rw [hs];rfl) hd,hm,Ex.refl _ _ _,?_⟩
   have:(Utf8.encode n).data.toList=[UInt8.ofNat n.toNat]:=by
    have hv:Utf8.valid n=true:=by simp only [Utf8.valid,Bool.or_eq_true,Bool.and_eq_true,decide_eq_true_eq];left;omega
    unfold Utf8.encode
    simp only [if_pos hv]
    have hlt:n.toNat<0x80:=by omega
    simp only [if_pos hlt]
   rw [<-this]
   exact .str _
  ·cases hc
 ·exact al h
end
end Go.Dv

namespace Go.Dv
open Go
section
variable {G:Sig} {C:Cfg G} {Φ:FuncId->List Item->St G.S->Option (Ret G.S)} {f:FuncId} {r:Ret G.S}
theorem tR {P:Program} {w:World} {t e:TypeId} {sz n b off len c:Nat} {k:IntKind} (hu:P.underlying t=some (.slice e)) (hs:(sizeOf e).run P w = .ok sz w) (hn:n<len):
  (Instr.indexAt t (.slice (some ⟨b,off,none⟩) len c) (.int k (n:Int))).run P w = .ok (.pointer (some ⟨b,off+n*sz,none⟩)) w:=by
 simp [Instr.indexAt,asIntOf,run_underlying hu,hs,jW]
 intro h;omega
theorem tl (hS:bG G) {t:TypeId} {x i:V G.S} {st:St G.S} {k:K G} (h:(jH C t x i st k).run G Φ f=some r):
  ∃ v rd wr,(∀ (w0:World) (Fp:Fx) (okA:Okc) (M:Mem) (ok:Okc) (w:World) (vx vi:Value),MI C w0 Fp okA M ok st.L w->VR w ok M x vx->VR w ok M i vi ->
   ∃ val,(Instr.indexAt t vx vi).run C.P w = .ok val w/\VR w ok M v val)/\(k v st rd wr).run G Φ f=some r:=by
 unfold jH at h
 split at h
 ·rename_i ki n
  split at h
  ·rename_i e he
   have hu:=fm he
   split at h
   ·rename_i sz ty xs hs
    split at h
    ·rename_i hz
     subst hz
     obtain ⟨x,hx,h'⟩:=bT h
     obtain ⟨m,rfl,hm⟩:=yJ hx
     refine ⟨_,_,_,fun w0 Fp okA M ok w vx vi hmi hvx hvi=>?_,h'⟩
     cases hvi
     cases hvx with
     | sl0=>simp at hm
     | sl1 _ _ b off c u hc h1 h2=>
      have hlt:=(List.getElem?_eq_some_iff.1 hm).1
      refine ⟨_,tR hu (dz hs) hlt,.pc _ b _ (fun j=>u m j) (fun j y hj=>?_) (fun j y hj=>h2 m x j y hm hj)⟩
      have:=h1 m x j y hm hj
      rw [Nat.add_assoc];exact this
    ·exact al h
   ·rename_i sz o hs
    split at h
    ·rename_i e' ty xs fz hL
     split at h
     ·rename_i hz
      subst hz
      obtain ⟨x,hx,h'⟩:=bT h
      obtain ⟨m,rfl,hm⟩:=yJ hx
      refine ⟨_,_,_,fun w0 Fp okA M ok w vx vi hmi hvx hvi=>?_,h'⟩
      cases hvi
      obtain ⟨⟨a,c,us,rfl,_,_,_,_⟩,hM,hown⟩:=As hS hmi hL hvx
      dsimp only at hM hown
      have hlt:=(List.getElem?_eq_some_iff.1 hm).1
      rcases hown.2 with ⟨_,h2⟩ | ⟨g,cap,cur,h1,_⟩
      ·rw [h2] at hlt;omega
      ·simp only [Value.slice.injEq,true_and] at h1
       obtain ⟨rfl,rfl⟩:=h1
       refine ⟨_,tR hu (dz hs) hlt,?_⟩
       rw [Nat.zero_add]
       exact .pe o m 0 g xs.length c e' (Ty.sz G ty) hM
     ·exact al h
    ·rename_i e' ty xs hs' hL
     split at h
     ·rename_i hz
      subst hz
      obtain ⟨x,hx,h'⟩:=bT h
      obtain ⟨m,rfl,hm⟩:=yJ hx
      refine ⟨_,_,_,fun w0 Fp okA M ok w vx vi hmi hvx hvi=>?_,h'⟩
      cases hvi
      obtain ⟨a,c,hM,us,FF,hown,_⟩:=hmi.objs o _ hL
      cases hvx with
      | arr _ a' n' c' e2 sz' hM'=>
       rw [hM] at hM';cases hM'
       have hlt:=(List.getElem?_eq_some_iff.1 hm).1
       rcases hown.2 with ⟨_,h2⟩ | ⟨g,cap,cur,h1,_⟩
       ·rw [h2] at hlt;omega
       ·simp only [Value.slice.injEq,true_and] at h1
        obtain ⟨rfl,rfl⟩:=h1
        refine ⟨_,tR hu (dz hs) hlt,?_⟩
        rw [Nat.zero_add]
        exact .pe o m 0 g xs.length c e' (Ty.sz G ty) hM
     ·exact al h
    ·exact al h
   ·exact al h
  ·exact al h
 ·exact al h
theorem Ib {P:Program} {w:World} {t e:TypeId} {sz n b off len:Nat} {k:IntKind} (hu:P.underlying t=some (.array len e)) (hs:(sizeOf e).run P w = .ok sz w) (hn:n<len):
  (Instr.indexAt t (.pointer (some ⟨b,off,none⟩)) (.int k (n:Int))).run P w = .ok (.pointer (some ⟨b,off+n*sz,none⟩)) w:=by
 simp [Instr.indexAt,asIntOf,run_underlying hu,hs,jW,Instr.sureAddr]
 intro h;omega
theorem Eq (hS:bG G) {t:TypeId} {x i:V G.S} {st:St G.S} {k:K G} (h:(u0 C t x i st k).run G Φ f=some r):
  ∃ v st' rd wr,st'.tm=st.tm/\st'.n0=st.n0/\(wr=[]->st'.L=st.L)/\(∀ (w0:World) (Fp:Fx) (okA:Okc) (M:Mem) (ok:Okc) (w:World) (vx vi:Value),MI C w0 Fp okA M ok st.L w->VR w ok M x vx->VR w ok M i vi ->
   ∃ val ok',(Instr.indexAt t vx vi).run C.P w = .ok val w/\MI C w0 Fp okA M ok' st'.L w/\Ex M ok w M ok' w/\VR w ok' M v val)/\(k v st' rd wr).run G Φ f=some r:=by
 unfold u0 at h
 split at h
 ·rename_i m e hu
  split at h
  ·rename_i o off ki n
   split at h
   ·rename_i ty sz cs hty hsz hsn
    split at h
    ·rename_i hc
     obtain ⟨rfl,hsc,hlen⟩:=hc
     split at h
     ·rename_i xs hxs
      obtain ⟨y,hy,h'⟩:=bT h
      obtain ⟨j,rfl,hj⟩:=yJ hy
      refine ⟨_,_,_,_,?_,?_,fun e=>?_,fun w0 Fp okA M ok w vx vi hm hx hi=>?_,h'⟩
      ·rfl
      ·rfl
      ·simp only [e,ov]
      obtain ⟨hm1,he1⟩:=hm.freeze hS (iI st.L 2 (.ref o off))
      have hv:=tP hS hm 2 _ _ _ (iI st.L 2 (.ref o off)) hsn (fun o ho=>by simpa using ho) hx
      cases hi
      obtain ⟨hl,hg⟩:=va hxs
      obtain ⟨c,hcj,hpc⟩:=hg j y hj
      have hjm:j<m:=by rw [<-hlen];exact (List.getElem?_eq_some_iff.1 hcj).1
      cases hv with
      | pc _ b off' u h1 h2=>
       refine ⟨_,_,Ib hu (dz hsz) hjm,hm1,he1,?_⟩
       refine .pc _ b _ (fun q=>u (j+q)) (fun q z hq=>?_) (fun q z hq=>?_)
       ·cases q with
        | zero=>have:=h1 j c hcj;rw [Nat.mul_one];exact this
        | succ q=>simp at hq
       ·cases q with
        | zero=>
         simp at hq
         subst hq
         exact (tj hS hpc (h2 j c hcj)).2
        | succ q=>simp at hq
     ·exact al h
    ·exact al h
   ·exact al h
  ·exact al h
 ·exact al h
theorem Ge {p q:Nat->Option (Nat×Nat)} (hpq:∀ i x,p i=some x->q i=some x):∀ (l:List (Nat×Value)) (z r:Array Value),Instr.fill p z l=some r->Instr.fill q z l=some r
 | [],z,r,h=>h
 | (i,v):: l,z,r,h=>by
  unfold Instr.fill at h ⊢
  cases hp:p i with
  | none=>simp [hp] at h
  | some x=>
   rw [hpq i x hp]
   rw [hp] at h
   obtain ⟨off,size⟩:=x
   simp only at h ⊢
   split at h
   ·cases h
   ·rename_i hc
    rw [if_neg hc]
    exact Ge hpq l _ r h
theorem Gf : ∀ (fs:List Field) (l:List (TypeId×Nat×Nat)),Ap.go C fs=some l->∀ w,(fs.mapM fun f=>do pure (f.offset,<-sizeOf f.type):Sem (List (Nat×Nat))).run C.P w = .ok (l.map (·.2)) w
 | [],l,h,w=>by simp [Ap.go] at h;subst h;simp
 | fd:: fs,l,h,w=>by
  simp only [Ap.go] at h
  split at h
  ·rename_i s l' hs hl
   cases h
   have ih:=Gf fs l' hl w
   simp at ih
   rw [List.mapM_cons]
   simp [dz hs,ih]
  ·cases h
theorem JL {w0:World} {Fp:Fx} {okA:Okc} {M:Mem} {ok:Okc} {st:St G.S} {a:Act} {w:World} (hm:MI C w0 Fp okA M ok st.L w) (ht:TR w ok M st.tm a) {pl:List (TypeId×Nat×Nat)}:∀ (ps:List (Nat×Operand)) (l:List (Nat×V G.S)),Ed C st pl ps=some l ->
  l.map (·.1)=(ps.map fun (i,x)=>(i,a.eval x)).map (·.1)/\VRs w ok M (l.map (·.2)) ((ps.map fun (i,x)=>(i,a.eval x)).map (·.2))
 | [],l,h=>by simp [Ed] at h;subst h;exact ⟨rfl,.nil⟩
 | (i,x):: r,l,h=>by
  simp only [Ed] at h
  split at h
  ·rename_i t q l' h1 h2
   cases h
   obtain ⟨g1,g2⟩:=JL hm ht r l' h2
   refine ⟨by simp only [List.map_cons,g1],?_⟩
   exact .cons (ce hm ht t x) g2
  ·cases h
theorem Gg {w0:World} {Fp:Fx} {okA:Okc} {M:Mem} {ok:Okc} {st:St G.S} {a:Act} {w:World} (hm:MI C w0 Fp okA M ok st.L w) (ht:TR w ok M st.tm a) {t:TypeId} {ps:Array (Nat×Operand)}
  {z cs:List (V G.S)} {pl:List (TypeId×Nat×Nat)} {l:List (Nat×V G.S)} (hz:zb C t=some z) (hp:Ap C t=some pl) (hl:Ed C st pl ps.toList=some l) (hf:Kq (fun i=>(pl[i]?).map (·.2)) z l=some cs):
  ∃ val,(Instr.build t (ps.map fun (i,x)=>(i,a.eval x))).run C.P w = .ok val w/\VR w ok M (.ag cs) val:=by
 obtain ⟨zv,hzr,hzv⟩:=Ej hz
 obtain ⟨h1,h2⟩:=JL hm ht _ _ hl
 obtain ⟨zs',hfill,hcs⟩:=JD hf (hzv w ok M) h1 h2
 rw [Array.toArray_toList] at hfill
 refine ⟨.agg zs',?_,by have:=VR.ag (w:=w) (ok:=ok) (M:=M) cs zs'.toList hcs.1 hcs.2;simpa using this⟩
 unfold Ap at hp
 split at hp
 ·rename_i fs hu
  have hg:=Gf _ _ hp w
  have hfill':Instr.fill (fun i=>(pl.map (·.2)).toArray[i]?) zv.cells (ps.map fun (i,x)=>(i,a.eval x)).toList=some zs':=by
   rw [Array.toList_map,<-hfill]
   congr 1
   funext i
   simp
  have hmap:(fs.mapM fun f=>do pure (f.offset,<-sizeOf f.type):Sem (Array (Nat×Nat))).run C.P w = .ok (pl.map (·.2)).toArray w:=by
   simp at hg
   rw [Array.mapM_eq_mapM_toList]
   simp [hg]
  simp at hmap
  simp [Instr.build,hzr,run_underlying hu,hmap]
  simp at hfill'
  simp [hfill']
 ·rename_i n e hu
  split at hp
  ·rename_i s hs
   cases hp
   have hfill':Instr.fill (fun i=>some (i*s,s)) zv.cells (ps.map fun (i,x)=>(i,a.eval x)).toList=some zs':=by
    rw [Array.toList_map]
    refine Ge (fun i x hx=>?_) _ _ _ hfill
    simp only [List.getElem?_map,Option.map_map] at hx
    cases hr:(List.range n)[i]? with
    | none=>rw [hr] at hx;cases hx
    | some j=>
     rw [hr] at hx
     have hj:j=i:=by
      obtain ⟨hlt,he⟩:=List.getElem?_eq_some_iff.1 hr
      simp at he;exact he.symm
     subst hj
     exact hx
   simp at hfill'
   simp [Instr.build,hzr,run_underlying hu,dz hs,hfill']
  ·cases hp
 ·cases hp
theorem vf {P:Program} {w:World} {t:TypeId} {s:ByteArray} {k:IntKind} {n:Nat} {b:UInt8} (hu:P.underlying t=some .string) (hb:s.data.toList[n]?=some b):
  (Instr.index t (.string s) (.int k (n:Int))).run P w = .ok (.int .u8 b.toNat) w:=by
 have hb':s[n]?=some b:=by
  obtain ⟨h1,h2⟩:=List.getElem?_eq_some_iff.1 hb
  have hlt:n<s.size:=by simpa using h1
  rw [getElem?_pos s n hlt]
  simp only [Option.some.injEq]
  rw [<-h2]
  rfl
 simp [Instr.index,asIntOf,run_underlying hu,hb']
theorem vj {P:Program} {w:World} {t e:TypeId} {m n:Nat} {l:Array Value} {k:IntKind} {v:Value} (hu:P.underlying t=some (.array m e)) (hs:(sizeOf e).run P w = .ok 1 w) (ha:(isAgg e).run P w = .ok false w) (hn:n<m) (hv:l[n]?=some v):
  (Instr.index t (.agg l) (.int k (n:Int))).run P w = .ok v w:=by
 simp [Instr.index,asIntOf,run_underlying hu,hs,Go.part,ha,hv,hn]
theorem JM : ∀ {ts:List TypeId} {vs:List Value} {cs:List (V G.S)},Lt C ts vs=some cs->cs.all V.one=true
  | [],[],cs,h=>by simp [Lt] at h;subst h;rfl
  | t :: ts,v:: vs,cs,h=>by
    simp only [Lt] at h
    split at h
    · rename_i x y hx hy
      cases h
      have:x.one=true:=by
        unfold N4 at hx
        split at hx
        all_goals first
          | (cases hx;rfl)
          | (split at hx<;>first
              | (split at hx<;>first | (cases hx;rfl) | (cases hx;done))
              | (cases hx;done))
          | (cases hx;done)
      simp only [List.all_cons,this,JM hy,Bool.and_self]
    · cases h
  | [],_:: _,cs,h=>by simp [Lt] at h
  | _:: _,[],cs,h=>by simp [Lt] at h
theorem Mz {t:TypeId} {cs:List (V G.S)} (h:zb C t=some cs):cs.all V.one=true:=by
 unfold zb at h
 split at h
 ·split at h
  ·exact JM h
  ·cases h
 ·cases h
theorem PL {M:Mem} {ok:Okc} {L:List (Obj G.S)} {w:World}:Ex M (okF M ok L []) w M ok w:=
 ⟨fun _ _ h=>h,fun b off u h hc=>⟨by
  rcases h with h | ⟨o,ob,h1,_⟩
  ·exact h
  ·simp at h1,hc⟩⟩
theorem OB (z:Array Value) (n i j:Nat) (hj:j<z.size) (hi:i<n):(madeCells z (n*z.size)).toList[i*z.size+j]?=z.toList[j]?:=by
  have hlt:i*z.size+j<n*z.size:=by
    calc i*z.size+j<i*z.size+z.size:=by omega
      _=(i+1)*z.size:=by rw [Nat.add_mul,Nat.one_mul]
      _<=n*z.size:=Nat.mul_le_mul_right _ hi
  have hmod:(i*z.size+j) % z.size=j:=by rw [Nat.mul_comm,Nat.mul_add_mod];exact Nat.mod_eq_of_lt hj
  simp [madeCells,hlt,hmod,hj]
theorem Er (hS:bG G) {t e:TypeId} {ty:Ty} {z:List (V G.S)} {x:ty.den G.S} {n:Nat} (hu:C.P.underlying t=some (.slice e)) (hb:fR C e=true) (hs:gW C e=some (Ty.sz G ty)) (hz:zb C e=some z) (hn:n<=big)
    {st:St G.S} (hre:(bH st.L z)=[]) (hx:Cz st.L ty z=some x) {w0:World} {Fp:Fx} {okA:Okc} {M:Mem} {ok:Okc} {w:World} (hm:MI C w0 Fp okA M ok st.L w) (k1 k2:IntKind):
    ∃ val w' M',(Instr.makeSlice t (.int k1 (n:Int)) (.int k2 (n:Int))).run C.P w = .ok val w'/\MI C w0 Fp okA M' ok (st.L++[.arr e ty (List.replicate n x) false]) w'/\Ex M ok w M' ok w'/\VR (G:=G) w' ok M' (.arr st.L.length) val:=by
  obtain ⟨i,zv,hi,hzi,h128,hpos,hzc⟩:=mX hb
  obtain ⟨i',hi',his⟩:=rV hs
  rw [hi] at hi';cases hi'
  obtain ⟨i2,zv2,hi2,hz2,hzv⟩:=KF hz
  rw [hi] at hi2;cases hi2
  rw [hzi] at hz2;cases hz2
  have hbb:big=68719476736:=rfl
  obtain ⟨w',hr,hown,hgrow⟩:=run_make_full (P:=C.P) w 0 t e i zv (Ty.sz G ty) hu hi hzi his k1 k2 n (by
    calc i.bytes*n<=2048*big:=Nat.mul_le_mul h128 hn
      _<=281474976710656:=by rw [hbb];omega) (by unfold maxLen;omega) (Nat.zero_le _)
  have hg:∀ k,k<w.heap.size->w'.heap[k]?=w.heap[k]?:=fun k hk=>hgrow.block k hk (by simp)
  have he:=hm.ex_push (w':=w') (.arr (some ⟨w.heap.size,0,none⟩) n n e (Ty.sz G ty)) hg
  have hel:=(JB hS hm (os:=[]) hx (fun o ho=>by rw [hre] at ho;cases ho) ((hzv w ok M).one (Mz hz)) (hzv w ok M)).mono PL
  have hzs:zv.cells.size=Ty.sz G ty:=by rw [hzc,his]
  refine ⟨_,w',_,hr,hm.push (.arr (some ⟨w.heap.size,0,none⟩) n n e (Ty.sz G ty)) (.arr e ty (List.replicate n x) false) hgrow.os hgrow.tape hgrow.output hgrow.size hg ?_ ?_,he,.arr _ _ n n e (Ty.sz G ty) (bR _ _ _)⟩
  · refine ⟨some ⟨w.heap.size,0,none⟩,n,_,by rw [List.length_replicate];exact bR _ _ _,by rw [List.length_replicate];exact hown,by rw [<-his];exact hpos,fun i y j c u h1 h2 h3=>?_⟩
    have hil:=(List.getElem?_eq_some_iff.1 h1).1
    rw [List.length_replicate] at hil
    rw [List.getElem?_replicate,if_pos hil] at h1
    cases h1
    have hjl:=(List.getElem?_eq_some_iff.1 h2).1
    rw [dQ hS] at hjl
    rw [<-hzs,OB _ _ _ _ (by rw [hzs];exact hjl) hil] at h3
    exact (hel.2 j c u h2 h3).mono he
  · intro b hb
    simp [MB.blk] at hb
    omega
theorem KI (hS:bG G) {t e:TypeId} {ty:Ty} {z us:List (V G.S)} {x:ty.den G.S} {n:Nat} (hu:C.P.underlying t=some (.slice e)) (hb:fR C e=true) (hs:gW C e=some (Ty.sz G ty)) (hz:zb C e=some z) (hn:n<=big)
  {st:St G.S} (hoc:Ac st.L z=some (us,[])) (hx:Sy ty us=some x) {w0:World} {Fp:Fx} {okA:Okc} {M:Mem} {ok:Okc} {w:World} (hm:MI C w0 Fp okA M ok st.L w) (k1 k2:IntKind):
  ∃ val w' M',(Instr.makeSlice t (.int k1 (n:Int)) (.int k2 (n:Int))).run C.P w = .ok val w'/\MI C w0 Fp okA M' ok (st.L++[.tr e ty (List.replicate n x) []]) w'/\Ex M ok w M' ok w'/\VR (G:=G) w' ok M' (.arr st.L.length) val:=by
 cases hoc
end
end Go.Dv

namespace Go.Dv
open Go
section
variable {G:Sig} {C:Cfg G} {Φ:FuncId->List Item->St G.S->Option (Ret G.S)} {f:FuncId} {r:Ret G.S}
theorem JN {L:List (Obj G.S)} {t:Ty}:∀ {vs:List (V G.S)} {xs:List (t.den G.S)},HZ L t vs=some xs->xs.length=vs.length/\∀ (j:Nat) (x:t.den G.S),xs[j]?=some x->∃ v,vs[j]?=some v/\dat L t v=some x
 | [],xs,h=>by simp [HZ] at h;subst h;exact ⟨rfl,fun j x hj=>by simp at hj⟩
 | v:: vs,xs,h=>by
  simp only [HZ] at h
  split at h
  ·rename_i x hx
   split at h
   ·rename_i l hl
    cases h
    obtain ⟨h1,h2⟩:=JN hl
    refine ⟨by simp [h1],fun j y hj=>?_⟩
    cases j with
    | zero=>simp at hj;subst hj;exact ⟨v,rfl,hx⟩
    | succ j=>simp at hj;exact h2 j y hj
   ·cases h
  ·cases h
theorem DQ {L:List (Obj G.S)} {o:Nat}:∀ {vs:List (V G.S)} {v:V G.S},v∈vs->o∈iI L 20 v->o∈bH L vs
 | a:: vs,v,hv,ho=>by
  simp only [bH,List.mem_append]
  cases hv with
  | head=>exact .inl ho
  | tail _ hv=>exact .inr (DQ hv ho)
theorem Gh : ∀ (ps:List (Nat×Value)) (k:Nat),ps.map (·.1)=List.range' k ps.length->ps=((ps.map (·.2)).zipIdx k).map fun x=>(x.2,x.1)
 | [],k,_=>rfl
 | (i,v):: ps,k,h=>by
  simp only [List.map_cons,List.length_cons,List.range'_succ,List.cons.injEq] at h
  obtain ⟨rfl,h⟩:=h
  simp only [List.map_cons,List.zipIdx_cons,List.cons.injEq,true_and]
  exact Gh ps (i+1) h
theorem lX (hS:bG G) {w0:World} {Fp:Fx} {okA:Okc} {M:Mem} {ok:Okc} {st:St G.S} {a:Act} {w:World} (hm:MI C w0 Fp okA M ok st.L w) (ht:TR w ok M st.tm a) {t e:TypeId} {ty:Ty} {n:Nat} {ps:Array (Nat×Operand)}
    {xs:List (ty.den G.S)} (hu:C.P.underlying t=some (.slice e)) (hs:gW C e=some (Ty.sz G ty)) (hbig:n*Ty.sz G ty<=16777216) (hb:fR C e=true) (hps:ps.toList.map (·.1)=List.range n)
    (hx:HZ st.L ty (ps.toList.map fun (_,x)=>opd C st e x)=some xs):
    ∃ val w' M',(Instr.buildSlice t n (ps.map fun (i,x)=>(i,a.eval x))).run C.P w = .ok val w' /\
      MI C w0 Fp okA M' (okF M ok st.L (bH st.L (ps.toList.map fun (_,x)=>opd C st e x))) (freeze st.L (bH st.L (ps.toList.map fun (_,x)=>opd C st e x))++[.arr e ty xs false]) w'/\Ex M ok w M' (okF M ok st.L (bH st.L (ps.toList.map fun (_,x)=>opd C st e x))) w'/\VR (G:=G) w' (okF M ok st.L (bH st.L (ps.toList.map fun (_,x)=>opd C st e x))) M' (.arr st.L.length) val /\
      (∀ b,hasB M' st.L.length b->b=w.heap.size)/\∃ cells,w'=w.alloc (.cells cells e):=by
  obtain ⟨i,zv,hi,hzi,h128,hpos,hzc⟩:=mX hb
  obtain ⟨i',hi',his⟩:=rV hs
  rw [hi] at hi';cases hi'
  obtain ⟨hm2,he2⟩:=hm.freeze hS (bH st.L (ps.toList.map fun (_,x)=>opd C st e x))
  obtain ⟨hxl,hxg⟩:=JN hx
  have hlen:ps.toList.length=n:=by have:=congrArg List.length hps;simpa using this
  rw [List.length_map,hlen] at hxl
  -- the values
  have hvals:∀ (j:Nat) (x:ty.den G.S),xs[j]?=some x->∃ v,(ps.toList.map fun p=>a.eval p.2)[j]?=some v/\VRs w (okF M ok st.L (bH st.L (ps.toList.map fun (_,x)=>opd C st e x))) M (Ty.cells G ty x) v.cells.toList:=by
    intro j x hj
    obtain ⟨v,hv,hd⟩:=hxg j x hj
    rw [List.getElem?_map] at hv
    cases hp:ps.toList[j]? with
    | none=>rw [hp] at hv;cases hv
    | some p=>
      rw [hp] at hv
      simp only [Option.map_some,Option.some.injEq] at hv
      subst hv
      refine ⟨a.eval p.2,by rw [List.getElem?_map,hp];rfl,?_⟩
      exact (Pb hS hm hd (fun o ho=>by rw [List.contains_iff_mem];exact DQ (List.mem_map.2 ⟨p,List.mem_of_getElem? hp,rfl⟩) ho) (ce hm ht e p.2)).1
  have hvl:(ps.toList.map fun p=>a.eval p.2).length=n:=by simpa using hlen
  have hsz:∀ v∈(ps.toList.map fun p=>a.eval p.2),v.cells.size=Ty.sz G ty:=by
    intro v hv
    obtain ⟨j,hj⟩:=List.mem_iff_getElem?.1 hv
    have hjl:j<xs.length:=by rw [hxl,<-hvl];exact (List.getElem?_eq_some_iff.1 hj).1
    obtain ⟨v',h1,h2⟩:=hvals j xs[j] (List.getElem?_eq_getElem hjl)
    rw [hj] at h1;cases h1
    rw [<-Array.length_toList,<-h2.1,dQ hS]
  have hpl:(ps.map fun (i,x)=>(i,a.eval x)).toList=((ps.toList.map fun p=>a.eval p.2).zipIdx 0).map fun x=>(x.2,x.1):=by
    rw [Array.toList_map]
    have:=Gh (ps.toList.map fun (i,x)=>(i,a.eval x)) 0 (by
      rw [List.map_map,List.length_map,hlen,<-List.range_eq_range',<-hps]
      rfl)
    rw [this]
    congr 2
    rw [List.map_map]
    rfl
  have hspos:0<Ty.sz G ty:=by rw [<-his];exact hpos
  -- the run
  have hrun:∃ cells:Array Value,(Instr.buildSlice t n (ps.map fun (i,x)=>(i,a.eval x))).run C.P w = .ok (.slice (some ⟨w.heap.size,0,none⟩) n n) (w.alloc (.cells cells e))/\cells.size=n*Ty.sz G ty /\
      ∀ (j:Nat) (v:Value) (c:Nat),(ps.toList.map fun p=>a.eval p.2)[j]?=some v->c<Ty.sz G ty->cells.toList[j*Ty.sz G ty+c]?=v.cells.toList[c]?:=by
    obtain ⟨cells,h1,h2,h3⟩:=Great.fill_dense hspos (ps.toList.map fun p=>a.eval p.2) 0 ((Array.range (n*Ty.sz G ty)).map (zv.cells[· % zv.cells.size]!)) hsz (by rw [Nat.zero_add,hvl];simp)
    have hcs:cells.size=n*Ty.sz G ty:=by rw [h2];simp
    refine ⟨cells,?_,hcs,fun j v c hj hc=>?_⟩
    · rcases Nat.eq_zero_or_pos n with hn | hn
      · subst hn
        have hps0:ps.toList=[]:=List.eq_nil_of_length_eq_zero hlen
        have hps1:ps=#[]:=by rw [<-Array.toArray_toList (xs:=ps),hps0]
        have hc0:cells=#[]:=by apply Array.eq_empty_of_size_eq_zero;rw [hcs,Nat.zero_mul]
        subst hps1;subst hc0
        simp [Instr.buildSlice,run_underlying hu,sizeOf,typeInfo,hi,Instr.fill,newRow]
        rw [show Array.range 0=#[] from Array.eq_empty_of_size_eq_zero (by simp),Array.map_empty]
      · rw [<-his] at h1
        exact run_buildSlice w t e n _ cells i zv hu hi hzi (by rw [his];omega) (by rw [his];have:=Nat.mul_pos hn hspos;omega) (by rw [hpl];exact h1)
    · have hjl:j<n:=by rw [<-hvl];exact (List.getElem?_eq_some_iff.1 hj).1
      have hlt:j*Ty.sz G ty+c<n*Ty.sz G ty:=by
        calc j*Ty.sz G ty+c<j*Ty.sz G ty+Ty.sz G ty:=by omega
          _=(j+1)*Ty.sz G ty:=by rw [Nat.add_mul,Nat.one_mul]
          _<=n*Ty.sz G ty:=Nat.mul_le_mul_right _ hjl
      have:=h3 (j*Ty.sz G ty+c)
      rw [if_pos ⟨by omega,by rw [Nat.zero_add,hvl];exact hlt⟩] at this
      have e1:(j*Ty.sz G ty+c) / Ty.sz G ty=j:=by
        rw [Nat.mul_comm,Nat.mul_add_div hspos];simp [Nat.div_eq_of_lt hc]
      have e2:(j*Ty.sz G ty+c) % Ty.sz G ty=c:=by
        rw [Nat.mul_comm,Nat.mul_add_mod];exact Nat.mod_eq_of_lt hc
      rw [e1,e2,Nat.sub_zero,hj] at this
      simp only [Option.bind_some] at this
      rw [Array.getElem?_toList,Array.getElem?_toList]
      exact this
  obtain ⟨cells,hr,hcs,hcg⟩:=hrun
  have hg:∀ k,k<w.heap.size->(w.alloc (.cells cells e)).heap[k]?=w.heap[k]?:=fun k hk=>lW w _ k hk
  have he:=hm2.ex_push (w':=w.alloc (.cells cells e)) (.arr (some ⟨w.heap.size,0,none⟩) n n e (Ty.sz G ty)) hg
  rw [cr] at he
  have hbb:maxLen=9223372036854775807:=rfl
  have hnb:n<=16777216:=by
    calc n=n*1:=(Nat.mul_one n).symm
      _<=n*Ty.sz G ty:=Nat.mul_le_mul_left _ hspos
      _<=_:=hbig
  have hpush:=hm2.push (w':=w.alloc (.cells cells e)) (.arr (some ⟨w.heap.size,0,none⟩) n n e (Ty.sz G ty)) (.arr e ty xs false) rfl rfl rfl (by simp) hg (by
      rw [cr]
      refine ⟨some ⟨w.heap.size,0,none⟩,n,cells.toList,by rw [hxl];exact bR _ _ _,by rw [hxl];exact World.ownsRow_lit w cells n (Nat.zero_le _) (by omega) hcs,hspos,fun i x j y u h1 h2 h3=>?_⟩
      obtain ⟨v,hv,hvr⟩:=hvals i x h1
      have hjl:=(List.getElem?_eq_some_iff.1 h2).1
      rw [dQ hS] at hjl
      rw [hcg i v j hv hjl] at h3
      exact (hvr.2 j y u h2 h3).mono he) (fun b hb=>by simp [MB.blk] at hb;omega)
  rw [cr] at hpush
  exact ⟨_,_,_,hr,hpush,he2.trans he,.arr _ _ n n e (Ty.sz G ty) (bR _ _ _),fun b hb=>by rw [kv] at hb;simpa [MB.blk] using hb.symm,cells,rfl⟩
theorem tn (hS:bG G) {w0:World} {Fp:Fx} {okA:Okc} {M:Mem} {ok:Okc} {st:St G.S} {a:Act} {w:World} (hm:MI C w0 Fp okA M ok st.L w) (ht:TR w ok M st.tm a) {t e:TypeId} {ty:Ty} {n:Nat} {ps:Array (Nat×Operand)}
  {xs:List (ty.den G.S)} (hu:C.P.underlying t=some (.slice e)) (hs:gW C e=some (Ty.sz G ty)) (hbig:n*Ty.sz G ty<=16777216) (hb:fR C e=true) (hps:ps.toList.map (·.1)=List.range n)
  (hx:HZ st.L ty (ps.toList.map fun (_,x)=>opd C st e x)=some xs):
  ∃ val w' M' ok',(Instr.buildSlice t n (ps.map fun (i,x)=>(i,a.eval x))).run C.P w = .ok val w' /\
   MI C w0 Fp okA M' ok' (freeze st.L (bH st.L (ps.toList.map fun (_,x)=>opd C st e x))++[.arr e ty xs false]) w'/\Ex M ok w M' ok' w'/\VR (G:=G) w' ok' M' (.arr st.L.length) val:=by
 obtain ⟨val,w',M',h1,h2,h3,h4,_⟩:=lX hS hm ht hu hs hbig hb hps hx
 exact ⟨val,w',M',_,h1,h2,h3,h4⟩
theorem AC (hS:bG G) {w0:World} {Fp:Fx} {okA:Okc} {M:Mem} {ok:Okc} {st:St G.S} {a:Act} {w:World} (hm:MI C w0 Fp okA M ok st.L w) (ht:TR w ok M st.tm a) {t e:TypeId} {ty:Ty} {n:Nat} {ps:Array (Nat×Operand)}
  {xs:List (ty.den G.S)} {ids:List Nat} (hu:C.P.underlying t=some (.slice e)) (hs:gW C e=some (Ty.sz G ty)) (hbig:n*Ty.sz G ty<=16777216) (hb:fR C e=true) (hps:ps.toList.map (·.1)=List.range n)
  (hx:Js st.L ty (ps.toList.map fun (_,x)=>opd C st e x)=some (xs,ids)) (hnd:ids.Nodup):
  ∃ val w' M',(Instr.buildSlice t n (ps.map fun (i,x)=>(i,a.eval x))).run C.P w = .ok val w' /\
   MI C w0 Fp okA M' ok (kU st.L ids++[.tr e ty xs []]) w'/\Ex M ok w M' ok w'/\VR (G:=G) w' ok M' (.arr st.L.length) val:=by
 cases hx
theorem yM (hS:bG G) {b:Builtin} {ts:List TypeId} {ty:TypeId} {cs:Array Bool} {args:List (V G.S)} {st:St G.S} {k:K G} (h:(Ad C b ts args st k).run G Φ f=some r):
  ∃ v st' rd wr,st'.tm=st.tm/\st'.n0=st.n0/\(b ≠ .append->st'.L=st.L)/\(b = .append->∀ q,q∉wr->q<st.L.length->st'.L[q]?=st.L[q]?)/\(∀ (w0:World) (Fp:Fx) (okA:Okc) (M:Mem) (ok:Okc) (w:World) (vals:List Value),MI C w0 Fp okA M ok st.L w->VRs w ok M args vals ->
   ∃ val w' M' ok',(builtin b ts.toArray ty cs vals.toArray).run C.P w = .ok (.value val) w'/\MI C w0 Fp okA M' ok' st'.L w'/\Ex M ok w M' ok' w'/\VR w' ok' M' v val)/\(k v st' rd wr).run G Φ f=some r:=by
 unfold Ad at h
 split at h
 ·rename_i x
  split at h
  ·rename_i n h1 h2
   refine ⟨_,st,_,_,rfl,rfl,fun _=>rfl,fun _ _ _ _=>rfl,fun w0 Fp okA M ok w vals hm hv=>?_,h⟩
   obtain ⟨vx,l',rfl,hx,hl⟩:=hv.inv
   have:l'=[]:=List.eq_nil_of_length_eq_zero hl.1.symm
   subst this
   have:=JK (ty:=ty) hS h1 h2 hm hx
   exact ⟨_,w,M,ok,by simp [builtin,this],hm,Ex.refl _ _ _,.int _ _⟩
  ·exact al h
 ·rename_i s x
  split at h
  ·rename_i ta tb
   split at h
   ·rename_i e he
    split at h
    ·rename_i t ht
     split at h
     rotate_left
     ·unfold LH at h
      split at h
      ·rename_i bs
       split at h
       ·rename_i htb
        split at h
        ·rename_i hcc
         obtain ⟨hb,hby,hs⟩:=hcc
         split at h
         ·obtain ⟨v,st',rd,wr,h1,h2,h0,h3,h4⟩:=Ga (ta:=ta) (tb:=tb) (ty:=ty) (x:=.str bs) hS hb (by rw [hs];rfl) (fun w0 Fp okA M ok w vx hm hx=>KD (fm he) htb hby hx) h
          refine ⟨v,st',rd,wr,h1,h2,fun hne=>(hne rfl).elim,fun _=>h0,fun w0 Fp okA M ok w vals hm hv=>?_,h4⟩
          obtain ⟨vs,l',rfl,hsv,hl⟩:=hv.inv
          obtain ⟨vx,l'',rfl,hx,hl2⟩:=hl.inv
          have:l''=[]:=List.eq_nil_of_length_eq_zero hl2.1.symm
          subst this
          obtain ⟨val,w',M',ok',hr,q⟩:=h3 w0 Fp okA M ok w vs vx hm hsv hx
          exact ⟨val,w',M',ok',by simp [builtin,hr],q⟩
         ·exact al h
        ·exact al h
       ·exact al h
      ·exact al h
     ·rename_i hc
      simp only [Bool.and_eq_true,decide_eq_true_eq] at hc
      obtain ⟨⟨hb,hs⟩,rfl⟩:=hc
      split at h
      ·obtain ⟨v,st',rd,wr,h1,h2,h0,h3,h4⟩:=KE (ty:=ty) hS (fm he) hb hs h
       refine ⟨v,st',rd,wr,h1,h2,fun hne=>(hne rfl).elim,fun _=>h0,fun w0 Fp okA M ok w vals hm hv=>?_,h4⟩
       obtain ⟨vs,l',rfl,hsv,hl⟩:=hv.inv
       obtain ⟨vx,l'',rfl,hx,hl2⟩:=hl.inv
       have:l''=[]:=List.eq_nil_of_length_eq_zero hl2.1.symm
       subst this
       obtain ⟨val,w',M',ok',hr,q⟩:=h3 w0 Fp okA M ok w vs vx hm hsv hx
       exact ⟨val,w',M',ok',by simp [builtin,hr],q⟩
      split at h
      ·rename_i ys hys
       obtain ⟨v,st',rd,wr,h1,h2,h0,h3,h4⟩:=Oe (ty:=ty) hS (fm he) hb hs hys h
       refine ⟨v,st',rd,wr,h1,h2,fun hne=>(hne rfl).elim,fun _=>h0,fun w0 Fp okA M ok w vals hm hv=>?_,h4⟩
       obtain ⟨vs,l',rfl,hsv,hl⟩:=hv.inv
       obtain ⟨vx,l'',rfl,hx,hl2⟩:=hl.inv
       have:l''=[]:=List.eq_nil_of_length_eq_zero hl2.1.symm
       subst this
       obtain ⟨val,w',M',ok',hr,q⟩:=h3 w0 Fp okA M ok w vs vx hm hsv hx
       exact ⟨val,w',M',ok',by simp [builtin,hr],q⟩
      ·exact al h
    ·exact al h
   ·exact al h
  ·exact al h
 ·rename_i ka a kb b
  split at h
  ·rename_i hk
   subst hk
   refine ⟨_,st,_,_,rfl,rfl,fun _=>rfl,fun _ _ _ _=>rfl,fun w0 Fp okA M ok w vals hm hv=>?_,h⟩
   obtain ⟨vx,l',rfl,hx,hl⟩:=hv.inv
   obtain ⟨vy,l'',rfl,hy,hl2⟩:=hl.inv
   have:l''=[]:=List.eq_nil_of_length_eq_zero hl2.1.symm
   subst this
   cases hx;cases hy
   exact ⟨_,w,M,ok,by simp [builtin,Builtin.max_,Builtin.max2],hm,Ex.refl _ _ _,.int _ _⟩
  ·exact al h
 ·rename_i ka a kb b
  split at h
  ·rename_i hk
   subst hk
   refine ⟨_,st,_,_,rfl,rfl,fun _=>rfl,fun _ _ _ _=>rfl,fun w0 Fp okA M ok w vals hm hv=>?_,h⟩
   obtain ⟨vx,l',rfl,hx,hl⟩:=hv.inv
   obtain ⟨vy,l'',rfl,hy,hl2⟩:=hl.inv
   have:l''=[]:=List.eq_nil_of_length_eq_zero hl2.1.symm
   subst this
   cases hx;cases hy
   exact ⟨_,w,M,ok,by simp [builtin,Builtin.min_,Builtin.min2],hm,Ex.refl _ _ _,.int _ _⟩
  ·exact al h
 ·exact al h
end
end Go.Dv

namespace Go.Dv
open Go
section
variable {G:Sig} {C:Cfg G} {Φ:FuncId->List Item->St G.S->Option (Ret G.S)} {f:FuncId} {r:Ret G.S}
theorem H3.skip {o:Oper} {st st':St G.S} (h1:st'.tm=st.tm) (h2:st'.n0=st.n0)
  (h:∀ (w0:World) (Fp:Fx) (okA:Okc) (M:Mem) (ok:Okc) (a:Act) (w:World),MI C w0 Fp okA M ok st.L w->TR w ok M st.tm a ->
   ∃ w' M' ok',(execOp a.eval o).run C.P w = .ok .skip w'/\MI C w0 Fp okA M' ok' st'.L w'/\Ex M ok w M' ok' w'):H3 C o st .un st':=by
 refine ⟨h1,h2,fun w0 Fp okA M ok a w hm ht next Q hk=>?_⟩
 obtain ⟨w',M',ok',hr,hm',he⟩:=h w0 Fp okA M ok a w hm ht
 unfold Oper.wp
 rw [hr,Oper.upon_skip]
 exact hk _ w' M' ok' hm' he (.un _)
theorem Pg {w:World} {ok:Okc} {M:Mem} {v:V G.S} {val:Value} {cs:List (V G.S)} (hag:NV v=true) (h:v.cellsL=some cs) (hv:VR w ok M v val):∃ l:List Value,val = .agg l.toArray/\VRs w ok M cs l:=by
 cases hv with
 | st n x l hl hh=>simp [V.cellsL] at h;subst h;exact ⟨l,rfl,hl,hh⟩
 | ag cs' l hl hh=>simp [V.cellsL] at h;subst h;exact ⟨l,rfl,hl,hh⟩
 | _=>cases hag
theorem Ic (hS:bG G) (hΦ:o6 C Φ) (hE:ou C) {o:Oper} {st:St G.S} {k:K G} (h:(yH C o st k).run G Φ f=some r):
    ∃ v st' rd wr,(H3 C o st v st'/\(om o=false->wr=[]->st'.L=st.L))/\(k v st' rd wr).run G Φ f=some r:=by
  unfold yH at h
  simp only at h
  split at h
  · rename_i x hop
    exact ⟨_,_,_,_,⟨.pure fun w0 Fp okA M ok a w hm ht=>⟨_,by simp [execOp,hop],ce hm ht _ x⟩,fun _ _=>rfl⟩,h⟩
  · rename_i x hop
    exact ⟨_,_,_,_,⟨.pure fun w0 Fp okA M ok a w hm ht=>⟨_,by simp [execOp,hop],ce hm ht _ x⟩,fun _ _=>rfl⟩,h⟩
  · rename_i c x y hop
    obtain ⟨b,hb,h⟩:=LR h
    refine ⟨_,_,_,_,⟨.pure fun w0 Fp okA M ok a w hm ht=>⟨if b then a.eval x else a.eval y,?_,?_⟩,fun _ _=>rfl⟩,h⟩
    · have:=hb w ok M _ (ce hm ht _ c)
      simp [execOp,hop,this,asBool]
    · cases b
      · exact ce hm ht _ y
      · exact ce hm ht _ x
  · rename_i t hop
    split at h
    · rename_i cs hz
      obtain ⟨z,hzr,hzv⟩:=Ej hz
      refine ⟨_,_,_,_,⟨.val ?_ ?_ fun w0 Fp okA M ok a w hm ht=>?_,fun hcg=>by simp [om,hop] at hcg⟩,h⟩
      · rfl
      · rfl
      obtain ⟨h1,h2⟩:=hm.box cs z.cells.toList t (hzv w ok M)
      rw [Array.toArray_toList] at h1 h2
      exact ⟨_,_,_,_,by simp [execOp,hop,Instr.alloc,hzr,newVar,newRow],h1,h2,.ref _ _ _ _ (bR _ _ _)⟩
    · exact al h
  · rename_i t x hop
    split at h
    · rename_i cs n hc hs
      split at h
      · rename_i hl
        refine ⟨_,_,_,_,⟨.val ?_ ?_ fun w0 Fp okA M ok a w hm ht=>?_,fun hcg=>by simp [om,hop] at hcg⟩,h⟩
        · rfl
        · rfl
        obtain ⟨h1,h2⟩:=hm.box cs (a.eval x).cells.toList t (kw hc (ce hm ht _ x))
        rw [Array.toArray_toList] at h1 h2
        exact ⟨_,_,_,_,by simp [execOp,hop,Instr.box,newVar,newRow],h1,h2,.ref _ _ _ _ (bR _ _ _)⟩
      · exact al h
    · exact al h
  · rename_i t ps hop
    split at h
    · rename_i z pl hz hp
      split at h
      · rename_i l hl
        split at h
        · rename_i cs hf
          refine ⟨_,_,_,_,⟨.pure fun w0 Fp okA M ok a w hm ht=>?_,fun _ _=>rfl⟩,h⟩
          obtain ⟨val,h1,h2⟩:=Gg hm ht hz hp hl hf
          exact ⟨val,by simp only [execOp,hop];exact zc h1,h2⟩
        · exact al h
      · exact al h
    · exact al h
  · rename_i t n ps hop
    split at h
    · rename_i e he
      split at h
      · rename_i ty sz hty hs
        split at h
        · rename_i hc
          obtain ⟨rfl,hbig,hb,hps⟩:=hc
          split at h
          · rename_i xs ids hxs
            have hxs:Js st.L ty (ps.toList.map fun (_,x)=>opd C st e x)=some (xs,ids):=by
              split at hxs
              · exact hxs
              · cases hxs
            split at h
            · rename_i hnd
              refine ⟨_,_,_,_,⟨.val ?_ ?_ fun w0 Fp okA M ok a w hm ht=>?_,fun hcg=>by simp [om,hop] at hcg⟩,h⟩
              · rfl
              · rfl
              obtain ⟨val,w',M',h1,h2⟩:=AC hS hm ht (fm he) hs hbig hb hps hxs (qt hnd)
              refine ⟨val,w',M',ok,?_,h2⟩
              simp only [execOp,hop]
              exact zc h1
            · exact al h
          split at h
          · rename_i xs hxs
            refine ⟨_,_,_,_,⟨.val ?_ ?_ fun w0 Fp okA M ok a w hm ht=>?_,fun hcg=>by simp [om,hop] at hcg⟩,h⟩
            · rfl
            · rfl
            obtain ⟨val,w',M',ok',h1,h2⟩:=tn hS hm ht (fm he) hs hbig hb hps hxs
            refine ⟨val,w',M',ok',?_,h2⟩
            simp only [execOp,hop]
            exact zc h1
          · exact al h
        · exact al h
      · exact al h
    · exact al h
  · rename_i t x hop
    obtain ⟨v,st',rd,wr,⟨e1,e2,e3,_⟩,h1,h2⟩:=Ky hS fU h
    refine ⟨v,st',rd,wr,⟨.val e1 e2 fun w0 Fp okA M ok a w hm ht=>?_,fun _ hw=>by rw [e3 hw]⟩,h2⟩
    obtain ⟨val,h3,M',h4,h5,h6⟩:=h1 w0 Fp okA M ok w _ hm (ce hm ht 0 x)
    exact ⟨val,w,M',ok,by simp [execOp,hop,h3],h4,h5,h6⟩
  · rename_i t x y hop
    obtain ⟨st',rd,wr,h1,h2,_,h3,h4⟩:=DM hS fU h
    refine ⟨_,st',rd,wr,⟨.skip h1 h2 fun w0 Fp okA M ok a w hm ht=>?_,fun hcg=>by simp [om,hop] at hcg⟩,h4⟩
    obtain ⟨w',M',ok',h5,h6,h7⟩:=h3 w0 Fp okA M ok w _ _ hm (ce hm ht 0 x) (ce hm ht t y)
    exact ⟨w',M',ok',by simp [execOp,hop,h5],h6,h7⟩
  · rename_i x hop
    have nil:∀ (w0:World) (Fp:Fx) (okA:Okc) (M:Mem) (ok:Okc) (a:Act) (w:World),MI C w0 Fp okA M ok st.L w->TR w ok M st.tm a->(∃ ad,a.eval x = .pointer (some ad))->∃ val,(execOp a.eval o).run C.P w = .ok (.value val) w/\VR w ok M (opd C st 0 x) val:=by
      intro w0 Fp okA M ok a w hm ht ⟨ad,hv⟩
      have:=ce hm ht 0 x
      exact ⟨_,by simp [execOp,hop,hv],this⟩
    split at h
    · rename_i o' off hx
      refine ⟨_,_,_,_,⟨.pure fun w0 Fp okA M ok a w hm ht=>?_,fun _ _=>rfl⟩,h⟩
      rw [<-hx]
      refine nil w0 Fp okA M ok a w hm ht ?_
      have:=ce hm ht 0 x
      rw [hx] at this
      generalize a.eval x=vx at this
      cases this;exact ⟨_,rfl⟩
    · rename_i cs hx
      refine ⟨_,_,_,_,⟨.pure fun w0 Fp okA M ok a w hm ht=>?_,fun _ _=>rfl⟩,h⟩
      rw [<-hx]
      refine nil w0 Fp okA M ok a w hm ht ?_
      have:=ce hm ht 0 x
      rw [hx] at this
      generalize a.eval x=vx at this
      cases this;exact ⟨_,rfl⟩
    · rename_i o' i off hx
      refine ⟨_,_,_,_,⟨.pure fun w0 Fp okA M ok a w hm ht=>?_,fun _ _=>rfl⟩,h⟩
      rw [<-hx]
      refine nil w0 Fp okA M ok a w hm ht ?_
      have:=ce hm ht 0 x
      rw [hx] at this
      generalize a.eval x=vx at this
      cases this;exact ⟨_,rfl⟩
    · exact al h
  · rename_i op t x y yt hop
    split at h
    · rename_i b hb
      refine ⟨_,_,_,_,⟨.pure fun w0 Fp okA M ok a w hm ht=>⟨.bool b,?_,.bool _⟩,fun _ _=>rfl⟩,h⟩
      simp only [execOp,hop]
      exact zc (LV hb (ce hm ht t x) x a)
    obtain ⟨v,h1,h2⟩:=Jy h
    refine ⟨v,_,_,_,⟨.pure fun w0 Fp okA M ok a w hm ht=>?_,fun _ _=>rfl⟩,h2⟩
    obtain ⟨val,h3,h4⟩:=h1 w ok M _ _ x y (ce hm ht t x) (ce hm ht yt y)
    refine ⟨val,?_,h4⟩
    simp only [execOp,hop]
    exact zc h3
  · rename_i op t x hop
    obtain ⟨v,h1,h2⟩:=Mx (C:=C) h
    refine ⟨v,_,_,_,⟨.pure fun w0 Fp okA M ok a w hm ht=>?_,fun _ _=>rfl⟩,h2⟩
    obtain ⟨val,h3,h4⟩:=h1 w ok M _ (ce hm ht t x)
    exact ⟨val,by simp [execOp,hop,h3],h4⟩
  · rename_i src dst x hop
    obtain ⟨v,rd,wr,h1,h2⟩:=My hS h
    refine ⟨v,_,_,_,⟨.val ?_ ?_ fun w0 Fp okA M ok a w hm ht=>?_,fun _ _=>rfl⟩,h2⟩
    · rfl
    · rfl
    obtain ⟨val,w',M',ok',h3,h4⟩:=h1 w0 Fp okA M ok w _ hm (ce hm ht src x)
    exact ⟨val,w',M',ok',by simp [execOp,hop,h3],h4⟩
  · rename_i g first cap hop
    split at h
    · rename_i hfe
      split at h
      · rename_i vs hvs
        refine ⟨_,_,_,_,⟨.pure fun w0 Fp okA M ok a w hm ht=>?_,fun _ _=>rfl⟩,h⟩
        have hv:=nK hm ht _ _ _ hvs
        simp only [Bool.and_eq_true] at hfe
        have hfirst:first=#[]:=by simpa using hfe.1
        have:=VR.fn (w:=w) (ok:=ok) (M:=M) g vs _ hv.1 hv.2
        simp only [fv,hfe.2,if_true] at this
        refine ⟨_,?_,this⟩
        simp [execOp,hop,Instr.makeFunc,hfirst]
        rw [<-Array.toList_map,Array.toArray_toList]
      · exact al h
    · split at h
      · rename_i hce
        split at h
        · rename_i vs hvs
          refine ⟨_,_,_,_,⟨.pure fun w0 Fp okA M ok a w hm ht=>?_,fun _ _=>rfl⟩,h⟩
          have hv:=nK hm ht _ _ _ hvs
          have hcap:cap=#[]:=by simpa using hce
          have:=VR.fn (w:=w) (ok:=ok) (M:=M) (g+1000000) vs _ hv.1 hv.2
          have hb:Nat.blt (g+1000000) 1000000=false:=LP g
          simp only [fv,hb,Bool.false_eq_true,if_false,Nat.add_sub_cancel] at this
          refine ⟨_,?_,this⟩
          simp [execOp,hop,Instr.makeFunc,hcap]
          rw [<-Array.toList_map,Array.toArray_toList]
        · exact al h
      · exact al h
  · rename_i t l c hop
    split at h
    · rename_i k1 n k2 n2 e hl hc he
      have key : (∀ (w0:World) (Fp:Fx) (okA:Okc) (M:Mem) (ok:Okc) (a:Act) (w:World),MI C w0 Fp okA M ok st.L w->TR w ok M st.tm a->a.eval l = .int k1 n/\a.eval c = .int k2 n)->(N7 C e n st k).run G Φ f=some r ->
          ∃ v st' rd wr,(H3 C o st v st'/\(om o=false->wr=[]->st'.L=st.L))/\(k v st' rd wr).run G Φ f=some r:=by
        intro hev h
        unfold N7 at h
        split at h
        · rename_i ty z sz hty hz hs
          split at h
          · rename_i hcond
            simp only [Bool.and_eq_true,decide_eq_true_eq,List.isEmpty_iff] at hcond
            obtain ⟨⟨hb,rfl⟩,hre⟩:=hcond
            split at h
            · rename_i x hx
              split at h
              · split at h
                · rename_i us hoc
                  split at h
                  · rename_i x hx
                    obtain ⟨xs,hxs,h'⟩:=bT h
                    unfold mk at hxs
                    split at hxs
                    · rename_i hn
                      cases hxs
                      obtain ⟨m,rfl⟩:∃ m:Nat,n=m:=⟨n.toNat,by omega⟩
                      refine ⟨_,_,_,_,⟨.val ?_ ?_ fun w0 Fp okA M ok a w hm ht=>?_,fun hcg=>by simp [om,hop] at hcg⟩,h'⟩
                      · rfl
                      · rfl
                      obtain ⟨hv1,hv2⟩:=hev w0 Fp okA M ok a w hm ht
                      obtain ⟨val,w',M',h2,h3,h4,h5⟩:=KI hS (fm he) hb hs hz (n:=m) (by have:=hn.2;exact_mod_cast this) hoc hx hm k1 k2
                      exact ⟨val,w',M',ok,by simp [execOp,hop,hv1,hv2,h2],h3,h4,h5⟩
                    · cases hxs
                  · exact al h
                · exact al h
              obtain ⟨xs,hxs,h'⟩:=bT h
              unfold mk at hxs
              split at hxs
              · rename_i hn
                cases hxs
                obtain ⟨m,rfl⟩:∃ m:Nat,n=m:=⟨n.toNat,by omega⟩
                refine ⟨_,_,_,_,⟨.val ?_ ?_ fun w0 Fp okA M ok a w hm ht=>?_,fun hcg=>by simp [om,hop] at hcg⟩,h'⟩
                · rfl
                · rfl
                obtain ⟨hv1,hv2⟩:=hev w0 Fp okA M ok a w hm ht
                obtain ⟨val,w',M',h2,h3,h4,h5⟩:=Er hS (fm he) hb hs hz (n:=m) (by have:=hn.2;exact_mod_cast this) hre hx hm k1 k2
                exact ⟨val,w',M',ok,by simp [execOp,hop,hv1,hv2,h2],h3,h4,h5⟩
              · cases hxs
            · exact al h
          · exact al h
        · exact al h
      have evl:∀ (w0:World) (Fp:Fx) (okA:Okc) (M:Mem) (ok:Okc) (a:Act) (w:World) (x:Operand) (kx:IntKind) (m:Int),MI C w0 Fp okA M ok st.L w->TR w ok M st.tm a->opd C st 0 x = .int kx m->a.eval x = .int kx m:=by
        intro w0 Fp okA M ok a w x kx m hm ht hx
        have h1:=ce hm ht 0 x
        rw [hx] at h1
        generalize a.eval x=vx at h1
        cases h1;rfl
      split at h
      · rename_i i j
        split at h
        · rename_i hij
          subst hij
          refine key (fun w0 Fp okA M ok a w hm ht=>?_) h
          have e1:=evl w0 Fp okA M ok a w _ _ _ hm ht hl
          have e2:=evl w0 Fp okA M ok a w _ _ _ hm ht hc
          have e3:=e1.symm.trans e2
          cases e3
          exact ⟨e1,e1⟩
        · exact al h
      · rename_i ka x kb y
        split at h
        · rename_i hab
          obtain ⟨rfl,rfl⟩:=hab
          refine key (fun w0 Fp okA M ok a w hm ht=>?_) h
          have e1:=evl w0 Fp okA M ok a w _ _ _ hm ht hl
          have e2:=evl w0 Fp okA M ok a w _ _ _ hm ht hc
          refine ⟨e1,?_⟩
          rw [e2]
          have e3:n2=y:=by
            have:a.eval (.const (.int kb y)) = .int kb y:=rfl
            rw [this] at e2
            cases e2;rfl
          rw [e3]
        · exact al h
      · exact al h
    · exact al h
  · rename_i t x lo hi mx hop
    split at h
    · obtain ⟨v,st',rd,wr,h1,h2,h3,h4⟩:=Kz hS h
      refine ⟨v,st',rd,wr,⟨.val h1 h2 fun w0 Fp okA M ok a w hm ht=>?_,fun hcg=>by simp [om,hop] at hcg⟩,h4⟩
      have bd:∀ b:Option Operand,BdR w ok M (b.map (opd C st 0)) (b.map a.eval):=by
        intro b
        cases b with
        | none=>trivial
        | some b=>exact ce hm ht 0 b
      obtain ⟨val,ok',h5,h6,h7,h8⟩:=h3 w0 Fp okA M ok w _ _ _ hm (ce hm ht t x) (bd lo) (bd hi)
      exact ⟨val,w,M,ok',by simp [execOp,hop,h5],h6,h7,h8⟩
    · exact al h
  · rename_i s x i hop
    split at h
    · rename_i fd hfd
      split at h
      · rename_i n hs
        split at h
        · rename_i o' off hx
          refine ⟨_,_,_,_,⟨.pure fun w0 Fp okA M ok a w hm ht=>?_,fun _ _=>rfl⟩,h⟩
          have h1:=ce hm ht 0 x
          rw [hx] at h1
          generalize hv:a.eval x=vx at h1
          cases h1 with
          | ref _ _ b te hM=>exact ⟨_,by simp [execOp,hop,hv,jI hfd hs],.ref _ _ _ _ hM⟩
        · rename_i cs hx
          refine ⟨_,_,_,_,⟨.pure fun w0 Fp okA M ok a w hm ht=>?_,fun _ _=>rfl⟩,h⟩
          have h1:=ce hm ht 0 x
          rw [hx] at h1
          generalize hv:a.eval x=vx at h1
          cases h1 with
          | pc _ b off u g1 g2 => 
            refine ⟨_,by simp [execOp,hop,hv,jI hfd hs];rfl,.pc _ b _ (fun j=>u (fd.offset+j)) (fun j y hj=>?_) (fun j y hj=>?_)⟩
            · rw [List.getElem?_drop] at hj
              have:=g1 _ y hj
              rw [Nat.add_assoc];exact this
            · rw [List.getElem?_drop] at hj
              exact g2 _ y hj
        · rename_i o' i' off hx
          refine ⟨_,_,_,_,⟨.pure fun w0 Fp okA M ok a w hm ht=>?_,fun _ _=>rfl⟩,h⟩
          have h1:=ce hm ht 0 x
          rw [hx] at h1
          generalize hv:a.eval x=vx at h1
          cases h1 with
          | pe _ _ _ b n c e sz hM=>
            refine ⟨.pointer (some ⟨b,i'*sz+(off+fd.offset),none⟩),?_,.pe _ _ _ _ _ _ _ _ hM⟩
            rw [<-Nat.add_assoc]
            simp [execOp,hop,hv,jI hfd hs]
        · exact al h
      · exact al h
    · exact al h
  · rename_i s x i hop
    split at h
    · rename_i fd cs hfd hcs
      split at h
      · rename_i v hp
        refine ⟨_,_,_,_,⟨.pure fun w0 Fp okA M ok a w hm ht=>?_,fun _ _=>rfl⟩,h⟩
        split at hcs
        · rename_i hag
          obtain ⟨l,hv,hvs⟩:=Pg hag hcs (ce hm ht s x)
          obtain ⟨fs,hu,hf⟩:=tQ hfd
          obtain ⟨val,h1,h2⟩:=DK (w:=w) (ok:=ok) (M:=M) hp hvs
          exact ⟨val,by simp [execOp,hop,Instr.field,run_underlying hu,hf,hv,asAgg,h1],h2⟩
        · cases hcs
      · exact al h
    · exact al h
  · rename_i t x i hop
    split at h
    · obtain ⟨v,rd,wr,h1,h2⟩:=tl hS h
      refine ⟨v,_,rd,wr,⟨.pure fun w0 Fp okA M ok a w hm ht=>?_,fun _ _=>rfl⟩,h2⟩
      obtain ⟨val,h3,h4⟩:=h1 w0 Fp okA M ok w _ _ hm (ce hm ht t x) (ce hm ht 0 i)
      exact ⟨val,by simp [execOp,hop,h3],h4⟩
    · obtain ⟨v,st',rd,wr,h1,h2,hne,h3,h4⟩:=Eq hS h
      refine ⟨v,st',rd,wr,⟨.val h1 h2 fun w0 Fp okA M ok a w hm ht=>?_,fun _=>hne⟩,h4⟩
      obtain ⟨val,ok',h5,h6,h7,h8⟩:=h3 w0 Fp okA M ok w _ _ hm (ce hm ht t x) (ce hm ht 0 i)
      exact ⟨val,w,M,ok',by simp [execOp,hop,h5],h6,h7,h8⟩
  · rename_i t x i hop
    split at h
    · rename_i ki n s hi hx hu
      obtain ⟨b,hb,h'⟩:=bT h
      obtain ⟨m,rfl,hm'⟩:=yJ hb
      refine ⟨_,_,_,_,⟨.pure fun w0 Fp okA M ok a w hm ht=>?_,fun _ _=>rfl⟩,h'⟩
      have h1:=ce hm ht t x
      have h2:=ce hm ht 0 i
      rw [hx] at h1;rw [hi] at h2
      generalize hv1:a.eval x=vx at h1
      generalize hv2:a.eval i=vi at h2
      cases h1;cases h2
      exact ⟨_,by simp [execOp,hop,hv1,hv2,vf hu hm'],.int _ _⟩
    · rename_i ki n cs m e hi hx hu
      split at h
      · rename_i ty hty hs ha
        split at h
        · rename_i xs hxs
          split at h
          · rename_i hlen
            obtain ⟨y,hy,h'⟩:=bT h
            obtain ⟨q,rfl,hq⟩:=yJ hy
            refine ⟨_,_,_,_,⟨.pure fun w0 Fp okA M ok a w hm ht=>?_,fun _ _=>rfl⟩,h'⟩
            have h1:=ce hm ht t x
            have h2:=ce hm ht 0 i
            rw [hx] at h1;rw [hi] at h2
            generalize hv1:a.eval x=vx at h1
            generalize hv2:a.eval i=vi at h2
            obtain ⟨hxl,hxg⟩:=va hxs
            obtain ⟨c,hc,hpc⟩:=hxg q y hq
            cases h2
            cases h1 with
            | ag _ l hl hh=>
              have hql:q<l.length:=by rw [<-hl];exact (List.getElem?_eq_some_iff.1 hc).1
              have hlq:=List.getElem?_eq_getElem hql
              have hvr:=hh q c _ hc hlq
              refine ⟨l[q],?_,(tj hS hpc hvr).2⟩
              have:=vj (P:=C.P) (w:=w) (l:=l.toArray) (k:=ki) (v:=l[q]) hu (dz hs) (kz ha) (n:=q) (by omega) (by simp [hql])
              simp [execOp,hop,hv1,hv2,this]
          · exact al h
        · exact al h
      · exact al h
    · exact al h
  · rename_i x i hop
    split at h
    · rename_i vs hx
      split at h
      · rename_i v hv
        refine ⟨_,_,_,_,⟨.pure fun w0 Fp okA M ok a w hm ht=>?_,fun _ _=>rfl⟩,h⟩
        have h1:=ce hm ht 0 x
        rw [hx] at h1
        generalize hv1:a.eval x=vx at h1
        cases h1 with
        | tup _ l hl hh=>
          have hql:i<l.length:=by rw [<-hl];exact (List.getElem?_eq_some_iff.1 hv).1
          refine ⟨l[i],by simp [execOp,hop,hv1,Instr.extract,hql],hh i v _ hv (List.getElem?_eq_getElem hql)⟩
      · exact al h
    · exact al h
  · rename_i c hop
    split at h
    · rename_i b hb
      split at h
      · rename_i vs hvs
        obtain ⟨v,st',rd,wr,h1,h2,hne,_,h3,h4⟩:=yM (ty:=o.type) (cs:=(c.args.map fun | .const _=>true | _=>false)) hS h
        refine ⟨v,st',rd,wr,⟨.val h1 h2 fun w0 Fp okA M ok a w hm ht=>?_,fun hcg _=>hne (fun e=>by subst e;simp [om,hop,hb] at hcg)⟩,h4⟩
        obtain ⟨val,w',M',ok',h5,h6⟩:=h3 w0 Fp okA M ok w _ hm (nK hm ht _ _ _ hvs)
        refine ⟨val,w',M',ok',?_,h6⟩
        rw [Array.toArray_toList,<-Array.toList_map,Array.toArray_toList] at h5
        simp only [execOp,hop,resolve,hb]
        simp [invoke]
        exact h5
      · exact al h
    · rename_i g hg
      split at h
      · rename_i vs hvs
        split at h
        · rename_i q caps hq
          split at h
          · rename_i hbl
            obtain ⟨v,st',rd,wr,⟨h1,h2,hwr⟩,h3,h4⟩:=Af hS hΦ hE h
            refine ⟨v,st',rd,wr,⟨⟨h1,h2,fun w0 Fp okA M ok a w hm ht next Q hk=>?_⟩,fun _=>hwr.1⟩,h4⟩
            have h5:=ce hm ht 0 g
            rw [hq] at h5
            generalize hv1:a.eval g=vg at h5
            cases h5 with
            | fn _ _ l hl hh=>
              simp only [fv,hbl,if_true] at hv1
              have hv:=nK hm ht _ _ _ hvs
              obtain ⟨h6,h7⟩:=h3 w0 Fp okA M ok w (c.args.toList.map a.eval++l) hm (hv.append ⟨hl,hh⟩)
              have hargs:(c.args.toList.map a.eval++l).toArray=c.args.map a.eval++l.toArray:=by
                rw [<-Array.toList_map];simp
              have hr:(execOp a.eval o).run C.P w = .ok (.enter q (c.args.toList.map a.eval++l).toArray) w:=by
                rw [hargs]
                rw [hargs] at h6
                simp [execOp,hop,resolve,hg,hv1,Deferred.ofValue,invoke,h6]
              unfold Oper.wp
              rw [hr,Oper.upon_enter]
              refine h7.mono ?_
              rintro e w' ⟨v',M',ok',rfl,h8,h9,h10⟩
              exact hk v' w' M' ok' h8 h9 h10
          · rename_i hbl
            obtain ⟨v,st',rd,wr,⟨h1,h2,hwr⟩,h3,h4⟩:=Af hS hΦ hE h
            refine ⟨v,st',rd,wr,⟨⟨h1,h2,fun w0 Fp okA M ok a w hm ht next Q hk=>?_⟩,fun _=>hwr.1⟩,h4⟩
            have h5:=ce hm ht 0 g
            rw [hq] at h5
            generalize hv1:a.eval g=vg at h5
            cases h5 with
            | fn _ _ l hl hh=>
              simp only [fv,hbl,if_false] at hv1
              have hv:=nK hm ht _ _ _ hvs
              obtain ⟨h6,h7⟩:=h3 w0 Fp okA M ok w (l++c.args.toList.map a.eval) hm (VRs.append ⟨hl,hh⟩ hv)
              have hargs:(l++c.args.toList.map a.eval).toArray=l.toArray++c.args.map a.eval:=by
                rw [<-Array.toList_map];simp
              have hr:(execOp a.eval o).run C.P w = .ok (.enter (q-1000000) (l++c.args.toList.map a.eval).toArray) w:=by
                rw [hargs]
                rw [hargs] at h6
                simp [execOp,hop,resolve,hg,hv1,Deferred.ofValue,invoke,h6]
              unfold Oper.wp
              rw [hr,Oper.upon_enter]
              refine h7.mono ?_
              rintro e w' ⟨v',M',ok',rfl,h8,h9,h10⟩
              exact hk v' w' M' ok' h8 h9 h10
        · exact al h
      · exact al h
    · exact al h
  · exact al h
theorem MA (hS:bG G) (hΦ:o6 C Φ) (hE:ou C) {o:Oper} (hcv:tO o=true) {st:St G.S} {k:K G} (h:(yH C o st k).run G Φ f=some r):
  ∃ v st' rd wr,(H3 C o st v st'/\(om o=false->wr=[]->st'.L=st.L)/\∀ b,b∉wr->b<st.L.length->st'.L[b]?=st.L[b]?)/\(k v st' rd wr).run G Φ f=some r:=by
 cases hop:o.op
 all_goals first
  | (simp [tO,hop] at hcv;done)
  | skip
 case alloc=>
  rename_i t
  simp only [yH,hop] at h
  split at h
  ·rename_i cs hz
   obtain ⟨z,hzr,hzv⟩:=Ej hz
   refine ⟨_,_,_,_,⟨.val ?_ ?_ fun w0 Fp okA M ok a w hm ht=>?_,fun hcg=>by simp [om,hop] at hcg,fun b _ hlt=>by simp [List.getElem?_append_left hlt]⟩,h⟩
   ·rfl
   ·rfl
   obtain ⟨h1,h2⟩:=hm.box cs z.cells.toList t (hzv w ok M)
   rw [Array.toArray_toList] at h1 h2
   exact ⟨_,_,_,_,by simp [execOp,hop,Instr.alloc,hzr,newVar,newRow],h1,h2,.ref _ _ _ _ (bR _ _ _)⟩
  ·exact al h
 case box=>
  rename_i t x
  simp only [yH,hop] at h
  split at h
  ·rename_i cs n hc hs
   split at h
   ·rename_i hl
    refine ⟨_,_,_,_,⟨.val ?_ ?_ fun w0 Fp okA M ok a w hm ht=>?_,fun hcg=>by simp [om,hop] at hcg,fun b _ hlt=>by simp [List.getElem?_append_left hlt]⟩,h⟩
    ·rfl
    ·rfl
    obtain ⟨h1,h2⟩:=hm.box cs (a.eval x).cells.toList t (kw hc (ce hm ht _ x))
    rw [Array.toArray_toList] at h1 h2
    exact ⟨_,_,_,_,by simp [execOp,hop,Instr.box,newVar,newRow],h1,h2,.ref _ _ _ _ (bR _ _ _)⟩
   ·exact al h
  ·exact al h
 case store=>
  rename_i t x y
  simp only [yH,hop] at h
  obtain ⟨st',rd,wr,h1,h2,hkp,h3,h4⟩:=DM hS fU h
  have hop2:H3 C o st .un st':=.skip h1 h2 fun w0 Fp okA M ok a w hm ht=>by
   obtain ⟨w',M',ok',h5,h6,h7⟩:=h3 w0 Fp okA M ok w _ _ hm (ce hm ht 0 x) (ce hm ht t y)
   exact ⟨w',M',ok',by simp [execOp,hop,h5],h6,h7⟩
  exact ⟨_,st',rd,wr,⟨hop2,fun hcg=>by simp [om,hop] at hcg,fun b hb _=>hkp b hb⟩,h4⟩
 case buildSlice=>
  rename_i t n ps
  simp only [yH,hop] at h
  split at h
  ·rename_i e he
   split at h
   ·rename_i ty sz hty hs
    split at h
    ·rename_i hc
     obtain ⟨rfl,hbig,hb,hps⟩:=hc
     split at h
     ·rename_i xs ids hxs
      split at h
      ·rename_i hnd
       have hxs:Js st.L ty (ps.toList.map fun (_,x)=>opd C st e x)=some (xs,ids):=by
        split at hxs
        ·exact hxs
        ·cases hxs
       refine ⟨_,_,_,_,⟨.val ?_ ?_ fun w0 Fp okA M ok a w hm ht=>?_,fun hcg=>by simp [om,hop] at hcg,fun b hb hlt=>?_⟩,h⟩
       ·rfl
       ·rfl
       ·obtain ⟨val,w',M',h1,h2⟩:=AC hS hm ht (fm he) hs hbig hb hps hxs (qt hnd)
        refine ⟨val,w',M',ok,?_,h2⟩
        simp only [execOp,hop]
        exact zc h1
       ·show (kU st.L ids++_)[b]?=_
        rw [List.getElem?_append_left (by rw [At];exact hlt),qu _ _ hb]
      ·exact al h
     split at h
     ·rename_i xs hxs
      refine ⟨_,_,_,_,⟨.val ?_ ?_ fun w0 Fp okA M ok a w hm ht=>?_,fun hcg=>by simp [om,hop] at hcg,fun b hb hlt=>?_⟩,h⟩
      ·rfl
      ·rfl
      ·obtain ⟨val,w',M',ok',h1,h2⟩:=tn hS hm ht (fm he) hs hbig hb hps hxs
       refine ⟨val,w',M',ok',?_,h2⟩
       simp only [execOp,hop]
       exact zc h1
      ·show (freeze st.L _++_)[b]?=_
       rw [List.getElem?_append_left (by rw [cr];exact hlt),iw _ hb]
     ·exact al h
    ·exact al h
   ·exact al h
  ·exact al h
 case call=>
  rename_i c
  simp only [yH,hop] at h
  split at h
  ·rename_i b hb
   have hba:b = .append:=by
    cases b<;>first | rfl | (simp [tO,hop,hb] at hcv;done)
   split at h
   ·rename_i vs hvs
    obtain ⟨v,st',rd,wr,h1,h2,hne,hkp,h3,h4⟩:=yM (ty:=o.type) (cs:=(c.args.map fun | .const _=>true | _=>false)) hS h
    refine ⟨v,st',rd,wr,⟨.val h1 h2 fun w0 Fp okA M ok a w hm ht=>?_,fun hcg _=>hne (fun e=>by subst e;simp [om,hop,hb] at hcg),hkp hba⟩,h4⟩
    obtain ⟨val,w',M',ok',h5,h6⟩:=h3 w0 Fp okA M ok w _ hm (nK hm ht _ _ _ hvs)
    refine ⟨val,w',M',ok',?_,h6⟩
    rw [Array.toArray_toList,<-Array.toList_map,Array.toArray_toList] at h5
    simp only [execOp,hop,resolve,hb]
    simp [invoke]
    exact h5
   ·exact al h
  ·rename_i g hg
   split at h
   ·rename_i vs hvs
    split at h
    ·rename_i q caps hq
     split at h
     ·rename_i hbl
      obtain ⟨v,st',rd,wr,⟨h1,h2,hwr⟩,h3,h4⟩:=Af hS hΦ hE h
      refine ⟨v,st',rd,wr,⟨⟨h1,h2,fun w0 Fp okA M ok a w hm ht next Q hk=>?_⟩,(fun _=>hwr.1),hwr.2⟩,h4⟩
      have h5:=ce hm ht 0 g
      rw [hq] at h5
      generalize hv1:a.eval g=vg at h5
      cases h5 with
      | fn _ _ l hl hh=>
       simp only [fv,hbl,if_true] at hv1
       have hv:=nK hm ht _ _ _ hvs
       obtain ⟨h6,h7⟩:=h3 w0 Fp okA M ok w (c.args.toList.map a.eval++l) hm (hv.append ⟨hl,hh⟩)
       have hargs:(c.args.toList.map a.eval++l).toArray=c.args.map a.eval++l.toArray:=by
        rw [<-Array.toList_map];simp
       have hr:(execOp a.eval o).run C.P w = .ok (.enter q (c.args.toList.map a.eval++l).toArray) w:=by
        rw [hargs]
        rw [hargs] at h6
        simp [execOp,hop,resolve,hg,hv1,Deferred.ofValue,invoke,h6]
       unfold Oper.wp
       rw [hr,Oper.upon_enter]
       refine h7.mono ?_
       rintro e w' ⟨v',M',ok',rfl,h8,h9,h10⟩
       exact hk v' w' M' ok' h8 h9 h10
     ·rename_i hbl
      obtain ⟨v,st',rd,wr,⟨h1,h2,hwr⟩,h3,h4⟩:=Af hS hΦ hE h
      refine ⟨v,st',rd,wr,⟨⟨h1,h2,fun w0 Fp okA M ok a w hm ht next Q hk=>?_⟩,(fun _=>hwr.1),hwr.2⟩,h4⟩
      have h5:=ce hm ht 0 g
      rw [hq] at h5
      generalize hv1:a.eval g=vg at h5
      cases h5 with
      | fn _ _ l hl hh=>
       simp only [fv,hbl,if_false] at hv1
       have hv:=nK hm ht _ _ _ hvs
       obtain ⟨h6,h7⟩:=h3 w0 Fp okA M ok w (l++c.args.toList.map a.eval) hm (VRs.append ⟨hl,hh⟩ hv)
       have hargs:(l++c.args.toList.map a.eval).toArray=l.toArray++c.args.map a.eval:=by
        rw [<-Array.toList_map];simp
       have hr:(execOp a.eval o).run C.P w = .ok (.enter (q-1000000) (l++c.args.toList.map a.eval).toArray) w:=by
        rw [hargs]
        rw [hargs] at h6
        simp [execOp,hop,resolve,hg,hv1,Deferred.ofValue,invoke,h6]
       unfold Oper.wp
       rw [hr,Oper.upon_enter]
       refine h7.mono ?_
       rintro e w' ⟨v',M',ok',rfl,h8,h9,h10⟩
       exact hk v' w' M' ok' h8 h9 h10
    ·exact al h
   ·exact al h
  ·exact al h
theorem JO (hS:bG G) (hΦ:o6 C Φ) (hE:ou C) {o:Oper} {st:St G.S} {k:K G} (h:(yH C o st k).run G Φ f=some r):
  ∃ v st' rd wr,(H3 C o st v st'/\(om o=false->wr=[]->st'.L=st.L)/\(tO o=true->∀ b,b∉wr->b<st.L.length->st'.L[b]?=st.L[b]?))/\(k v st' rd wr).run G Φ f=some r:=by
 by_cases hc:tO o=true
 ·obtain ⟨v,st',rd,wr,⟨h1,h2,h3⟩,h4⟩:=MA hS hΦ hE hc h
  exact ⟨v,st',rd,wr,⟨h1,h2,fun _=>h3⟩,h4⟩
 ·obtain ⟨v,st',rd,wr,⟨h1,h2⟩,h4⟩:=Ic hS hΦ hE h
  exact ⟨v,st',rd,wr,⟨h1,h2,fun h=>(hc h).elim⟩,h4⟩
end
end Go.Dv

namespace Go.Dv
open Go
section
variable {G:Sig} {C:Cfg G} {Φ:FuncId->List Item->St G.S->Option (Ret G.S)} {f:FuncId} {r:Ret G.S}
theorem TR.lb {w:World} {ok:Okc} {M:Mem} {st:St G.S} {a:Act} {i:Nat} {b:Bool} (ht:TR w ok M st.tm a) (hb:st.get i = .bool b):TR w ok M (st.put (some i) (.lb b)).tm a:=by
 refine ⟨by simpa [St.put] using ht.1,fun j y hj=>?_⟩
 simp only [St.put] at hj
 rw [List.getElem?_set] at hj
 by_cases e:i=j
 ·rw [if_pos e] at hj
  split at hj
  ·cases hj
   have:=ht.get i
   rw [hb,e] at this
   generalize a.tmps.getD j undef=u at this
   cases this
   exact .lb _
  ·cases hj
 ·rw [if_neg e] at hj
  exact ht.2 j y hj
theorem JP {d:Nat} {st:St G.S} {k:Bool->St G.S->Tree G.S} (h:(part (.tmp d) (st.get d) st k).run G Φ f=some r):
  ∃ b st',st'.L=st.L/\st'.n0=st.n0/\(∀ w ok M a,TR w ok M st.tm a->TR w ok M st'.tm a/\a.eval (.tmp d) = .bool b)/\(k b st').run G Φ f=some r:=by
 unfold part at h
 split at h
 ·rename_i b hb
  refine ⟨b,st,rfl,rfl,fun w ok M a ht=>⟨ht,?_⟩,h⟩
  have:=ht.get d
  rw [hb] at this
  show a.tmps.getD d undef=_
  generalize a.tmps.getD d undef=u at this
  cases this;rfl
 ·rename_i b hb
  have val:∀ w ok M a,TR w ok M st.tm a->a.eval (.tmp d) = .bool b:=by
   intro w ok M a ht
   have:=ht.get d
   rw [hb] at this
   show a.tmps.getD d undef=_
   generalize a.tmps.getD d undef=u at this
   cases this;rfl
  simp only [ix] at h
  rcases Jw h with ⟨rfl,h'⟩ | ⟨rfl,h'⟩
  ·exact ⟨true,st.put (some d) (.lb true),rfl,rfl,fun w ok M a ht=>⟨ht.lb hb,val w ok M a ht⟩,h'⟩
  ·exact ⟨false,st.put (some d) (.lb false),rfl,rfl,fun w ok M a ht=>⟨ht.lb hb,val w ok M a ht⟩,h'⟩
 ·exact al h
theorem OC {c:Operand} {st:St G.S} {k:Bool->St G.S->Tree G.S} (h:(part c (opd C st 0 c) st k).run G Φ f=some r):
    ∃ b st',st'.L=st.L/\st'.n0=st.n0/\(∀ w0 Fp okA w ok M a,MI C w0 Fp okA M ok st.L w->TR w ok M st.tm a->TR w ok M st'.tm a/\a.eval c = .bool b)/\(k b st').run G Φ f=some r:=by
  by_cases hc:∃ d,c = .tmp d
  · obtain ⟨d,rfl⟩:=hc
    obtain ⟨b,st',h1,h2,h3,h4⟩:=JP h
    exact ⟨b,st',h1,h2,fun _ _ _ w ok M a _ ht=>h3 w ok M a ht,h4⟩
  · have val:∀ (b:Bool),opd C st 0 c = .lb b\/opd C st 0 c = .bool b->∀ w0 Fp okA w ok M a,MI C w0 Fp okA M ok st.L w->TR w ok M st.tm a->TR w ok M st.tm a/\a.eval c = .bool b:=by
      intro b hb w0 Fp okA w ok M a hm ht
      refine ⟨ht,?_⟩
      have:=ce hm ht 0 c
      generalize a.eval c=u at this ⊢
      rcases hb with hb | hb
      · rw [hb] at this;cases this;rfl
      · rw [hb] at this;cases this;rfl
    unfold part at h
    split at h
    · rename_i b hb
      exact ⟨b,st,rfl,rfl,val b (.inl hb),h⟩
    · rename_i b hb
      split at h
      · exact (hc ⟨_,rfl⟩).elim
      · rcases Jw h with ⟨rfl,h'⟩ | ⟨rfl,h'⟩
        · exact ⟨true,st,rfl,rfl,val true (.inr hb),h'⟩
        · exact ⟨false,st,rfl,rfl,val false (.inr hb),h'⟩
    · exact al h
theorem TR.putv {w:World} {ok:Okc} {M:Mem} {st st':St G.S} {a:Act} (htm:st'.tm=st.tm) (ht:TR w ok M st.tm a) (d:Option Nat) {v:V G.S} {u:Value} (hv:VR w ok M v u):TR w ok M (st'.put d v).tm (a.put d u):=
 TR.put (by rw [htm];exact ht) d hv
theorem MC {ops:Array Oper} {o:Oper} {st:St G.S} {k:Bool->St G.S->Tree G.S} (h:(DJ ops o st k).run G Φ f=some r):
  ∃ b st',st'.L=st.L/\st'.n0=st.n0/\(∀ w ok M a,TR w ok M st.tm a->TR w ok M st'.tm a/\Region.wanted o (yielded ops a.tmps)=b)/\(k b st').run G Φ f=some r:=by
 unfold DJ at h
 split at h
 ·rename_i hg
  exact ⟨true,st,rfl,rfl,fun w ok M a ht=>⟨ht,by simp [Region.wanted,hg]⟩,h⟩
 ·rename_i j want hg
  split at h
  ·rename_i d hd
   split at h
   ·rename_i hu
    refine ⟨false,st,rfl,rfl,fun w ok M a ht=>⟨ht,?_⟩,h⟩
    have h7:=ht.get d
    rw [hu] at h7
    have h8:∀ b,a.tmps[d]?≠some (.bool b):=by
     intro b hb
     rw [Array.getD_eq_getD_getElem?,hb] at h7
     cases h7
    simp only [Region.wanted,hg,yielded,hd,Option.bind_some]
    cases hq:a.tmps[d]? with
    | none=>cases want<;>rfl
    | some x=>
     cases x with
     | bool b=>exact (h8 b hq).elim
     | _=>cases want<;>rfl
   ·obtain ⟨b,st',h1,h2,h3,h4⟩:=JP h
    refine ⟨b==want,st',h1,h2,fun w ok M a ht=>?_,h4⟩
    obtain ⟨h5,h6⟩:=h3 w ok M a ht
    refine ⟨h5,?_⟩
    have h7:a.tmps.getD d undef = .bool b:=h6
    have h8:a.tmps[d]?=some (.bool b):=by
     rw [Array.getD_eq_getD_getElem?] at h7
     cases hq:a.tmps[d]? with
     | none=>rw [hq] at h7;simp [undef] at h7
     | some x=>rw [hq] at h7;simp at h7;rw [h7]
    simp only [Region.wanted,hg,yielded,hd,Option.bind_some,h8]
    cases b<;>cases want<;>rfl
  ·exact al h
theorem Es (hS:bG G) (hΦ:o6 C Φ) (hE:ou C) {ops:Array Oper}:∀ (l:List Oper) (i:Nat) (st:St G.S) (k:St G.S->Tree G.S),l=ops.toList.drop i->(LI C ops l st k).run G Φ f=some r ->
  ∃ st',st'.n0=st.n0/\(k st').run G Φ f=some r/\∀ (w0:World) (Fp:Fx) (okA:Okc) (M:Mem) (ok:Okc) (a:Act) (w:World),MI C w0 Fp okA M ok st.L w->TR w ok M st.tm a->∀ Q:Exit->Act->World->Prop,
   (∀ M' ok' a' w',MI C w0 Fp okA M' ok' st'.L w'->TR w' ok' M' st'.tm a'->a'.defers=a.defers->Q .normal a' w')->wpOps C.P ops Q (List.range' i l.length) a w
 | [],i,st,k,hl,h=>⟨st,rfl,h,fun w0 Fp okA M ok a w hm ht Q hQ=>hQ M ok a w hm ht rfl⟩
 | o:: rest,i,st,k,hl,h=>by
  have hoi:ops[i]?=some o:=by
   have:=congrArg (·[0]?) hl
   simp at this
   exact this.symm
  have hrest:rest=ops.toList.drop (i+1):=by
   have:=congrArg List.tail hl
   simpa using this
  unfold LI at h
  obtain ⟨b,st1,hL1,hn1,hg,h⟩:=MC h
  cases b with
  | true=>
   simp only at h
   obtain ⟨v,st2,rd,wr,⟨⟨htm,hn0,hop⟩,_⟩,h⟩:=Ic hS hΦ hE h
   rw [ix] at h
   obtain ⟨st3,hn3,hk,hw⟩:=Es hS hΦ hE rest (i+1) _ k hrest h
   refine ⟨st3,by rw [hn3];simp only [St.put];split<;>simp [hn0,hn1],hk,fun w0 Fp okA M ok a w hm ht Q hQ=>?_⟩
   obtain ⟨ht1,hwant⟩:=hg w ok M a ht
   rw [List.length_cons,List.range'_succ]
   simp only [wpOps,hoi,hwant,if_true]
   refine .inl (hop w0 Fp okA M ok a w (by rw [hL1];exact hm) ht1 _ _ fun val w' M' ok' hm' he hv=>?_)
   refine hw w0 Fp okA M' ok' _ w' ?_ (TR.putv htm (ht1.mono he) _ hv) Q fun M'' ok'' a'' w'' h1 h2 h3=>hQ M'' ok'' a'' w'' h1 h2 (h3.trans ?_)
   ·simp only [St.put];split<;>exact hm'
   ·unfold Act.put;split<;>rfl
  | false=>
   simp only at h
   rw [ix] at h
   obtain ⟨st3,hn3,hk,hw⟩:=Es hS hΦ hE rest (i+1) _ k hrest h
   refine ⟨st3,by rw [hn3];simp only [St.put];split<;>simp [hn1],hk,fun w0 Fp okA M ok a w hm ht Q hQ=>?_⟩
   obtain ⟨ht1,hwant⟩:=hg w ok M a ht
   rw [List.length_cons,List.range'_succ]
   simp only [wpOps,hoi,hwant,Bool.false_eq_true,if_false]
   refine hw w0 Fp okA M ok _ w ?_ (ht1.put _ (.tup [] [] rfl (fun j y v hj=>by simp at hj))) Q fun M'' ok'' a'' w'' h1 h2 h3=>hQ M'' ok'' a'' w'' h1 h2 (h3.trans ?_)
   ·simp only [St.put];split<;>(simp only [hL1];exact hm)
   ·unfold Act.put;split<;>rfl
end
end Go.Dv

namespace Go.Dv
open Go
section
variable {G:Sig} {C:Cfg G} {Φ:FuncId->List Item->St G.S->Option (Ret G.S)} {f:FuncId} {r:Ret G.S}
theorem JQ : ∀ (n:Nat) (v:V G.S),v.clo n=true->v.clo (n+1)=true
 | 0,v,h=>by simp [V.clo] at h
 | n+1,v,h=>by
  have all:∀ cs:List (V G.S),cs.all (V.clo n)=true->cs.all (V.clo (n+1))=true:=by
   intro cs h
   rw [List.all_eq_true] at h ⊢
   exact fun v hv=>JQ n v (h v hv)
  cases v<;>first
   | exact h
   | (simp only [V.clo] at h ⊢;exact all _ h)
def NY (a:Act):ResultVar->Sem Value
 | .tmp t=>pure (a.tmps.getD t undef)
 | .cell b t=>do loadVar t (<-asAddr (a.tmps.getD b undef))
theorem Gi (hS:bG G) {w0:World} {Fp:Fx} {okA:Okc} {M:Mem} {ok:Okc} {st:St G.S} {a:Act} {w:World} (hm:MI C w0 Fp okA M ok st.L w) (ht:TR w ok M st.tm a) {os:List Nat}:
  ∀ (rs:List ResultVar) (vs:List (V G.S)),LL C st rs=some vs->(∀ o∈lx C st rs,os.contains o=true) ->
  ∃ vals,(rs.mapM (NY a)).run C.P w = .ok vals w/\VRs w (okF M ok st.L os) M vs vals
 | [],vs,h,_=>by simp [LL] at h;subst h;exact ⟨[],by simp,.nil⟩
 | x :: rs,vs,h,ho=>by
  simp only [LL] at h
  split at h
  ·rename_i v vs' hv hvs
   cases h
   obtain ⟨vals,h1,h2⟩:=Gi hS hm ht rs vs' hvs (fun o hoo=>ho o (by simp [lx,hoo]))
   rw [List.mapM_cons]
   cases x with
   | tmp t=>
    have:=tP hS hm 20 _ _ _ os hv (fun o hoo=>ho o (by simp [lx,hoo])) (ht.get t)
    refine ⟨a.tmps.getD t undef:: vals,?_,.cons this h2⟩
    have hx:(NY a (.tmp t)).run C.P w = .ok (a.tmps.getD t undef) w:=rfl
    simp only [Sem.run_bind,hx,h1,Result.andThen,Sem.run_pure]
   | cell b t=>
    simp only at hv
    split at hv
    ·rename_i o off hb
     split at hv
     ·rename_i cs fz hL
      split at hv
      ·rename_i v0 hp
       obtain ⟨bb,l,hM,hh,hvs0⟩:=hm.objs o _ hL
       have hbv:=ht.get b
       rw [hb] at hbv
       generalize hval:a.tmps.getD b undef=vb at hbv
       cases hbv with
       | ref _ _ b' te' hM'=>
        rw [hM] at hM';cases hM'
        obtain ⟨val,g1,g2⟩:=lQ (w:=w) (ok:=ok) (M:=M) (b:=bb) (off:=off) hp (u:=fun j=>l.getD (off+j) undef) (fun j y hj=>by
         obtain ⟨u,hu,_⟩:=(hvs0.drop off).get hj
         rw [List.getElem?_drop] at hu
         simp [World.cell?,hh,List.getD_eq_getElem?_getD,hu]) (fun j y hj=>by
         obtain ⟨u,hu,hvu⟩:=(hvs0.drop off).get hj
         rw [List.getElem?_drop] at hu
         rw [List.getD_eq_getElem?_getD,hu]
         exact hvu)
        have:=tP hS hm 20 _ _ _ os hv (fun o hoo=>ho o (by simp [lx,hb,hL,hp,hoo])) g2
        refine ⟨val:: vals,?_,.cons this h2⟩
        have hx:(NY a (.cell b t)).run C.P w = .ok val w:=by
         simp only [NY,hval]
         simp [asAddr,g1]
        simp only [Sem.run_bind,hx,h1,Result.andThen,Sem.run_pure]
      ·cases hv
     ·cases hv
    ·cases hv
  ·cases h
theorem PM (hS:bG G) {st:St G.S} (h:(SN C f st).run G Φ f=some r) {w0:World} {Fp:Fx} {okA:Okc} {M:Mem} {ok:Okc} {b:Frame} {cs:List Frame} {a:Act} {w:World} {todo:List Item}
  (hnp:∀ i x,Fp.pin i=some x->i<st.n0) (hb:b.fn=f) (hk:b.kind = .normal) (hd:a.defers=[]) (hm:MI C w0 Fp okA M ok st.L w) (ht:TR w ok M st.tm a)
  (hs:step C.P (lone (b.at a todo) cs w) = .next (lone {b.at a todo with mode:=.returning} cs w)):Mf C.P b cs a todo w (Ek C w0 Fp okA r):=by
 unfold SN at h
 split at h
 ·exact al h
 ·rename_i fn hf
  split at h
  ·rename_i vs q hvs hq
   split at h
   ·rename_i hclo
    obtain ⟨hm2,he2⟩:=hm.freeze hS (lx C st fn.results.toList)
    obtain ⟨vals,h1,h2⟩:=Gi hS hm ht (os:=lx C st fn.results.toList) _ vs hvs (fun o ho=>by simpa using ho)
    rw [List.all_eq_true] at hclo
    obtain ⟨M2,hri,hpin⟩:=Az hS hm2 hq List.nodup_range
    have hm3:MI C w0 Fp okA M2 _ q.L w:=hri.mi hS hm2 (fun i x hi=>by
     have hx:=hm2.pin i x hi
     obtain ⟨_,y,a1,a2⟩:=hpin i i (by simp [hnp i x hi])
     rw [a1] at hx;cases hx;exact a2)
    have post:∀ (u:V G.S) (v:Value),VR w (okF M ok st.L (lx C st fn.results.toList)) M u v->u.clo 21=true->Ek C w0 Fp okA (u,q.L) v w:=fun u v hv hc=>
     ⟨M2,_,hm3,hv.anyM hS _ 21 hc⟩
    have hres:∀ v,(if h:vals.toArray.size=1 then vals.toArray[0] else .tuple vals.toArray)=v->(results fn a.tmps).run C.P w = .ok v w:=by
     intro v hv
     have e:results fn a.tmps=(do let vs <-fn.results.mapM (NY a);pure (if h:vs.size=1 then vs[0] else .tuple vs)):=by
      unfold results
      congr 2
     rw [e,Array.mapM_eq_mapM_toList]
     simp [h1]
     simpa using hv
    have lv:∀ v,(if h:vals.toArray.size=1 then vals.toArray[0] else .tuple vals.toArray)=v->Frame.leaving C.P {b.at a todo with mode:=.returning} w (.returned v):=fun v hv=>
     ⟨rfl,hd,hk,fn,by rw [show ({b.at a todo with mode:=.returning}:Frame).fn=f from hb];exact hf,hres v hv⟩
    split at h
    ·rename_i v
     rw [H8] at h
     simp only [Tree.run,Option.some.injEq] at h
     subst h
     obtain ⟨val,l',rfl,hv,hl⟩:=h2.inv
     have:l'=[]:=List.eq_nil_of_length_eq_zero hl.1.symm
     subst this
     exact ⟨val,w,_,post v val hv (JQ 20 v (hclo v (by simp))),.one hs,rfl,lv val (by simp)⟩
    ·rename_i hne
     rw [dR] at h
     simp only [Tree.run,Option.some.injEq] at h
     subst h
     refine ⟨.tuple vals.toArray,w,_,post _ _ (.tup vs vals h2.1 h2.2) (by simp only [V.clo];rw [List.all_eq_true];exact hclo),.one hs,rfl,lv _ ?_⟩
     rw [dif_neg]
     intro he
     have:vs.length=1:=by rw [h2.1];simpa using he
     match vs,this,hne with
     | [v],_,hne=>exact hne v rfl
   ·exact al h
  ·exact al h
theorem DR {w0:World} {Fp:Fx} {okA:Okc} {M:Mem} {ok:Okc} {st:St G.S} {a:Act} {w:World} (hm:MI C w0 Fp okA M ok st.L w) (ht:TR w ok M st.tm a):
  ∀ (rs:List ResultVar) (vs:List (V G.S)),F4 C st rs=some vs->∃ vals,(rs.mapM (NY a)).run C.P w = .ok vals w/\VRs w ok M vs vals
 | [],vs,h=>by simp [F4] at h;subst h;exact ⟨[],by simp,.nil⟩
 | x :: rs,vs,h=>by
  simp only [F4] at h
  split at h
  ·rename_i v vs' hv hvs
   cases h
   obtain ⟨vals,h1,h2⟩:=DR hm ht rs vs' hvs
   rw [List.mapM_cons]
   cases x with
   | tmp t=>
    simp only [Option.some.injEq] at hv
    subst hv
    refine ⟨a.tmps.getD t undef:: vals,?_,.cons (ht.get t) h2⟩
    have hx:(NY a (.tmp t)).run C.P w = .ok (a.tmps.getD t undef) w:=rfl
    simp only [Sem.run_bind,hx,h1,Result.andThen,Sem.run_pure]
   | cell b t=>
    simp only at hv
    split at hv
    ·rename_i o off hb
     split at hv
     ·rename_i cs fz hL
      obtain ⟨bb,l,hM,hh,hvs0⟩:=hm.objs o _ hL
      have hbv:=ht.get b
      rw [hb] at hbv
      generalize hval:a.tmps.getD b undef=vb at hbv
      cases hbv with
      | ref _ _ b' te' hM'=>
       rw [hM] at hM';cases hM'
       obtain ⟨val,g1,g2⟩:=lQ (w:=w) (ok:=ok) (M:=M) (b:=bb) (off:=off) hv (u:=fun j=>l.getD (off+j) undef) (fun j y hj=>by
        obtain ⟨u,hu,_⟩:=(hvs0.drop off).get hj
        rw [List.getElem?_drop] at hu
        simp [World.cell?,hh,List.getD_eq_getElem?_getD,hu]) (fun j y hj=>by
        obtain ⟨u,hu,hvu⟩:=(hvs0.drop off).get hj
        rw [List.getElem?_drop] at hu
        rw [List.getD_eq_getElem?_getD,hu]
        exact hvu)
       refine ⟨val:: vals,?_,.cons g2 h2⟩
       have hx:(NY a (.cell b t)).run C.P w = .ok val w:=by
        simp only [NY,hval]
        simp [asAddr,g1]
       simp only [Sem.run_bind,hx,h1,Result.andThen,Sem.run_pure]
     ·cases hv
    ·cases hv
  ·cases h
theorem OD (hS:bG G) {st:St G.S} (h:(Py C f st).run G Φ f=some r) {w0:World} {Fp:Fx} {okA:Okc} {M:Mem} {ok:Okc} {b:Frame} {cs:List Frame} {a:Act} {w:World} {todo:List Item}
  (hnp:∀ i x,Fp.pin i=some x->i<st.n0) (hb:b.fn=f) (hk:b.kind = .normal) (hd:a.defers=[]) (hm:MI C w0 Fp okA M ok st.L w) (ht:TR w ok M st.tm a)
  (hs:step C.P (lone (b.at a todo) cs w) = .next (lone {b.at a todo with mode:=.returning} cs w)):Mf C.P b cs a todo w (Ek C w0 Fp okA r):=by
 unfold Py at h
 split at h
 ·exact al h
 ·rename_i fn hf
  split at h
  ·rename_i vs q0 hvs hq0
   ·split at h
    ·rename_i us q hmap
     rw [fU] at h
     obtain ⟨vals,h1,h2⟩:=DR hm ht _ vs hvs
     obtain ⟨M1,hri0,hpin⟩:=Az hS hm hq0 List.nodup_range
     obtain ⟨M2,⟨hri,hle,_⟩,hvs2⟩:=wS (JH hS hm 20) vs _ us q _ hmap hri0
     have h3:=hvs2 vals h2
     have hm3:MI C w0 Fp okA M2 ok q.L w:=hri.mi hS hm (fun i x hi=>by
      have hx:=hm.pin i x hi
      obtain ⟨_,y,a1,a2⟩:=hpin i i (by simp [hnp i x hi])
      rw [a1] at hx;cases hx;exact hle.hd _ _ a2)
     have hres:∀ v,(if h:vals.toArray.size=1 then vals.toArray[0] else .tuple vals.toArray)=v->(results fn a.tmps).run C.P w = .ok v w:=by
      intro v hv
      have e:results fn a.tmps=(do let vs <-fn.results.mapM (NY a);pure (if h:vs.size=1 then vs[0] else .tuple vs)):=by
       unfold results
       congr 2
      rw [e,Array.mapM_eq_mapM_toList]
      simp [h1]
      simpa using hv
     have lv:∀ v,(if h:vals.toArray.size=1 then vals.toArray[0] else .tuple vals.toArray)=v->Frame.leaving C.P {b.at a todo with mode:=.returning} w (.returned v):=fun v hv=>
      ⟨rfl,hd,hk,fn,by rw [show ({b.at a todo with mode:=.returning}:Frame).fn=f from hb];exact hf,hres v hv⟩
     split at h
     ·rename_i v
      rw [H8] at h
      simp only [Tree.run,Option.some.injEq] at h
      subst h
      obtain ⟨val,l',rfl,hv,hl⟩:=h3.inv
      have:l'=[]:=List.eq_nil_of_length_eq_zero hl.1.symm
      subst this
      exact ⟨val,w,_,⟨M2,ok,hm3,hv⟩,.one hs,rfl,lv val (by simp)⟩
     ·rename_i hne
      rw [dR] at h
      simp only [Tree.run,Option.some.injEq] at h
      subst h
      refine ⟨.tuple vals.toArray,w,_,⟨M2,ok,hm3,.tup us vals h3.1 h3.2⟩,.one hs,rfl,lv _ ?_⟩
      rw [dif_neg]
      intro he
      have:us.length=1:=by rw [h3.1];simpa using he
      match us,this,hne with
      | [v],_,hne=>exact hne v rfl
    ·exact al h
  ·exact al h
theorem MD (hS:bG G) {st:St G.S} (h:(Sz C f st).run G Φ f=some r) {w0:World} {Fp:Fx} {okA:Okc} {M:Mem} {ok:Okc} {b:Frame} {cs:List Frame} {a:Act} {w:World} {todo:List Item}
  (hnp:∀ i x,Fp.pin i=some x->i<st.n0) (hb:b.fn=f) (hk:b.kind = .normal) (hd:a.defers=[]) (hm:MI C w0 Fp okA M ok st.L w) (ht:TR w ok M st.tm a)
  (hs:step C.P (lone (b.at a todo) cs w) = .next (lone {b.at a todo with mode:=.returning} cs w)):Mf C.P b cs a todo w (Ek C w0 Fp okA r):=by
 unfold Sz at h
 split at h
 ·exact OD hS h hnp hb hk hd hm ht hs
 ·obtain ⟨st',h1,h2,h3,h4⟩:=Jz (C:=C) hS fU h
  obtain ⟨M1,k1,k2⟩:=h4 w0 Fp okA M ok w hm
  have ht1:TR w ok M1 st'.tm a:=by rw [h2];exact ht.mono k2
  exact PM hS h1 (by rw [h3];exact hnp) hb hk hd k1 ht1 hs
end
end Go.Dv

namespace Go.Dv
open Go
section
variable {G:Sig} {C:Cfg G}
section
variable {w0 w:World} {Fp:Fx} {okA ok:Okc} {M:Mem} {old:List (Obj G.S)}
theorem TR.set {w:World} {ok:Okc} {M:Mem} {tm:List (V G.S)} {a:Act} (h:TR w ok M tm a) (i:Nat) {v:V G.S} (hv:VR w ok M v (a.tmps.getD i undef)):TR w ok M (tm.set i v) a:=by
 refine ⟨by simpa using h.1,fun j y hj=>?_⟩
 rw [List.getElem?_set] at hj
 by_cases e:i=j
 ·rw [if_pos e] at hj
  split at hj
  ·cases hj;subst e;exact hv
  ·cases hj
 ·rw [if_neg e] at hj;exact h.2 j y hj
theorem AD (hS:bG G) (hm:MI C w0 Fp okA M ok old w) {tm:List (V G.S)} {a:Act} (ht:TR w ok M tm a):∀ (ks:List (Nat×Option Ty)) (acc:List (V G.S)) (r:Rn G.S) (tm':List (V G.S)) (r':Rn G.S) (M1:Mem),
  (∀ i ty v',(i,some ty)∈ks->ig old 20 (tm.getD i .un)=some v'->VR w ok M v' (a.tmps.getD i undef)) ->
  DI old tm ks acc r=some (tm',r')->RI w ok old M r M1->TR w ok M1 acc a->∃ M2,JG w ok old M r r' M1 M2/\TR w ok M2 tm' a
 | [],acc,r,tm',r',M1,_,h,hri,hacc=>by
  simp only [DI,Option.some.injEq,Prod.mk.injEq] at h
  obtain ⟨rfl,rfl⟩:=h
  exact ⟨M1,.refl hri,hacc⟩
 | (i,im):: ks,acc,r,tm',r',M1,him,h,hri,hacc=>by
  have hget:VR w ok M (tm.getD i .un) (a.tmps.getD i undef):=TR.get (st:=⟨tm,old,0⟩) ht i
  simp only [DI] at h
  split at h
  ·rename_i ty
   split at h
   ·rename_i v' hs
    split at h
    ·rename_i x hx
     split at h
     ·rename_i hc
      have:=him i ty v' (by simp) hs
      exact AD hS hm ht ks _ r tm' r' M1 (fun j ty v hj=>him j ty v (by simp [hj])) h hri (hacc.set i ((tj hS hx this).2.anyM hS _ 20 hc))
     ·cases h
    ·cases h
   ·cases h
  ·split at h
   ·rename_i v' r1 hs
    obtain ⟨M2,g1,g2⟩:=JH hS hm 20 _ r v' r1 M1 hs hri
    obtain ⟨M3,g3,g4⟩:=AD hS hm ht ks _ r1 tm' r' M2 (fun j ty v hj=>him j ty v (by simp [hj])) h g1.1 ((hacc.mono (g1.2.1.ex w ok)).set i (g2 _ hget))
    exact ⟨M3,g1.trans g3,g4⟩
   ·cases h
theorem Gj {L:List (Obj G.S)} {tm:List (V G.S)}:∀ {ks:List (Nat×Option Ty)} {i:Nat} {ty:Ty} {o:Nat},(i,some ty)∈ks->o∈iI L 20 (tm.getD i .un)->o∈Kp L tm ks
 | (j,im):: ks,i,ty,o,h,ho=>by
  simp only [Kp,List.mem_append]
  cases h with
  | head=>simp only [Option.isSome_some,if_true];exact .inl ho
  | tail _ h=>exact .inr (Gj h ho)
theorem Id (hS:bG G) {keep:List (Nat×Option Ty)} {st st':St G.S} (h:Ec keep st=some st') (hnp:∀ i x,Fp.pin i=some x->i<st.n0) {a:Act} (hm:MI C w0 Fp okA M ok st.L w) (ht:TR w ok M st.tm a):
  st'.n0=st.n0/\∃ M' ok',MI C w0 Fp okA M' ok' st'.L w/\TR w ok' M' st'.tm a:=by
 unfold Ec at h
 simp only at h
 obtain ⟨hm2,he2⟩:=hm.freeze hS (Kp st.L st.tm keep)
 split at h
 ·rename_i r hp
  split at h
  ·rename_i tm r' hk
   cases h
   obtain ⟨M1,g1,hpin⟩:=Az hS hm2 hp List.nodup_range
   have hacc:TR w (okF M ok st.L (Kp st.L st.tm keep)) M1 (List.replicate st.tm.length (.un:V G.S)) a:=by
    refine ⟨by simpa using ht.1,fun i y hi=>?_⟩
    rw [List.getElem?_replicate] at hi
    split at hi
    ·cases hi;exact .un _
    ·cases hi
   obtain ⟨M2,g2,g3⟩:=AD hS hm2 (ht.mono he2) keep _ r tm r' M1 (fun i ty v' hi hs=>by
    rw [Ax] at hs
    exact tP hS hm 20 _ _ _ _ hs (fun o ho=>by rw [List.contains_iff_mem];exact Gj hi ho) (ht.get i)) hk g1 hacc
   exact ⟨rfl,M2,_,g2.1.mi hS hm2 (fun i x hi=>by
    have hx:=hm2.pin i x hi
    obtain ⟨_,y,a1,a2⟩:=hpin i i (by simp [hnp i x hi])
    rw [a1] at hx;cases hx
    exact g2.2.1.hd _ _ a2),g3⟩
  ·cases h
 ·cases h
end
end
end Go.Dv

namespace Go.Dv
open Go
section
variable {G:Sig} {C:Cfg G} {Φ:FuncId->List Item->St G.S->Option (Ret G.S)} {f:FuncId} {r:Ret G.S}
theorem cO {w0:World} {Fp:Fx} {okA:Okc} {M:Mem} {ok:Okc} {L:List (Obj G.S)} {st:St G.S} {a:Act} {w:World} (hm:MI C w0 Fp okA M ok L w) (ht:TR w ok M st.tm a) (t:TypeId) (x:Operand):VR w ok M (opd C st t x) (a.eval x):=by
 have:=ce (st:=⟨st.tm,L,st.n0⟩) hm ht t x
 cases x<;>exact this
theorem Et {w0:World} {Fp:Fx} {okA:Okc} {M:Mem} {ok:Okc} {L:List (Obj G.S)} {st:St G.S} {a:Act} {w:World} (hm:MI C w0 Fp okA M ok L w) (ht:TR w ok M st.tm a):∀ (ts:List TypeId) (xs:List Operand) (vs:List (V G.S)),Cx C st ts xs=some vs->VRs w ok M vs (xs.map a.eval)
 | [],[],vs,h=>by simp [Cx] at h;subst h;exact .nil
 | t:: ts,x:: xs,vs,h=>by
  simp only [Cx] at h
  split at h
  ·rename_i l hl
   cases h
   exact .cons (cO hm ht t x) (Et hm ht ts xs l hl)
  ·cases h
 | [],_:: _,vs,h=>by simp [Cx] at h
 | _:: _,[],vs,h=>by simp [Cx] at h
def JR (C:Cfg G) (o:Oper) (st:St G.S) (v:V G.S):Prop:=
 ∀ (w0:World) (Fp:Fx) (okA:Okc) (M:Mem) (ok:Okc) (L:List (Obj G.S)) (a:Act) (w:World),MI C w0 Fp okA M ok L w->TR w ok M st.tm a ->
  ∃ val,(execOp a.eval o).run C.P w = .ok (.value val) w/\VR w ok M v val
theorem PN (st:St G.S) (L:List (Obj G.S)) (t:TypeId) (x:Operand):opd C (⟨st.tm,L,st.n0⟩:St G.S) t x=opd C st t x:=by cases x<;>rfl
theorem ME (st:St G.S) (L:List (Obj G.S)) (pl:List (TypeId×Nat×Nat)):∀ l:List (Nat×Operand),Ed C (⟨st.tm,L,st.n0⟩:St G.S) pl l=Ed C st pl l
 | []=>rfl
 | (i,x):: l=>by simp only [Ed,PN,ME st L pl l]
theorem MF (hS:bG G) {o:Oper} (hp:fT o=true) {st:St G.S} {k:K G} (h:(yH C o st k).run G Φ f=some r):∃ v,JR C o st v/\(k v st [] []).run G Φ f=some r:=by
 cases hop:o.op
 all_goals first
  | (simp [fT,hop] at hp;done)
  | simp only [yH,hop] at h
 case move=>
  rename_i x
  exact ⟨_,fun w0 Fp okA M ok L a w hm ht=>⟨_,by simp [execOp,hop],cO hm ht _ x⟩,h⟩
 case assign=>
  rename_i x
  exact ⟨_,fun w0 Fp okA M ok L a w hm ht=>⟨_,by simp [execOp,hop],cO hm ht _ x⟩,h⟩
 case pick=>
  rename_i c x y
  obtain ⟨b,hb,h⟩:=LR h
  refine ⟨_,fun w0 Fp okA M ok L a w hm ht=>⟨if b then a.eval x else a.eval y,?_,?_⟩,h⟩
  ·have:=hb w ok M _ (cO hm ht _ c)
   simp [execOp,hop,this,asBool]
  ·cases b
   ·exact cO hm ht _ y
   ·exact cO hm ht _ x
 case build=>
  rename_i t ps
  split at h
  ·rename_i z pl hz hp
   split at h
   ·rename_i l hl
    split at h
    ·rename_i cs hf
     refine ⟨_,fun w0 Fp okA M ok L a w hm ht=>?_,h⟩
     obtain ⟨val,h1,h2⟩:=Gg (st:=⟨st.tm,L,st.n0⟩) hm ht hz hp (by rw [ME];exact hl) hf
     exact ⟨val,by simp only [execOp,hop];exact zc h1,h2⟩
    ·exact al h
   ·exact al h
  ·exact al h
 case nilCheck=>
  rename_i x
  have nil:∀ (w0:World) (Fp:Fx) (okA:Okc) (M:Mem) (ok:Okc) (L:List (Obj G.S)) (a:Act) (w:World),MI C w0 Fp okA M ok L w->TR w ok M st.tm a->(∃ ad,a.eval x = .pointer (some ad))->∃ val,(execOp a.eval o).run C.P w = .ok (.value val) w/\VR w ok M (opd C st 0 x) val:=by
   intro w0 Fp okA M ok L a w hm ht ⟨ad,hv⟩
   have:=cO hm ht 0 x
   exact ⟨_,by simp [execOp,hop,hv],this⟩
  split at h
  ·rename_i o' off hx
   refine ⟨_,fun w0 Fp okA M ok L a w hm ht=>?_,h⟩
   rw [<-hx]
   refine nil w0 Fp okA M ok L a w hm ht ?_
   have:=cO hm ht 0 x
   rw [hx] at this
   generalize a.eval x=vx at this
   cases this;exact ⟨_,rfl⟩
  ·rename_i cs hx
   refine ⟨_,fun w0 Fp okA M ok L a w hm ht=>?_,h⟩
   rw [<-hx]
   refine nil w0 Fp okA M ok L a w hm ht ?_
   have:=cO hm ht 0 x
   rw [hx] at this
   generalize a.eval x=vx at this
   cases this;exact ⟨_,rfl⟩
  ·rename_i o' i off hx
   refine ⟨_,fun w0 Fp okA M ok L a w hm ht=>?_,h⟩
   rw [<-hx]
   refine nil w0 Fp okA M ok L a w hm ht ?_
   have:=cO hm ht 0 x
   rw [hx] at this
   generalize a.eval x=vx at this
   cases this;exact ⟨_,rfl⟩
  ·exact al h
 case binOp=>
  rename_i op t x y yt
  split at h
  ·rename_i b hb
   refine ⟨_,fun w0 Fp okA M ok L a w hm ht=>⟨.bool b,?_,.bool _⟩,h⟩
   simp only [execOp,hop]
   exact zc (LV hb (cO hm ht t x) x a)
  obtain ⟨v,h1,h2⟩:=Jy h
  refine ⟨v,fun w0 Fp okA M ok L a w hm ht=>?_,h2⟩
  obtain ⟨val,h3,h4⟩:=h1 w ok M _ _ x y (cO hm ht t x) (cO hm ht yt y)
  refine ⟨val,?_,h4⟩
  simp only [execOp,hop]
  exact zc h3
 case unOp=>
  rename_i op t x
  obtain ⟨v,h1,h2⟩:=Mx (C:=C) h
  refine ⟨v,fun w0 Fp okA M ok L a w hm ht=>?_,h2⟩
  obtain ⟨val,h3,h4⟩:=h1 w ok M _ (cO hm ht t x)
  exact ⟨val,by simp [execOp,hop,h3],h4⟩
 case makeFunc=>
  rename_i fn first cap
  cases fn<;>first | (exact al h) | skip
  rename_i g
  simp only at h
  split at h
  ·rename_i hfe
   split at h
   ·rename_i vs hvs
    refine ⟨_,fun w0 Fp okA M ok L a w hm ht=>?_,h⟩
    have hv:=Et hm ht _ _ _ hvs
    simp only [Bool.and_eq_true] at hfe
    have hfirst:first=#[]:=by simpa using hfe.1
    have:=VR.fn (w:=w) (ok:=ok) (M:=M) g vs _ hv.1 hv.2
    simp only [fv,hfe.2,if_true] at this
    refine ⟨_,?_,this⟩
    simp [execOp,hop,Instr.makeFunc,hfirst]
    rw [<-Array.toList_map,Array.toArray_toList]
   ·exact al h
  ·split at h
   ·rename_i hce
    split at h
    ·rename_i vs hvs
     refine ⟨_,fun w0 Fp okA M ok L a w hm ht=>?_,h⟩
     have hv:=Et hm ht _ _ _ hvs
     have hcap:cap=#[]:=by simpa using hce
     have:=VR.fn (w:=w) (ok:=ok) (M:=M) (g+1000000) vs _ hv.1 hv.2
     have hb:Nat.blt (g+1000000) 1000000=false:=LP g
     simp only [fv,hb,Bool.false_eq_true,if_false,Nat.add_sub_cancel] at this
     refine ⟨_,?_,this⟩
     simp [execOp,hop,Instr.makeFunc,hcap]
     rw [<-Array.toList_map,Array.toArray_toList]
    ·exact al h
   ·exact al h
 case fieldAddr=>
  rename_i s x i
  split at h
  ·rename_i fd hfd
   split at h
   ·rename_i n hs
    split at h
    ·rename_i o' off hx
     refine ⟨_,fun w0 Fp okA M ok L a w hm ht=>?_,h⟩
     have h1:=cO hm ht 0 x
     rw [hx] at h1
     generalize hv:a.eval x=vx at h1
     cases h1 with
     | ref _ _ b te hM=>exact ⟨_,by simp [execOp,hop,hv,jI hfd hs],.ref _ _ _ _ hM⟩
    ·rename_i cs hx
     refine ⟨_,fun w0 Fp okA M ok L a w hm ht=>?_,h⟩
     have h1:=cO hm ht 0 x
     rw [hx] at h1
     generalize hv:a.eval x=vx at h1
     cases h1 with
     | pc _ b off u g1 g2 => 
      refine ⟨_,by simp [execOp,hop,hv,jI hfd hs];rfl,.pc _ b _ (fun j=>u (fd.offset+j)) (fun j y hj=>?_) (fun j y hj=>?_)⟩
      ·rw [List.getElem?_drop] at hj
       have:=g1 _ y hj
       rw [Nat.add_assoc];exact this
      ·rw [List.getElem?_drop] at hj
       exact g2 _ y hj
    ·rename_i o' i' off hx
     refine ⟨_,fun w0 Fp okA M ok L a w hm ht=>?_,h⟩
     have h1:=cO hm ht 0 x
     rw [hx] at h1
     generalize hv:a.eval x=vx at h1
     cases h1 with
     | pe _ _ _ b n c e sz hM=>
      refine ⟨.pointer (some ⟨b,i'*sz+(off+fd.offset),none⟩),?_,.pe _ _ _ _ _ _ _ _ hM⟩
      rw [<-Nat.add_assoc]
      simp [execOp,hop,hv,jI hfd hs]
    ·exact al h
   ·exact al h
  ·exact al h
 case field=>
  rename_i s x i
  split at h
  ·rename_i fd cs hfd hcs
   split at h
   ·rename_i v hp
    refine ⟨_,fun w0 Fp okA M ok L a w hm ht=>?_,h⟩
    split at hcs
    ·rename_i hag
     obtain ⟨l,hv,hvs⟩:=Pg hag hcs (cO hm ht s x)
     obtain ⟨fs,hu,hf⟩:=tQ hfd
     obtain ⟨val,h1,h2⟩:=DK (w:=w) (ok:=ok) (M:=M) hp hvs
     exact ⟨val,by simp [execOp,hop,Instr.field,run_underlying hu,hf,hv,asAgg,h1],h2⟩
    ·cases hcs
   ·exact al h
  ·exact al h
 case index=>
  rename_i t x i
  split at h
  ·rename_i ki n s hi hx hu
   obtain ⟨b,hb,h'⟩:=bT h
   obtain ⟨m,rfl,hm'⟩:=yJ hb
   refine ⟨_,fun w0 Fp okA M ok L a w hm ht=>?_,h'⟩
   have h1:=cO hm ht t x
   have h2:=cO hm ht 0 i
   rw [hx] at h1;rw [hi] at h2
   generalize hv1:a.eval x=vx at h1
   generalize hv2:a.eval i=vi at h2
   cases h1;cases h2
   exact ⟨_,by simp [execOp,hop,hv1,hv2,vf hu hm'],.int _ _⟩
  ·rename_i ki n cs m e hi hx hu
   split at h
   ·rename_i ty hty hs ha
    split at h
    ·rename_i xs hxs
     split at h
     ·rename_i hlen
      obtain ⟨y,hy,h'⟩:=bT h
      obtain ⟨q,rfl,hq⟩:=yJ hy
      refine ⟨_,fun w0 Fp okA M ok L a w hm ht=>?_,h'⟩
      have h1:=cO hm ht t x
      have h2:=cO hm ht 0 i
      rw [hx] at h1;rw [hi] at h2
      generalize hv1:a.eval x=vx at h1
      generalize hv2:a.eval i=vi at h2
      obtain ⟨hxl,hxg⟩:=va hxs
      obtain ⟨c,hc,hpc⟩:=hxg q y hq
      cases h2
      cases h1 with
      | ag _ l hl hh=>
       have hql:q<l.length:=by rw [<-hl];exact (List.getElem?_eq_some_iff.1 hc).1
       have hlq:=List.getElem?_eq_getElem hql
       have hvr:=hh q c _ hc hlq
       refine ⟨l[q],?_,(tj hS hpc hvr).2⟩
       have:=vj (P:=C.P) (w:=w) (l:=l.toArray) (k:=ki) (v:=l[q]) hu (dz hs) (kz ha) (n:=q) (by omega) (by simp [hql])
       simp [execOp,hop,hv1,hv2,this]
     ·exact al h
    ·exact al h
   ·exact al h
  ·exact al h
 case extract=>
  rename_i x i
  split at h
  ·rename_i vs hx
   split at h
   ·rename_i v hv
    refine ⟨_,fun w0 Fp okA M ok L a w hm ht=>?_,h⟩
    have h1:=cO hm ht 0 x
    rw [hx] at h1
    generalize hv1:a.eval x=vx at h1
    cases h1 with
    | tup _ l hl hh=>
     have hql:i<l.length:=by rw [<-hl];exact (List.getElem?_eq_some_iff.1 hv).1
     refine ⟨l[i],by simp [execOp,hop,hv1,Instr.extract,hql],hh i v _ hv (List.getElem?_eq_getElem hql)⟩
   ·exact al h
  ·exact al h
theorem OE (hS:bG G) {o:Oper} {st:St G.S} (hi:NW C o st=true) {k:K G} (h:(yH C o st k).run G Φ f=some r):∃ v,JR C o st v/\∃ rd,(k v st rd []).run G Φ f=some r:=by
 cases hop:o.op
 all_goals first
  | (simp [NW,hop] at hi;done)
  | skip
 case load=>
  rename_i t x
  simp only [NW,hop] at hi
  split at hi
  ·rename_i cs hx
   simp only [yH,hop,hx,Aq] at h
   split at h
   ·rename_i v hp
    refine ⟨v,fun w0 Fp okA M ok L a w hm ht=>?_,[],h⟩
    have hr:(Aq C t (.pc cs) (⟨st.tm,L,st.n0⟩:St G.S) (fun v _ _ _=>.ret (v,[]))).run G Φ f=some (v,[]):=by simp only [Aq,hp,Tree.run]
    obtain ⟨v2,rd,wr,h1,h2⟩:=Au hS (fun _ _ _ e=>by cases e) hr
    simp only [Tree.run,Option.some.injEq,Prod.mk.injEq] at h2
    obtain ⟨rfl,_⟩:=h2
    have hv:=cO (C:=C) hm ht 0 x
    rw [hx] at hv
    obtain ⟨val,h3,h4⟩:=h1 w0 Fp okA M ok w _ hm hv
    exact ⟨val,by simp [execOp,hop,h3],h4⟩
   ·exact al h
  ·cases hi
 case slice=>
  rename_i t x lo hi' mx
  cases mx with
  | some _=>simp [NW,hop] at hi
  | none=>
   simp only [NW,hop] at hi
   have hx0:(∃ ty xs,opd C st t x = .sl ty xs)\/∃ s,opd C st t x = .str s:=by
    split at hi
    ·rename_i ty xs hx;exact .inl ⟨ty,xs,hx⟩
    ·rename_i s hx;exact .inr ⟨s,hx⟩
    ·cases hi
   simp only [yH,hop] at h
   obtain ⟨v,h1,h2⟩:=KA hS hx0 h
   refine ⟨v,fun w0 Fp okA M ok L a w hm ht=>?_,[],h2⟩
   have bd:∀ b:Option Operand,BdR w ok M (b.map (opd C st 0)) (b.map a.eval):=by
    intro b
    cases b with
    | none=>trivial
    | some b=>exact cO (C:=C) hm ht 0 b
   have hv:=cO (C:=C) hm ht t x
   obtain ⟨val,h5,h6⟩:=h1 w ok M _ _ _ hv (bd lo) (bd hi')
   exact ⟨val,by simp [execOp,hop,h5],h6⟩
 case indexAddr=>
  rename_i t x i
  simp only [NW,hop] at hi
  split at hi
  ·rename_i ty xs hx
   simp only [yH,hop,hx] at h
   split at h
   rotate_left
   ·unfold u0 at h
    split at h
    ·exact al h
    ·exact al h
   have key:∀ (k:K G) (r:Ret G.S),(jH C t (.sl ty xs) (opd C st 0 i) st k).run G Φ f=some r->∃ v,(∀ (L:List (Obj G.S)) (k':K G),(k' v ⟨st.tm,L,st.n0⟩ [] []).run G Φ f=(jH C t (.sl ty xs) (opd C st 0 i) ⟨st.tm,L,st.n0⟩ k').run G Φ f)/\(k v st [] []).run G Φ f=some r:=by
    intro k r h
    unfold jH at h
    split at h
    ·rename_i ki n hn
     split at h
     ·rename_i e he
      split at h
      ·rename_i sz ty' xs' hs hxx
       cases hxx
       split at h
       ·rename_i hz
        obtain ⟨y,hy,h⟩:=bT h
        refine ⟨_,fun L k'=>?_,h⟩
        unfold jH
        simp only [hn,he,hs,if_pos hz,Tree.run,hy,Option.bind_some]
       ·exact al h
      ·rename_i hxx;cases hxx
      ·exact al h
     ·exact al h
    ·exact al h
   obtain ⟨v,hv,hk⟩:=key k r h
   refine ⟨v,fun w0 Fp okA M ok L a w hm ht=>?_,[],hk⟩
   have hr:=hv L (fun v _ _ _=>.ret (v,[]))
   simp only [Tree.run] at hr
   obtain ⟨v2,rd,wr,h1,h2⟩:=tl (st:=⟨st.tm,L,st.n0⟩) hS hr.symm
   simp only [Tree.run,Option.some.injEq,Prod.mk.injEq] at h2
   obtain ⟨rfl,_⟩:=h2
   have hvx:=cO (C:=C) hm ht t x
   rw [hx] at hvx
   obtain ⟨val,h3,h4⟩:=h1 w0 Fp okA M ok w _ _ hm hvx (cO (C:=C) hm ht 0 i)
   exact ⟨val,by simp [execOp,hop,h3],h4⟩
  ·cases hi
end
end Go.Dv

namespace Go.Dv
open Go
section
variable {G:Sig} {C:Cfg G}
section
variable {w0 w w':World} {Fp:Fx} {okA ok ok':Okc} {M M':Mem} {L L':List (Obj G.S)}
def fxU (L:List (Obj G.S)) (M:Mem) (Fp:Fx):Fx:=⟨fun b=>∃ (o:Nat) (ob:Obj G.S),L[o]?=some ob/\ob.live/\hasB M o b,Fp.pin⟩
theorem MI.rebase (h:MI C w0 Fp okA M ok L w):MI C w (fxU L M Fp) ok M ok L w:=by
 refine ⟨h.objs,h.dom,h.dis,h.own,fun o ob b ho hl hb=>.inr ⟨o,ob,ho,hl,hb⟩,h.flt,fun _ _ h=>h,h.lt,fun _ _ h=>.inl h,h.glob,rfl,rfl,rfl,Nat.le_refl _,fun _ _ _=>rfl,fun g cs hg=>?_,h.pin⟩
 obtain ⟨h1,h2,e,z,h3⟩:=h.gt g cs hg
 refine ⟨Nat.lt_of_lt_of_le h1 h.size,?_,e,z,(h.frame g h1 h2).trans h3⟩
 rintro ⟨o,ob,ho,hl,hb⟩
 rcases h.old o ob g ho hl hb with h4 | h4
 ·omega
 ·exact h2 h4
theorem MI.unbase (h:MI C w0 Fp okA M ok L w) (k:MI C w (fxU L M Fp) ok M' ok' L' w'):MI C w0 Fp okA M' ok' L' w':=by
 have hx:∀ b,(fxU L M Fp).p b->w0.heap.size<=b\/Fp b:=by
  rintro b ⟨o,ob,ho,hl,hb⟩
  exact h.old o ob b ho hl hb
 refine ⟨k.objs,k.dom,k.dis,k.own,fun o ob b ho hl hb=>?_,k.flt,fun b off hb=>k.rdA b off (h.rdA b off hb),k.lt,fun b off hb=>?_,k.glob,k.os.trans h.os,k.tape.trans h.tape,k.output.trans h.output,Nat.le_trans h.size k.size,fun b hb hf=>?_,h.gt,k.pin⟩
 ·rcases k.old o ob b ho hl hb with h1 | h1
  ·exact .inl (Nat.le_trans h.size h1)
  ·exact hx b h1
 ·rcases k.okN b off hb with h1 | h1 | h1
  ·exact h.okN b off h1
  ·exact .inr (.inl (Nat.le_trans h.size h1))
  ·exact .inr (hx b h1)
 ·refine (k.frame b (Nat.lt_of_lt_of_le hb h.size) fun hq=>?_).trans (h.frame b hb hf)
  rcases hx b hq with h1 | h1
  ·omega
  ·exact hf h1
def NB (L:List (Obj G.S)) (M:Mem) (ok:Okc) (b:Nat):Prop:=(∀ (o:Nat) (ob:Obj G.S),L[o]?=some ob->ob.live->¬ hasB M o b)/\∀ off,¬ ok b off
theorem NB.step (k:MI C w (fxU L M Fp) ok M' ok' L' w') {b:Nat} (hlt:b<w.heap.size) (h:NB L M ok b):NB L' M' ok' b/\w'.heap[b]?=w.heap[b]?/\b<w'.heap.size:=by
 have hx:¬ (fxU L M Fp).p b:=by
  rintro ⟨o,ob,ho,hl,hb⟩
  exact h.1 o ob ho hl hb
 refine ⟨⟨fun o ob ho hl hb=>?_,fun off hok=>?_⟩,k.frame b hlt hx,Nat.lt_of_lt_of_le hlt k.size⟩
 ·rcases k.old o ob b ho hl hb with h1 | h1
  ·omega
  ·exact hx h1
 ·rcases k.okN b off hok with h1 | h1 | h1
  ·exact h.2 off h1
  ·omega
  ·exact hx h1
def NZ (w0 w:World) (L:List (Obj G.S)) (M:Mem) (ok:Okc) (p:Flt G.S) (u:Value):Prop:=
 ∃ a c us,u = .slice a p.xs.length c/\w.ownsRow 0 p.e (Ty.sz G p.ty) (.slice a p.xs.length c) p.xs.length us/\0<Ty.sz G p.ty /\
  (∀ (i:Nat) (x:p.ty.den G.S) (j:Nat) (y:V G.S) (v:Value),p.xs[i]?=some x->(Ty.cells G p.ty x)[j]?=some y->us[i*Ty.sz G p.ty+j]?=some v->∀ (w':World) (ok':Okc) (M':Mem),VR w' ok' M' y v) /\
  ∀ b,u.ownBlock=some b->w0.heap.size<=b/\b<w.heap.size/\NB L M ok b
theorem Ie (a:Option Addr) (n c:Nat):(Value.slice a n c).ownBlock=a.map (·.block):=by cases a<;>rfl
theorem NZ.step (k:MI C w (fxU L M Fp) ok M' ok' L' w') {p:Flt G.S} {u:Value} (h:NZ w0 w L M ok p u):NZ w0 w' L' M' ok' p u:=by
 obtain ⟨a,c,us,rfl,h1,h2,h3,h4⟩:=h
 refine ⟨a,c,us,rfl,Ae (fun b hb=>?_) h1,h2,h3,fun b hb=>?_⟩
 ·obtain ⟨_,h5,h6⟩:=h4 b (by rw [Ie];exact hb)
  exact (h6.step k h5).2.1
 ·obtain ⟨h7,h5,h6⟩:=h4 b hb
  obtain ⟨h8,_,h9⟩:=h6.step k h5
  exact ⟨h7,h9,h8⟩
theorem MI.adopt (h:MI C w0 Fp okA M ok L w) {p:Flt G.S} {u:Value} (hf:NZ w0 w L M ok p u):
  ∃ x:MB,MI C w0 Fp okA (o4 M L.length x) ok (L++[.arr p.e p.ty p.xs false]) w/\Ex M ok w (o4 M L.length x) ok w/\VR (G:=G) w ok (o4 M L.length x) (.arr L.length) u/\x.blk=u.ownBlock:=by
 obtain ⟨a,c,us,rfl,ho,hz,hel,hb⟩:=hf
 have he:=h.ex_push (w':=w) (.arr a p.xs.length c p.e (Ty.sz G p.ty)) (fun _ _=>rfl)
 have hbk:(MB.arr a p.xs.length c p.e (Ty.sz G p.ty)).blk=(Value.slice a p.xs.length c).ownBlock:=by rw [Ie];rfl
 refine ⟨.arr a p.xs.length c p.e (Ty.sz G p.ty),⟨fun o ob hob=>?_,fun o y ho=>?_,fun o1 o2 ob1 ob2 b h1 h2 l1 l2 b1 b2=>?_,fun o ob b off hob hl hbb hok=>?_,fun o ob b hob hl hbb=>?_,fun o ob b hob hl hbb=>?_,h.rdA,h.lt,h.okN,h.glob,h.os,h.tape,h.output,h.size,h.frame,h.gt,fun i y hi=>he.mem _ _ (h.pin i y hi)⟩,he,.arr _ a _ c _ _ (bR _ _ _),hbk⟩
 ·rcases eL hob with ⟨h1,h2⟩ | ⟨rfl,rfl⟩
  ·exact (h.objs o ob h2).mono he (fun b hb=>(Ar _ _ (by omega) b).2 hb) (fun _ _=>rfl)
  ·exact ⟨a,c,us,bR _ _ _,ho,hz,fun i x j y v h1 h2 h3=>hel i x j y v h1 h2 h3 _ _ _⟩
 ·simp only [List.length_append,List.length_cons,List.length_nil]
  by_cases e:o=L.length
  ·omega
  ·rw [wP _ _ e] at ho;have:=h.dom o y ho;omega
 ·rcases eL h1 with ⟨k1,k2⟩ | ⟨rfl,rfl⟩<;>rcases eL h2 with ⟨m1,m2⟩ | ⟨rfl,rfl⟩
  ·rw [wQ _ _ _ (by omega)] at b1 b2
   exact h.dis o1 o2 ob1 ob2 b k2 m2 l1 l2 b1 b2
  ·rw [wQ _ _ _ (by omega)] at b1
   rw [kv,hbk] at b2
   exact ((hb b b2).2.2.1 o1 ob1 k2 l1 b1).elim
  ·rw [wQ _ _ _ (by omega)] at b2
   rw [kv,hbk] at b1
   exact ((hb b b1).2.2.1 o2 ob2 m2 l2 b2).elim
  ·rfl
 ·rcases eL hob with ⟨k1,k2⟩ | ⟨rfl,rfl⟩
  ·rw [wQ _ _ _ (by omega)] at hbb
   exact h.own o ob b off k2 hl hbb hok
  ·rw [kv,hbk] at hbb
   exact ((hb b hbb).2.2.2 off hok).elim
 ·rcases eL hob with ⟨k1,k2⟩ | ⟨rfl,rfl⟩
  ·rw [wQ _ _ _ (by omega)] at hbb
   exact h.old o ob b k2 hl hbb
  ·rw [kv,hbk] at hbb
   exact .inl (hb b hbb).1
 ·rcases eL hob with ⟨k1,k2⟩ | ⟨rfl,rfl⟩
  ·rw [Ar _ _ (by omega)] at hbb
   exact h.flt o ob b k2 hl hbb
  ·simp [o4] at hbb
theorem NZ.adopt (x:MB) {p q:Flt G.S} {u:Value} (h:NZ w0 w L M ok q u) (hd:∀ b,u.ownBlock=some b->x.blk≠some b):NZ w0 w (L++[.arr p.e p.ty p.xs false]) (o4 M L.length x) ok q u:=by
 obtain ⟨a,c,us,rfl,h1,h2,h3,h4⟩:=h
 refine ⟨a,c,us,rfl,h1,h2,h3,fun b hb=>?_⟩
 obtain ⟨h5,h6,h7⟩:=h4 b hb
 refine ⟨h5,h6,fun o ob hob hl hbb=>?_,h7.2⟩
 rcases eL hob with ⟨k1,k2⟩ | ⟨rfl,rfl⟩
 ·rw [wQ _ _ _ (by omega)] at hbb
  exact h7.1 o ob k2 hl hbb
 ·rw [kv] at hbb
  exact hd b hb hbb
end
theorem JS {α β:Type} {f g:α->Option β}:∀ {cs:List α} {ds:List β},qh f cs=some ds->(∀ c∈cs,∀ d,f c=some d->g c=some d)->qh g cs=some ds
 | [],ds,h,_=>h
 | c:: cs,ds,h,hi=>by
  simp only [qh] at h ⊢
  cases hc:f c with
  | none=>rw [hc] at h;cases h
  | some d=>
   rw [hc] at h
   cases hr:qh f cs with
   | none=>rw [hr] at h;cases h
   | some e=>
    rw [hr] at h
    rw [hi c (by simp) d hc,JS hr (fun c' h'=>hi c' (by simp [h']))]
    exact h
theorem JT {α β:Type} {f:α->Option β}:∀ {cs:List α} {ds:List β},qh f cs=some ds->∀ c∈cs,∃ d,f c=some d
 | c:: cs,ds,h,x,hx=>by
  simp only [qh] at h
  cases hc:f c with
  | none=>rw [hc] at h;cases h
  | some d=>
   rw [hc] at h
   cases hr:qh f cs with
   | none=>rw [hr] at h;cases h
   | some e=>
    cases hx with
    | head=>exact ⟨d,hc⟩
    | tail _ hx=>exact JT hr x hx
theorem JU {α:Type} {f:α->List Nat}:∀ {l:List α},(∀ a∈l,f a=[])->za f l=[]
 | [],_=>rfl
 | a:: l,h=>by
  simp only [za,h a (by simp),List.nil_append]
  exact JU fun b hb=>h b (by simp [hb])
theorem vk : ∀ (n:Nat) (v v':V G.S),ig [] n v=some v'->∀ L:List (Obj G.S),ig L n v=some v'/\iI L n v=[]
 | 0,v,v',h,_=>by simp [ig] at h
 | n+1,v,v',h,L=>by
  have lst:∀ (cs ds:List (V G.S)),qh (ig [] n) cs=some ds->qh (ig L n) cs=some ds/\za (iI L n) cs=[]:=fun cs ds hm=>
   ⟨JS hm fun c _ d hd=>(vk n c d hd L).1,JU fun c hc=>by
    obtain ⟨d,hd⟩:=JT hm c hc
    exact (vk n c d hd L).2⟩
  cases v with
  | arr o=>simp [ig] at h
  | ref o off=>simp [ig] at h
  | ag cs=>
   simp only [ig,Option.map_eq_some_iff] at h ⊢
   obtain ⟨ds,h1,h2⟩:=h
   exact ⟨⟨ds,(lst cs ds h1).1,h2⟩,(lst cs ds h1).2⟩
  | tup cs=>
   simp only [ig,Option.map_eq_some_iff] at h ⊢
   obtain ⟨ds,h1,h2⟩:=h
   exact ⟨⟨ds,(lst cs ds h1).1,h2⟩,(lst cs ds h1).2⟩
  | fn f cs=>
   simp only [ig,Option.map_eq_some_iff] at h ⊢
   obtain ⟨ds,h1,h2⟩:=h
   exact ⟨⟨ds,(lst cs ds h1).1,h2⟩,(lst cs ds h1).2⟩
  | pe=>simp [ig] at h
  | un=>simp [ig] at h
  | _=>exact ⟨h,rfl⟩
theorem vm {t:Ty}:∀ {vs:List (V G.S)} {xs:List (t.den G.S)},HZ [] t vs=some xs->∀ L:List (Obj G.S),HZ L t vs=some xs/\bH L vs=[]
 | [],xs,h,_=>⟨h,rfl⟩
 | v :: vs,xs,h,L=>by
  simp only [HZ] at h
  split at h
  ·rename_i x hx
   split at h
   ·rename_i l hl
    obtain ⟨h1,h2⟩:=vm hl L
    unfold dat at hx
    split at hx
    ·rename_i v' hs
     obtain ⟨h3,h4⟩:=vk 20 v v' hs L
     refine ⟨?_,?_⟩
     ·simp only [HZ,dat,h3,hx,h1];exact h
     ·simp only [bH,h4,h2,List.append_nil]
    ·cases hx
   ·cases h
  ·cases h
def TM (C:Cfg G) (o:Oper) (tm:List (V G.S)) (p:Flt G.S):Prop:=
 ∀ (w0:World) (Fp:Fx) (okA:Okc) (M:Mem) (ok:Okc) (L:List (Obj G.S)) (a:Act) (w:World),MI C w0 Fp okA M ok L w->TR w ok M tm a ->
  ∃ val w',(execOp a.eval o).run C.P w = .ok (.value val) w'/\MI C w0 Fp okA M ok L w'/\Ex M ok w M ok w'/\NZ w0 w' L M ok p val/\(∀ b,val.ownBlock=some b->b=w.heap.size)/\MI C w (fxU L M Fp) ok M ok L w'
variable {Φ:FuncId->List Item->St G.S->Option (Ret G.S)} {f:FuncId} {r:Ret G.S}
theorem PO (hS:bG G) {o:Oper} {tm:List (V G.S)} {n0 i d:Nat} {k:TypeId->(ty:Ty)->List (ty.den G.S)->Tree G.S} (h:(SK C o ⟨tm,[],n0⟩ k).run G Φ f=some r):
  ∃ e ty xs,TM C o tm ⟨i,d,e,ty,xs⟩/\(k e ty xs).run G Φ f=some r:=by
 unfold SK at h
 split at h
 ·rename_i t n ps hop
  split at h
  ·rename_i e he
   split at h
   ·rename_i ty sz hty hs
    split at h
    ·rename_i hc
     obtain ⟨rfl,hbig,hb,hps,hfl⟩:=hc
     split at h
     ·rename_i xs hxs
      refine ⟨e,ty,xs,fun w0 Fp okA M ok L a w hm ht=>?_,h⟩
      obtain ⟨hx1,hx2⟩:=vm hxs L
      obtain ⟨val,w',M',h1,h2,h3,h4,h5,cells,rfl⟩:=lX (st:=⟨tm,L,n0⟩) hS hm ht (fm he) hs hbig hb hps hx1
      have grow:∀ {w1:World} {Fq:Fx} {okB:Okc},MI C w1 Fq okB M ok L w->MI C w1 Fq okB M ok L (w.alloc (.cells cells e))/\Ex M ok w M ok (w.alloc (.cells cells e)):=fun hq=>by
       have:=hq.grow (w':=w.alloc (.cells cells e)) (fun _ _=>False) rfl rfl rfl (by simp) (fun k hk=>lW w _ k hk) (fun _ _ h=>h.elim)
       have e1:(fun b off=>ok b off\/False)=ok:=by funext b off;simp
       rw [e1] at this
       exact this
      have hidx:(freeze L (bH L (ps.toList.map fun (_,x)=>opd C (⟨tm,L,n0⟩:St G.S) e x))++[Obj.arr e ty xs false])[L.length]?=some (.arr e ty xs false):=by
       rw [List.getElem?_append_right (by rw [cr];exact Nat.le_refl _),cr,Nat.sub_self];rfl
      obtain ⟨a1,c1,us,g1,g2,g3,g4⟩:=h2.objs _ _ hidx
      have hval:val = .slice a1 xs.length c1:=by
       cases h4 with
       | arr o a n c e sz hq=>
        have hq:M' L.length=_:=hq
        rw [g1] at hq
        cases hq
        rfl
      have hblk:∀ b,val.ownBlock=some b->b=w.heap.size:=fun b hbb=>by
       refine h5 b (.inl ?_)
       show (M' L.length).bind MB.blk=some b
       rw [g1,<-hbb,hval,Ie];rfl
      refine ⟨val,w.alloc (.cells cells e),by simp only [execOp,hop];exact zc h1,(grow hm).1,(grow hm).2,⟨a1,c1,us,hval,g2,g3,fun i x j y v q1 q2 q3 w2 ok2 M2=>?_,fun b hbb=>?_⟩,hblk,(grow hm.rebase).1⟩
      ·exact Eh (Ei hS hfl x y (List.mem_of_getElem? q2)) (g4 i x j y v q1 q2 q3) _ _ _
      ·have:=hblk b hbb
       subst this
       refine ⟨hm.size,by simp,fun o ob ho hl hbb=>?_,fun off hok=>?_⟩
       ·have:=hm.blk_lt ho hl hbb;omega
       ·have:=hm.lt _ off hok;omega
     ·exact al h
    ·exact al h
   ·exact al h
  ·exact al h
 ·exact al h
end
end Go.Dv

namespace Go.Dv
open Go
section
variable {G:Sig} {C:Cfg G} {Φ:FuncId->List Item->St G.S->Option (Ret G.S)} {f:FuncId} {r:Ret G.S}
def Eqv (u v:V G.S):Prop:=∀ (w:World) (ok:Okc) (M:Mem) (val:Value),VR w ok M u val↔VR w ok M v val
theorem Eqv.refl (u:V G.S):Eqv u u:=fun _ _ _ _=>Iff.rfl
theorem Eqv.trans {u v x:V G.S} (h:Eqv u v) (k:Eqv v x):Eqv u x:=fun w ok M val=>(h w ok M val).trans (k w ok M val)
theorem Eqv.lb (b:Bool):Eqv (G:=G) (.lb b) (.bool b):=fun w ok M val=>⟨fun h=>by cases h;exact .bool _,fun h=>by cases h;exact .lb _⟩
theorem If (st:St G.S) (d:Nat) (v:V G.S) (t:Nat):(st.put (some d) v).get t=if d=t/\t<st.tm.length then v else st.get t:=by
 simp only [St.put,St.get,List.getD_eq_getElem?_getD]
 rw [List.getElem?_set]
 by_cases e:d=t
 ·subst e
  by_cases hl:d<st.tm.length
  ·simp [hl]
  ·simp [hl]
 ·simp [e]
theorem KJ {ops:Array Oper} {o:Oper} {st:St G.S} {k:Bool->St G.S->Tree G.S} (h:(DJ ops o st k).run G Φ f=some r):
  ∃ b cur,cur.L=st.L/\cur.n0=st.n0/\cur.tm.length=st.tm.length/\(∀ t,Eqv (cur.get t) (st.get t)) /\
   (∀ (w:World) (ok:Okc) (M:Mem) (a:Act),(∀ t∈o.looksAt ops,VR w ok M (cur.get t) (a.tmps.getD t undef))->Region.wanted o (yielded ops a.tmps)=b)/\(k b cur).run G Φ f=some r:=by
 unfold DJ at h
 split at h
 ·rename_i hg
  exact ⟨true,st,rfl,rfl,rfl,fun t=>.refl _,fun w ok M a ht=>by simp [Region.wanted,hg],h⟩
 ·rename_i j want hg
  split at h
  ·rename_i d hd
   have hlook:d∈o.looksAt ops:=by simp [Oper.looksAt,hg,hd]
   have yes:∀ (b:Bool) (a:Act),a.tmps.getD d undef = .bool b->Region.wanted o (yielded ops a.tmps)=(b==want):=by
    intro b a h7
    have h8:a.tmps[d]?=some (.bool b):=by
     rw [Array.getD_eq_getD_getElem?] at h7
     cases hq:a.tmps[d]? with
     | none=>rw [hq] at h7;simp [undef] at h7
     | some x=>rw [hq] at h7;simp at h7;rw [h7]
    simp only [Region.wanted,hg,yielded,hd,Option.bind_some,h8]
    cases b<;>cases want<;>rfl
   split at h
   ·rename_i hu
    refine ⟨false,st,rfl,rfl,rfl,fun t=>.refl _,fun w ok M a ht=>?_,h⟩
    have h7:=ht d hlook
    rw [hu] at h7
    have h8:∀ b,a.tmps[d]?≠some (.bool b):=by
     intro b hb
     rw [Array.getD_eq_getD_getElem?,hb] at h7
     cases h7
    simp only [Region.wanted,hg,yielded,hd,Option.bind_some]
    cases hq:a.tmps[d]? with
    | none=>cases want<;>rfl
    | some x=>
     cases x with
     | bool b=>exact (h8 b hq).elim
     | _=>cases want<;>rfl
   ·unfold part at h
    split at h
    ·rename_i b hb
     refine ⟨b==want,st,rfl,rfl,rfl,fun t=>.refl _,fun w ok M a ht=>yes b a ?_,h⟩
     have:=ht d hlook
     rw [hb] at this
     generalize a.tmps.getD d undef=u at this
     cases this;rfl
    ·rename_i b hb
     simp only [ix] at h
     have key:∀ b',b=b'->(∀ t,Eqv ((st.put (some d) (.lb b')).get t) (st.get t))/\(∀ (w:World) (ok:Okc) (M:Mem) (a:Act),(∀ t∈o.looksAt ops,VR w ok M ((st.put (some d) (.lb b')).get t) (a.tmps.getD t undef))->Region.wanted o (yielded ops a.tmps)=(b'==want)):=by
      intro b' hbb
      subst hbb
      have eqv:∀ t,Eqv ((st.put (some d) (.lb b)).get t) (st.get t):=by
       intro t
       rw [If]
       split
       ·rename_i hc
        rw [<-hc.1,hb]
        exact .lb b
       ·exact .refl _
      refine ⟨eqv,fun w ok M a ht=>yes b a ?_⟩
      have:=(eqv d w ok M _).1 (ht d hlook)
      rw [hb] at this
      generalize a.tmps.getD d undef=u at this
      cases this;rfl
     rcases Jw h with ⟨hb',h'⟩ | ⟨hb',h'⟩
     ·obtain ⟨k1,k2⟩:=key true hb'
      exact ⟨true==want,st.put (some d) (.lb true),rfl,rfl,by simp [St.put],k1,k2,h'⟩
     ·obtain ⟨k1,k2⟩:=key false hb'
      exact ⟨false==want,st.put (some d) (.lb false),rfl,rfl,by simp [St.put],k1,k2,h'⟩
    ·exact al h
  ·exact al h
theorem MG (st:St G.S) (L:List (Obj G.S)):∀ (ts:List TypeId) (xs:List Operand),Cx C (⟨st.tm,L,st.n0⟩:St G.S) ts xs=Cx C st ts xs
 | [],[]=>rfl
 | t:: ts,x:: xs=>by simp only [Cx,PN,MG st L ts xs]
 | [],_:: _=>rfl
 | _:: _,[]=>rfl
def Ph (C:Cfg G) (o:Oper) (st:St G.S) (bx:Nat) (ob:Obj G.S) (v:V G.S):Prop:=
 ∀ (w0:World) (Fp:Fx) (okA:Okc) (M:Mem) (ok:Okc) (L:List (Obj G.S)) (a:Act) (w:World),L[bx]?=some ob->MI C w0 Fp okA M ok L w->TR w ok M st.tm a ->
  ∃ val,(execOp a.eval o).run C.P w = .ok (.value val) w/\VR w ok M v val
theorem MH (hS:bG G) {o:Oper} {st:St G.S} {b:Nat} (hi:H1 C o st b=true) {k:V G.S->Tree G.S} (h:(yH C o st fun v _ _ _=>k v).run G Φ f=some r):∃ v ob,st.L[b]?=some ob/\Ph C o st b ob v/\(k v).run G Φ f=some r:=by
 cases hop:o.op
 all_goals first
  | (simp [H1,hop] at hi;done)
  | skip
 case load=>
  rename_i t x
  simp only [H1,hop] at hi
  split at hi
  ·rename_i b' off hx
   simp only [Bool.and_eq_true_iff,beq_iff_eq] at hi
   obtain ⟨rfl,hi⟩:=hi
   split at hi
   ·rename_i te cs fz hL
    simp only [yH,hop,hx,Aq,hL] at h
    split at h
    ·rename_i v hp
     refine ⟨v,_,hL,fun w0 Fp okA M ok L a w hLb hm ht=>?_,h⟩
     have hr:(Aq C t (.ref b' off) (⟨st.tm,L,st.n0⟩:St G.S) (fun v _ _ _=>.ret (v,[]))).run G Φ f=some (v,[]):=by simp only [Aq,hLb,hp,Tree.run]
     obtain ⟨v2,rd,wr,h1,h2⟩:=Au hS (fun _ _ _ e=>by cases e) hr
     simp only [Tree.run,Option.some.injEq,Prod.mk.injEq] at h2
     obtain ⟨rfl,_⟩:=h2
     have hv:=cO (C:=C) hm ht 0 x
     rw [hx] at hv
     obtain ⟨val,h3,h4⟩:=h1 w0 Fp okA M ok w _ hm hv
     exact ⟨val,by simp [execOp,hop,h3],h4⟩
    ·exact al h
   ·cases hi
  ·cases hi
 case call=>
  rename_i c
  simp only [H1,hop] at hi
  split at hi
  ·rename_i hco
   split at hi
   ·rename_i b' hvs
    simp only [Bool.and_eq_true_iff,beq_iff_eq] at hi
    obtain ⟨rfl,hi⟩:=hi
    split at hi
    ·rename_i ob hL
     simp only [yH,hop,hco,hvs,Ad] at h
     split at h
     ·rename_i n h1 h2
      refine ⟨_,ob,hL,fun w0 Fp okA M ok L a w hLb hm ht=>?_,h⟩
      have hvs':Cx C (⟨st.tm,L,st.n0⟩:St G.S) c.argTypes.toList c.args.toList=some [.arr b']:=by rw [<-hvs];exact MG _ _ _ _
      have hv:=nK (st:=(⟨st.tm,L,st.n0⟩:St G.S)) hm ht _ _ _ hvs'
      have h2':N6 (.arr b':V G.S) L=some n:=by
       simp only [N6,hL] at h2
       simp only [N6,hLb]
       exact h2
      obtain ⟨vx,l',hl0,hx,hl⟩:=hv.inv
      have hl1:l'=[]:=List.eq_nil_of_length_eq_zero hl.1.symm
      have h5:=JK (ty:=o.type) hS h1 h2' hm hx
      refine ⟨.int .i64 n,?_,.int _ _⟩
      have h6:(builtin .len c.argTypes.toList.toArray o.type (c.args.map fun | .const _=>true | _=>false) (c.args.toList.map a.eval).toArray).run C.P w = .ok (.value (.int .i64 n)) w:=by
       rw [hl0,hl1];simp [builtin,h5]
      rw [Array.toArray_toList,<-Array.toList_map,Array.toArray_toList] at h6
      simp only [execOp,hop,resolve,hco]
      simp [invoke]
      exact h6
     ·exact al h
    ·cases hi
   ·cases hi
  ·cases hi
theorem OF {ops:Array Oper} {bf:List (List Nat)} {pu:List Nat} {i:Nat} {o:Oper} {st:St G.S} {b:Nat} (h:H1 C o st b=true):HW C ops bf pu i o=false:=by
 unfold H1 at h
 split at h
 ·rename_i t a hop
  simp [HW,lax,u6,hop]
 ·rename_i c hop
  simp [HW,lax,u6,hop]
 ·cases h
def Gk (C:Cfg G) (o:Oper) (st:St G.S) (v:V G.S):Prop:=∀ L:List (Obj G.S),H3 C o ⟨st.tm,L,st.n0⟩ v ⟨st.tm,L,st.n0⟩
theorem JR.free {o:Oper} {st:St G.S} {v:V G.S} (h:JR C o st v):Gk C o st v:=fun L=>.pure fun w0 Fp okA M ok a w hm ht=>h w0 Fp okA M ok L a w hm ht
theorem rY : ∀ {vs us:List (V G.S)},sN [] vs=some us->∀ L:List (Obj G.S),sN L vs=some us/\bH L vs=[]
 | [],us,h,L=>⟨h,rfl⟩
 | v:: vs,us,h,L=>by
  simp only [sN] at h
  split at h
  ·rename_i a b ha hb
   cases h
   obtain ⟨h1,h2⟩:=vk 20 v a ha L
   obtain ⟨h3,h4⟩:=rY hb L
   exact ⟨by simp only [sN,h1,h3],by simp only [bH,h2,h4,List.append_nil]⟩
  ·cases h
theorem KK {g:FuncId} {args:List (V G.S)} {st:St G.S} {k:V G.S->Tree G.S} (h:(Ef C g args st fun v _ _ _=>k v).run G Φ f=some r) {us:List (V G.S)} (hs0:sN [] args=some us):
  ∃ v,(k v).run G Φ f=some r/\∀ L:List (Obj G.S),(Ef C g args ⟨st.tm,L,st.n0⟩ fun v st' _ _=>.ret (v,st'.L)).run G Φ f=some (v,L):=by
 unfold Ef at h
 split at h
 ·exact al h
 ·rename_i fn hf
  split at h
  ·rename_i rt body hrt hb
   split at h
   ·rename_i hc
    split at h
    ·rename_i vs hs
     rw [(rY hs0 st.L).1] at hs
     have hs2:∀ L:List (Obj G.S),(sN L args).bind (Ee fn.params.toList)=some vs:=fun L=>by rw [(rY hs0 L).1];exact hs
     have back:∀ (p:yE G.S rt),(Cy rt (bH st.L args) p st fun v _ _ _=>k v).run G Φ f=some r->(k (Am G rt p)).run G Φ f=some r/\∀ L:List (Obj G.S),(Cy rt (bH L args) p ⟨st.tm,L,st.n0⟩ fun v st' _ _=>.ret (v,st'.L)).run G Φ f=some (Am G rt p,L):=by
      intro p hp
      refine ⟨?_,fun L=>?_⟩
      ·unfold Cy at hp
       split at hp<;>exact hp
      ·unfold Cy
       rw [(rY hs0 L).2]
       split
       ·rfl
       ·simp only [Tree.run,ov]
     split at h
     ·rename_i hcl
      split at h
      ·rename_i rt2 gx hx
       split at h
       ·rename_i hrt2
        subst hrt2
        rw [dR] at h
        obtain ⟨p,hg,h⟩:=bT h
        obtain ⟨h1,h2⟩:=back p h
        refine ⟨_,h1,fun L=>?_⟩
        unfold Ef
        simp only [hf,hrt,hb,hc,hs2 L,hcl,hx,and_self,if_true,dif_pos,dR,Tree.run]
        rw [show gx vs=some p from hg]
        exact h2 L
       ·exact al h
      ·rename_i hx
       rw [dR] at h
       obtain ⟨ret,p,hphi,hp,h⟩:=JJ h
       obtain ⟨h1,h2⟩:=back p h
       refine ⟨_,h1,fun L=>?_⟩
       unfold Ef
       simp only [hf,hrt,hb,hc,hs2 L,hcl,hx,and_self,if_true,dR,Tree.run]
       rw [hphi,Option.bind_some,hp]
       exact h2 L
     ·exact al h
    ·exact al h
   ·exact al h
  ·exact al h
theorem DS {g:FuncId} (hc:Eg C g=true) (args:List (V G.S)) (st:St G.S) (k:K G):Kr C g args st k=Ef C g args st k:=by
 unfold Eg at hc
 simp only [Bool.and_eq_true,Option.isNone_iff_eq_none,Bool.not_eq_true'] at hc
 obtain ⟨⟨⟨⟨⟨⟨⟨⟨⟨⟨h1,h2⟩,h3⟩,h4⟩,h5⟩,h6⟩,h7⟩,h8⟩,h9⟩,h10⟩,h11⟩:=hc
 unfold Kr
 simp only [h1,h2,h3,h4,h5,h6,h7,h8,h9,h10,h11,Bool.false_eq_true,if_false]
theorem MJ (hS:bG G) (hΦ:o6 C Φ) (hE:ou C) {o:Oper} {st:St G.S} (hnl:u6 o=false) (hi:Ks C o st=true) {k:V G.S->Tree G.S} (h:(yH C o st fun v _ _ _=>k v).run G Φ f=some r):∃ v,Gk C o st v/\(k v).run G Φ f=some r:=by
 cases hop:o.op
 all_goals first
  | (simp [u6,hop] at hnl;done)
  | (simp [Ks,hop] at hi;done)
  | skip
 rename_i c
 simp only [Ks,hop] at hi
 split at hi
 ·rename_i fo hco
  split at hi
  ·rename_i vs g caps hvs hg
   simp only [Bool.and_eq_true,Option.isSome_iff_exists] at hi
   obtain ⟨⟨hlt,hcf⟩,us,hus⟩:=hi
   simp only [yH,hop,hco,hvs,hg,hlt,if_true] at h
   rw [DS hcf] at h
   obtain ⟨v,h1,h2⟩:=KK h hus
   refine ⟨v,fun L=>?_,h1⟩
   have hr:(yH C o (⟨st.tm,L,st.n0⟩:St G.S) fun v st' _ _=>.ret (v,st'.L)).run G Φ f=some (v,L):=by
    simp only [yH,hop,hco,MG,PN,hvs,hg,hlt,if_true]
    rw [DS hcf]
    exact h2 L
   obtain ⟨v2,st2,rd,wr,⟨⟨q1,q2,q3⟩,_⟩,h4⟩:=Ic hS hΦ hE hr
   simp only [Tree.run,Option.some.injEq,Prod.mk.injEq] at h4
   obtain ⟨rfl,hL⟩:=h4
   have e:st2=⟨st.tm,L,st.n0⟩:=by
    cases st2
    simp only at q1 q2 hL
    subst q1;subst q2;subst hL;rfl
   subst e
   exact ⟨rfl,rfl,q3⟩
  ·cases hi
 ·cases hi
structure CA (C:Cfg G) (ops:Array Oper) (bf:List (List Nat)) (pu:List Nat) (sf:List (Nat×Nat)) (i:Nat) (o:Oper) (st cur:St G.S) (b:Bool) (v:V G.S) (cg:Bool) (fl:Nat->Option (Flt G.S)) (ad:Nat->Option Nat) (st2:St G.S):Prop where
 curL:cur.L=st.L
 len:cur.tm.length=st.tm.length
 eqv:∀ t,Eqv (cur.get t) (st.get t)
 want:∀ (w:World) (ok:Okc) (M:Mem) (a:Act),(∀ t∈o.looksAt ops,VR w ok M (cur.get t) (a.tmps.getD t undef))->Region.wanted o (yielded ops a.tmps)=b
 fix:cg=true->(∀ (j:Nat) (p:Oper),ops[j]?=some p->j≠i->(fT p||pu.contains j)=false->ltB bf i j=true\/ltB bf j i=true\/HW C ops bf pu j p=true\/∃ b,sf.lookup j=some b/\st2.L[b]?=st.L[b]?)/\(fT o||pu.contains i)=false/\sf.lookup i=none/\HW C ops bf pu i o=false
 stp:(b=false/\v = .tup []/\cg=false/\fl i=none/\ad i=none)\/(b=true/\cg=false/\fl i=none/\ad i=none/\(fT o||pu.contains i)=false/\HW C ops bf pu i o=false/\∃ bx ob,sf.lookup i=some bx/\cur.L[bx]?=some ob/\Ph C o ⟨iN (o.looksAt ops) 0 cur.tm,cur.L,cur.n0⟩ bx ob v)\/(b=true/\(fT o||pu.contains i)=true/\cg=false/\fl i=none/\ad i=none/\Gk C o ⟨iN (o.looksAt ops) 0 cur.tm,cur.L,cur.n0⟩ v) \/
  (b=true/\(fT o||pu.contains i)=false/\sf.lookup i=none/\HW C ops bf pu i o=false/\fl i=none/\ad i=none/\∃ st1,H3 C o ⟨iN (o.looksAt ops) 0 cur.tm,cur.L,cur.n0⟩ v st1/\st1.L=st2.L) \/
  (b=true/\(fT o||pu.contains i)=false/\sf.lookup i=none/\cg=false/\v = .un/\ad i=none/\∃ p,fl i=some p/\o.dst=some p.d/\p.d<cur.tm.length/\TM C o (iN (o.looksAt ops) 0 cur.tm) p) \/
  (b=true/\(fT o||pu.contains i)=false/\sf.lookup i=none/\HW C ops bf pu i o=false/\cg=true/\fl i=none/\∃ i' p st1,ad i=some i'/\i'<i/\fl i'=some p/\p.d∈o.looksAt ops/\H3 C o ⟨(iN (o.looksAt ops) 0 cur.tm).set p.d (.arr cur.L.length),cur.L++[.arr p.e p.ty p.xs false],cur.n0⟩ v st1/\st1.L=st2.L)
 keep:cg=false->st2.L=st.L
 n0:st2.n0=st.n0
 tm:st2.tm=(cur.put o.dst v).tm
theorem CA.congr {ops:Array Oper} {bf:List (List Nat)} {pu:List Nat} {sf:List (Nat×Nat)} {i:Nat} {o:Oper} {st cur:St G.S} {b:Bool} {v:V G.S} {cg:Bool} {fl fl':Nat->Option (Flt G.S)} {ad ad':Nat->Option Nat} {st2:St G.S} (h:CA C ops bf pu sf i o st cur b v cg fl ad st2)
  (e1:fl' i=fl i) (e2:ad' i=ad i) (e3:∀ i',ad i=some i'->fl' i'=fl i'):CA C ops bf pu sf i o st cur b v cg fl' ad' st2:=by
 refine ⟨h.curL,h.len,h.eqv,h.want,h.fix,?_,h.keep,h.n0,h.tm⟩
 rw [e1,e2]
 rcases h.stp with h1 | h1 | h1 | h1 | h1 | ⟨h1,h2,h3,h4,h5,h6,i',p,st1,h7,h8,h9,h10,h11⟩
 ·exact .inl h1
 ·exact .inr (.inl h1)
 ·exact .inr (.inr (.inl h1))
 ·exact .inr (.inr (.inr (.inl h1)))
 ·exact .inr (.inr (.inr (.inr (.inl h1))))
 ·exact .inr (.inr (.inr (.inr (.inr ⟨h1,h2,h3,h4,h5,h6,i',p,st1,h7,h8,(e3 i' h7).trans h9,h10,h11⟩))))
theorem PP : ∀ {fs:List (Flt G.S)} {p q:Flt G.S},fs.Pairwise (fun p q=>p.i≠q.i)->p∈fs->q∈fs->p.i=q.i->p=q
 | x:: fs,p,q,hpw,hp,hq,e=>by
  rw [List.pairwise_cons] at hpw
  cases hp with
  | head=>
   cases hq with
   | head=>rfl
   | tail _ hq=>exact (hpw.1 q hq e).elim
  | tail _ hp=>
   cases hq with
   | head=>exact (hpw.1 p hp e.symm).elim
   | tail _ hq=>exact PP hpw.2 hp hq e
structure Qp (fs:List (Flt G.S)) (i:Nat) (fl:Nat->Option (Flt G.S)) (ad:Nat->Option Nat):Prop where
 q1:∀ p∈fs,fl p.i=some p
 q2:∀ j,j<i->(∀ p∈fs,p.i≠j)->fl j=none
 q3:∀ j,j<i->ad j=none
 q4:∀ j i',ad j=some i'->i<=i'\/∃ p∈fs,p.i=i'
 q5:∀ j j' i',ad j=some i'->ad j'=some i'->j=j'
theorem MK (hS:bG G) {o:Oper} {st:St G.S} {k:K G} (h:(Pw C o st k).run G Φ f=some r):∃ v,H3 C o st v st/\(k v st [] []).run G Φ f=some r:=by
 unfold Pw at h
 split at h
 ·rename_i t n ps hop
  split at h
  ·rename_i e he
   split at h
   ·rename_i ty sz hty hs
    split at h
    ·rename_i hc
     obtain ⟨rfl,hbig,hb,hps,hfl⟩:=hc
     simp only at h
     split at h
     ·rename_i xs hxs
      split at h
      ·rename_i hre
       refine ⟨_,.val rfl rfl fun w0 Fp okA M ok a w hm ht=>?_,h⟩
       obtain ⟨val,w',M',h1,h2,h3,h4,h5,cells,rfl⟩:=lX hS hm ht (fm he) hs hbig hb hps hxs
       obtain ⟨hm2,he2⟩:=hm.grow (w':=w.alloc (.cells cells e)) (fun b off=>b=w.heap.size) rfl rfl rfl (by simp) (fun k hk=>lW w _ k hk) (fun b off hb=>by subst hb;simp)
       refine ⟨val,_,M,_,by simp only [execOp,hop];exact zc h1,hm2,he2,?_⟩
       have hidx:(freeze st.L (bH st.L (ps.toList.map fun (_,x)=>opd C st e x))++[Obj.arr e ty xs false])[st.L.length]?=some (.arr e ty xs false):=by
        rw [List.getElem?_append_right (by rw [cr];exact Nat.le_refl _),cr,Nat.sub_self];rfl
       have hsl:=L4 hS h2 hidx h4 (os:=[st.L.length]) (by simp)
       have hnp:(V.sl (S:=G.S) ty xs).scal=true:=hfl
       refine (hsl.anyS hS M hnp).mono ⟨fun _ _ h=>h,fun b off u hk hcell=>⟨?_,hcell⟩⟩
       rcases hk with (hk | ⟨o1,ob1,p1,_⟩) | ⟨o1,ob1,p1,p2,p3,p4,_⟩
       ·exact .inl hk
       ·rw [hre] at p1;simp at p1
       ·have:o1=st.L.length:=by simpa using p1
        subst this
        exact .inr (h5 _ p4)
      ·exact al h
     ·exact al h
    ·exact al h
   ·exact al h
  ·exact al h
 ·exact al h
theorem Ig {o:Oper} {st:St G.S} (h:u6 o=true):NW C o st=false:=by
 unfold u6 at h
 split at h
 ·rename_i hop;simp [NW,hop]
 ·cases h
theorem Ih (hS:bG G) {o:Oper} {st:St G.S} (hl:u6 o=true) (hi:Ks C o st=true) {k:V G.S->Tree G.S} (h:(Pw C o st fun v _ _ _=>k v).run G Φ f=some r):∃ v,Gk C o st v/\(k v).run G Φ f=some r:=by
 have h0:=h
 unfold Pw at h
 split at h
 ·rename_i t n ps hop
  simp only [Ks,hop] at hi
  split at h
  ·rename_i e he
   rw [he] at hi
   simp only at hi
   split at h
   ·rename_i ty sz hty hs
    rw [hty] at hi
    simp only [Option.isSome_iff_exists] at hi
    obtain ⟨xs0,hx0⟩:=hi
    split at h
    ·rename_i hc
     simp only at h
     obtain ⟨hxL,hrL⟩:=vm hx0 st.L
     rw [hxL] at h
     simp only [hrL,if_true] at h
     refine ⟨_,fun L=>?_,h⟩
     obtain ⟨gx,gr⟩:=vm hx0 L
     have hr:(Pw C o (⟨st.tm,L,st.n0⟩:St G.S) fun v st' _ _=>.ret (v,st'.L)).run G Φ f=some (V.sl ty xs0,L):=by
      unfold Pw
      simp only [hop,he,hty,hs]
      rw [if_pos hc]
      have gx':HZ L ty (ps.toList.map fun (_,x)=>opd C (⟨st.tm,L,st.n0⟩:St G.S) e x)=some xs0:=gx
      have gr':bH L (ps.toList.map fun (_,x)=>opd C (⟨st.tm,L,st.n0⟩:St G.S) e x)=[]:=gr
      simp only [gx',gr',if_true]
      rfl
     obtain ⟨v2,g1,g2⟩:=MK hS hr
     simp only [Tree.run,Option.some.injEq,Prod.mk.injEq] at g2
     obtain ⟨rfl,_⟩:=g2
     exact g1
    ·exact al h
   ·exact al h
  ·exact al h
 ·exact al h
theorem zd (st:St G.S) (d:Option Nat) (v:V G.S):(st.put d v).L=st.L:=by cases d<;>rfl
theorem yN (st:St G.S) (d:Option Nat) (v:V G.S):(st.put d v).n0=st.n0:=by cases d<;>rfl
theorem Pi (st:St G.S) (L:List (Obj G.S)) (n:Nat) (d:Option Nat) (v:V G.S):((⟨st.tm,L,n⟩:St G.S).put d v).tm=(st.put d v).tm:=by cases d<;>rfl
theorem AE {ops:Array Oper} {bf:List (List Nat)} {pu:List Nat} {sf:List (Nat×Nat)} {i n:Nat} {o:Oper} {wr:List Nat} (h:Jt C ops bf pu sf i o n wr=true):∀ (j:Nat) (p:Oper),ops[j]?=some p->j≠i->(fT p||pu.contains j)=false ->
  ltB bf i j=true\/ltB bf j i=true\/HW C ops bf pu j p=true\/(tO o=true/\∃ b,sf.lookup j=some b/\b∉wr/\b<n):=by
 unfold Jt at h
 rw [List.all_eq_true] at h
 intro j p hj hne hp
 have h2:(p,j)∈ops.toList.zipIdx:=by
  rw [List.mem_zipIdx_iff_getElem?];simpa using hj
 have:=h _ h2
 simp only [hp,Bool.or_false] at this
 simp only [Bool.or_eq_true,beq_iff_eq] at this
 rcases this with (((h3 | h3) | h3) | h3) | h3
 ·exact (hne h3).elim
 ·exact .inl h3
 ·exact .inr (.inl h3)
 ·exact .inr (.inr (.inl h3))
 ·rw [Bool.and_eq_true_iff] at h3
  obtain ⟨h4,h5⟩:=h3
  split at h5
  ·rename_i b hb
   simp only [Bool.and_eq_true_iff,Bool.not_eq_true',decide_eq_true_eq] at h5
   exact .inr (.inr (.inr ⟨h4,b,hb,by simpa using h5.1,h5.2⟩))
  ·cases h5
theorem rZ (hS:bG G) (hΦ:o6 C Φ) (hE:ou C) {ops:Array Oper} {bf:List (List Nat)} {pu:List Nat} {sf:List (Nat×Nat)}:∀ (l:List Oper) (fs:List (Flt G.S)) (i:Nat) (st:St G.S) (k:St G.S->Tree G.S),(∀ p∈fs,p.i<i)->fs.Pairwise (fun p q=>p.i≠q.i)->(li C ops bf pu sf fs l i st k).run G Φ f=some r ->
    ∃ (sts curs:Nat->St G.S) (bs:Nat->Bool) (vs:Nat->V G.S) (cg:Nat->Bool) (fl:Nat->Option (Flt G.S)) (ad:Nat->Option Nat),sts i=st/\(k (sts (i+l.length))).run G Φ f=some r/\Qp fs i fl ad /\
      ∀ j o,l[j]?=some o->CA C ops bf pu sf (i+j) o (sts (i+j)) (curs (i+j)) (bs (i+j)) (vs (i+j)) (cg (i+j)) fl ad (sts (i+j+1))
  | [], fs,i,st,k,hlt,hpw,h=>by
    refine ⟨fun _=>st,fun _=>st,fun _=>true,fun _=>.un,fun _=>false,fun j=>fs.find? fun p=>p.i==j,fun _=>none,rfl,by unfold li at h;exact h,⟨fun p hp=>?_,fun j _ hj=>?_,fun _ _=>rfl,fun j i' h=>(by cases h),fun j j' i' h=>(by cases h)⟩,fun j o hj=>by simp at hj⟩
    · cases hq:fs.find? (fun q=>q.i==p.i) with
      | none=>
        rw [List.find?_eq_none] at hq
        have:=hq p hp
        simp at this
      | some q=>
        have h1:=List.mem_of_find?_eq_some hq
        have h2:q.i=p.i:=by simpa using List.find?_some hq
        exact congrArg some (PP hpw h1 hp h2)
    · rw [List.find?_eq_none]
      intro p hp
      simpa using hj p hp
  | o :: rest,fs,i,st,k,hlt,hpw,h=>by
    unfold li at h
    obtain ⟨b,cur,g1,g2,g3,g4,g5,h⟩:=KJ h
    have glue:∀ (v:V G.S) (c:Bool) (st2:St G.S) (sts curs:Nat->St G.S) (bs:Nat->Bool) (vs:Nat->V G.S) (cg:Nat->Bool) (fl:Nat->Option (Flt G.S)) (ad:Nat->Option Nat),sts (i+1)=st2->(k (sts (i+1+rest.length))).run G Φ f=some r->Qp fs i fl ad ->
        CA C ops bf pu sf i o st cur b v c fl ad st2->(∀ j o,rest[j]?=some o->CA C ops bf pu sf (i+1+j) o (sts (i+1+j)) (curs (i+1+j)) (bs (i+1+j)) (vs (i+1+j)) (cg (i+1+j)) fl ad (sts (i+1+j+1))) ->
        ∃ (sts curs:Nat->St G.S) (bs:Nat->Bool) (vs:Nat->V G.S) (cg:Nat->Bool) (fl:Nat->Option (Flt G.S)) (ad:Nat->Option Nat),sts i=st/\(k (sts (i+(o:: rest).length))).run G Φ f=some r/\Qp fs i fl ad /\
          ∀ j o',(o:: rest)[j]?=some o'->CA C ops bf pu sf (i+j) o' (sts (i+j)) (curs (i+j)) (bs (i+j)) (vs (i+j)) (cg (i+j)) fl ad (sts (i+j+1)):=by
      intro v c st2 sts curs bs vs cg fl ad k1 k2 hfa hst k3
      refine ⟨fun m=>if m=i then st else sts m,fun m=>if m=i then cur else curs m,fun m=>if m=i then b else bs m,fun m=>if m=i then v else vs m,fun m=>if m=i then c else cg m,fl,ad,by simp,?_,hfa,fun j o' hj=>?_⟩
      · have e:i+(o:: rest).length=i+1+rest.length:=by simp;omega
        rw [e]
        simp only
        rw [if_neg (by omega)]
        exact k2
      · cases j with
        | zero=>
          simp only [List.getElem?_cons_zero,Option.some.injEq] at hj
          subst hj
          simp only [Nat.add_zero,if_true]
          rw [if_neg (by omega),k1]
          exact hst
        | succ j=>
          simp only [List.getElem?_cons_succ] at hj
          have:=k3 j o' hj
          have e:i+(j+1)=i+1+j:=by omega
          rw [e]
          simp only
          rw [if_neg (by omega),if_neg (by omega),if_neg (by omega),if_neg (by omega),if_neg (by omega),if_neg (by omega)]
          exact this
    have hlt1:∀ p∈fs,p.i<i+1:=fun p hp=>Nat.lt_succ_of_lt (hlt p hp)
    have down:∀ fl ad,Qp fs (i+1) fl ad->Qp fs i fl ad/\fl i=none/\ad i=none:=fun fl ad hq=>
      ⟨⟨hq.q1,fun j hj=>hq.q2 j (by omega),fun j hj=>hq.q3 j (by omega),fun j i' ha=>by
        rcases hq.q4 j i' ha with h1 | h1
        · exact .inl (by omega)
        · exact .inr h1,hq.q5⟩,hq.q2 i (by omega) (fun p hp=>by have:=hlt p hp;omega),hq.q3 i (by omega)⟩
    have fin:∀ (v:V G.S) (c:Bool) (st2:St G.S),(∀ fl ad,fl i=none->ad i=none->CA C ops bf pu sf i o st cur b v c fl ad st2)->(li C ops bf pu sf fs rest (i+1) st2 k).run G Φ f=some r ->
        ∃ (sts curs:Nat->St G.S) (bs:Nat->Bool) (vs:Nat->V G.S) (cg:Nat->Bool) (fl:Nat->Option (Flt G.S)) (ad:Nat->Option Nat),sts i=st/\(k (sts (i+(o:: rest).length))).run G Φ f=some r/\Qp fs i fl ad /\
          ∀ j o',(o:: rest)[j]?=some o'->CA C ops bf pu sf (i+j) o' (sts (i+j)) (curs (i+j)) (bs (i+j)) (vs (i+j)) (cg (i+j)) fl ad (sts (i+j+1)):=by
      intro v c st2 hst hk
      obtain ⟨sts,curs,bs,vs,cg,fl,ad,k1,k2,kq,k3⟩:=rZ hS hΦ hE rest fs (i+1) st2 k hlt1 hpw hk
      obtain ⟨d1,d2,d3⟩:=down fl ad kq
      exact glue v c st2 sts curs bs vs cg fl ad k1 k2 d1 (hst fl ad d2 d3) k3
    cases b with
    | false=>
      simp only at h
      rw [ix] at h
      exact fin (.tup []) false _ (fun fl ad d2 d3=>⟨g1,g3,g4,g5,fun e=>(by cases e),.inl ⟨rfl,rfl,rfl,d2,d3⟩,fun _=>by rw [zd,g1],by rw [yN,g2],rfl⟩) h
    | true=>
      simp only at h
      rw [dR] at h
      split at h
      · exact al h
      rename_i him
      split at h
      · rename_i bx hbx
        split at h
        · rename_i hsb
          rw [Bool.and_eq_true_iff,Bool.not_eq_true'] at hsb
          obtain ⟨v,ob,h1,h2,h3⟩:=MH hS (k:=fun v=>FY cur o.dst v fun st=>li C ops bf pu sf fs rest (i+1) st k) hsb.1 h
          simp only [ix] at h3
          exact fin v false _ (fun fl ad d2 d3=>⟨g1,g3,g4,g5,fun e=>(by cases e),.inr (.inl ⟨rfl,rfl,d2,d3,hsb.2,OF hsb.1,bx,ob,hbx,h1,h2⟩),fun _=>by rw [zd,g1],by rw [yN,g2],rfl⟩) h3
        · exact al h
      rename_i hsf
      by_cases hfb:HW C ops bf pu i o=true
      · rw [if_pos hfb] at h
        have hp':(fT o||pu.contains i)=false:=by
          unfold HW lax at hfb
          simp only [Bool.and_eq_true,Bool.not_eq_true'] at hfb
          exact hfb.1.1.2
        split at h
        · rename_i d hd
          by_cases hdl:Nat.blt d cur.tm.length=true
          case neg=>rw [if_neg hdl] at h;exact al h
          rw [if_pos hdl] at h
          rw [Nat.blt_eq] at hdl
          obtain ⟨e,ty,xs,hfo,h⟩:=PO (i:=i) (d:=d) hS h
          rw [ix] at h
          obtain ⟨sts,curs,bs,vs,cg,fl,ad,k1,k2,kq,k3⟩:=rZ hS hΦ hE rest (⟨i,d,e,ty,xs⟩:: fs) (i+1) _ k (fun p hp=>by
            cases hp with
            | head=>exact Nat.lt_succ_self i
            | tail _ hp=>exact hlt1 p hp) (List.pairwise_cons.2 ⟨fun q hq e=>absurd (show i=q.i from e) (by have:=hlt q hq;omega),hpw⟩) h
          refine glue .un false _ sts curs bs vs cg fl ad k1 k2 ⟨fun p hp=>kq.q1 p (by simp [hp]),fun j hj hn=>kq.q2 j (by omega) (fun p hp=>?_),fun j hj=>kq.q3 j (by omega),fun j i' ha=>?_,kq.q5⟩ ?_ k3
          · cases hp with
            | head=>simp only;omega
            | tail _ hp=>exact hn p hp
          · rcases kq.q4 j i' ha with h1 | ⟨p,h1,h2⟩
            · exact .inl (by omega)
            · cases h1 with
              | head=>exact .inl (Nat.le_of_eq h2)
              | tail _ h1=>exact .inr ⟨p,h1,h2⟩
          · exact ⟨g1,g3,g4,g5,fun e=>(by cases e),.inr (.inr (.inr (.inr (.inl ⟨rfl,hp',hsf,rfl,rfl,kq.q3 i (by omega),_,kq.q1 _ List.mem_cons_self,hd,hdl,hfo⟩)))),fun _=>by rw [zd,g1],by rw [yN,g2],by rw [hd]⟩
        · exact al h
      have hfb':HW C ops bf pu i o=false:=by simpa using hfb
      rw [if_neg hfb] at h
      split at h
      · rename_i p hpf
        have hpu:(fT o||pu.contains i)=false:=by
          split at hpf
          · cases hpf
          · rename_i hq;simpa using hq
        rw [if_neg (by rw [hpu];simp)] at hpf
        have hpm:=List.mem_of_find?_eq_some hpf
        have hpl:p.d∈o.looksAt ops:=by have:=List.find?_some hpf;simpa using this
        rw [H9,fU] at h
        obtain ⟨v,st1,rd,wr,⟨hop,hne,hkp⟩,h⟩:=JO hS hΦ hE h
        split at h
        · rename_i hfx
          rw [ix] at h
          obtain ⟨sts,curs,bs,vs,cg,fl,ad,k1,k2,kq,k3⟩:=rZ hS hΦ hE rest (fs.filter fun q=>q.i !=p.i) (i+1) _ k (fun q hq=>hlt1 q (List.mem_filter.1 hq).1) (hpw.filter _) h
          have hpi:=hlt p hpm
          refine glue v true _ sts curs bs vs cg (fun j=>if j=p.i then some p else fl j) (fun j=>if j=i then some p.i else ad j) k1 k2 ⟨fun q hq=>?_,fun j hj hn=>?_,fun j hj=>?_,fun j i' ha=>?_,fun j j' i' ha ha'=>?_⟩ ?_ fun j o' hj=>(k3 j o' hj).congr ?_ ?_ fun i' ha=>?_
          · by_cases e:q.i=p.i
            · rw [PP hpw hq hpm e];simp
            · simp only [e,if_false];exact kq.q1 q (List.mem_filter.2 ⟨hq,by simpa using e⟩)
          · rw [if_neg (fun e=>hn p hpm e.symm)]
            exact kq.q2 j (by omega) fun q hq=>hn q (List.mem_filter.1 hq).1
          · show (if _ then _ else _)=_
            rw [if_neg (by omega)];exact kq.q3 j (by omega)
          · replace ha:(if j=i then some p.i else ad j)=some i':=ha
            split at ha
            · cases ha;exact .inr ⟨p,hpm,rfl⟩
            · rcases kq.q4 j i' ha with h1 | ⟨q,h1,h2⟩
              · exact .inl (by omega)
              · exact .inr ⟨q,(List.mem_filter.1 h1).1,h2⟩
          · have no:∀ j,ad j≠some p.i:=fun j hj=>by
              rcases kq.q4 j p.i hj with h1 | ⟨q,h1,h2⟩
              · omega
              · have:=(List.mem_filter.1 h1).2
                simp [h2] at this
            replace ha:(if j=i then some p.i else ad j)=some i':=ha
            replace ha':(if j'=i then some p.i else ad j')=some i':=ha'
            split at ha<;>split at ha'
            · omega
            · cases ha;exact (no _ ha').elim
            · cases ha';exact (no _ ha).elim
            · exact kq.q5 j j' i' ha ha'
          · refine ⟨g1,g3,g4,g5,fun _=>⟨fun j q hj hji hpp=>?_,hpu,hsf,hfb'⟩,.inr (.inr (.inr (.inr (.inr ⟨rfl,hpu,hsf,hfb',rfl,?_,p.i,p,st1,by simp,hpi,by simp,hpl,hop,by rw [zd]⟩)))),fun e=>(by cases e),by rw [yN];exact g2,Pi _ _ _ _ _⟩
            · rcases AE hfx j q hj hji hpp with h5 | h5 | h5 | ⟨h5,b',h6,h7,h8⟩
              · exact .inl h5
              · exact .inr (.inl h5)
              · exact .inr (.inr (.inl h5))
              · refine .inr (.inr (.inr ⟨b',h6,?_⟩))
                rw [zd]
                refine (hkp h5 b' h7 (by simp;omega)).trans ?_
                simp only
                rw [List.getElem?_append_left h8,g1]
            · show (if _ then _ else _)=_
              rw [if_neg (by omega)]
              exact kq.q2 i (by omega) fun q hq=>by have:=hlt q (List.mem_filter.1 hq).1;omega
          · show (if _ then _ else _)=_
            rw [if_neg (by omega)]
          · show (if _ then _ else _)=_
            rw [if_neg (by omega)]
          · show (if _ then _ else _)=_
            rw [if_neg]
            rintro rfl
            rcases kq.q4 _ _ ha with h1 | ⟨q,h1,h2⟩
            · omega
            · have:=(List.mem_filter.1 h1).2
              simp [h2] at this
        · exact al h
      by_cases hp:(fT o||pu.contains i)=true
      · have hcd:(lax C ops bf pu i o||(pu.contains i&&u6 o))=(pu.contains i&&u6 o):=by simp only [lax,hp];simp
        rw [hcd] at h
        have hpv:∃ v,Gk C o ⟨iN (o.looksAt ops) 0 cur.tm,cur.L,cur.n0⟩ v/\(li C ops bf pu sf fs rest (i+1) (cur.put o.dst v) k).run G Φ f=some r:=by
          by_cases hlit:(pu.contains i&&u6 o)=true
          · rw [if_pos hlit] at h
            simp only [Bool.and_eq_true] at hlit
            rw [hlit.1] at him
            simp only [Bool.true_and,Bool.not_eq_true',Bool.not_eq_false] at him
            simp only [if_pos hp] at h
            obtain ⟨v,hv,h⟩:=Ih hS hlit.2 (by simpa [Ig hlit.2] using him) (k:=fun v=>FY cur o.dst v fun st=>li C ops bf pu sf fs rest (i+1) st k) h
            rw [ix] at h
            exact ⟨v,hv,h⟩
          rw [if_neg hlit] at h
          by_cases hpo:fT o=true
          · obtain ⟨v,hv,h⟩:=MF hS hpo h
            rw [if_pos hp,ix] at h
            exact ⟨v,hv.free,h⟩
          · have hpu:pu.contains i=true:=by simpa [hpo] using hp
            rw [hpu] at him
            simp only [Bool.true_and,Bool.not_eq_true',Bool.not_eq_false] at him
            by_cases hib:NW C o ⟨iN (o.looksAt ops) 0 cur.tm,cur.L,cur.n0⟩=true
            · obtain ⟨v,hv,rd,h⟩:=OE hS hib h
              rw [if_pos hp,ix] at h
              exact ⟨v,hv.free,h⟩
            · simp only [if_pos hp] at h
              obtain ⟨v,hv,h⟩:=MJ hS hΦ hE (by rw [hpu] at hlit;simpa using hlit) (by simpa [hib] using him) (k:=fun v=>FY cur o.dst v fun st=>li C ops bf pu sf fs rest (i+1) st k) h
              rw [ix] at h
              exact ⟨v,hv,h⟩
        obtain ⟨v,hv,h⟩:=hpv
        exact fin v false _ (fun fl ad d2 d3=>⟨g1,g3,g4,g5,fun e=>(by cases e),.inr (.inr (.inl ⟨rfl,hp,rfl,d2,d3,hv⟩)),fun _=>by rw [zd,g1],by rw [yN,g2],rfl⟩) h
      · have hp':(fT o||pu.contains i)=false:=by simpa using hp
        have hcd:(lax C ops bf pu i o||(pu.contains i&&u6 o))=lax C ops bf pu i o:=by
          have:pu.contains i=false:=by simp only [Bool.or_eq_false_iff] at hp';exact hp'.2
          rw [this];simp
        rw [hcd] at h
        by_cases hlx:lax C ops bf pu i o=true
        · rw [if_pos hlx] at h
          obtain ⟨v,hop,h⟩:=MK hS h
          rw [if_neg hp,if_neg (by simp [hlx]),ix] at h
          exact fin v false _ (fun fl ad d2 d3=>⟨g1,g3,g4,g5,fun e=>(by cases e),.inr (.inr (.inr (.inl ⟨rfl,hp',hsf,hfb',d2,d3,_,hop,by rw [zd]⟩))),fun _=>by rw [zd,g1],by rw [yN,g2],rfl⟩) h
        rw [if_neg hlx] at h
        obtain ⟨v,st1,rd,wr,⟨hop,hne,hkp⟩,h⟩:=JO hS hΦ hE h
        rw [if_neg hp] at h
        split at h
        · split at h
          · rename_i hfx
            rw [ix] at h
            refine fin v true _ (fun fl ad d2 d3=>⟨g1,g3,g4,g5,fun _=>⟨fun j p hj hji hpp=>?_,hp',hsf,hfb'⟩,.inr (.inr (.inr (.inl ⟨rfl,hp',hsf,hfb',d2,d3,st1,hop,by rw [zd]⟩))),fun e=>(by cases e),by rw [yN];exact g2,Pi _ _ _ _ _⟩) h
            rcases AE hfx j p hj hji hpp with h5 | h5 | h5 | ⟨h5,b',h6,h7,h8⟩
            · exact .inl h5
            · exact .inr (.inl h5)
            · exact .inr (.inr (.inl h5))
            · exact .inr (.inr (.inr ⟨b',h6,by rw [zd];exact (hkp h5 b' h7 h8).trans (by rw [<-g1])⟩))
          · exact al h
        · rename_i hc
          simp only [Bool.or_eq_true,not_or] at hc
          have hwr:wr=[]:=by simpa using hc.2
          have hL:=hne (by have:=hc.1;simpa [hlx] using this) hwr
          rw [ix] at h
          exact fin v false _ (fun fl ad d2 d3=>⟨g1,g3,g4,g5,fun e=>(by cases e),.inr (.inr (.inr (.inl ⟨rfl,hp',hsf,hfb',d2,d3,st1,hop,by rw [zd,hL]⟩))),fun _=>by rw [zd,g1],by rw [yN,g2],rfl⟩) h
end
end Go.Dv

namespace Go.Dv
open Go
section
variable {G:Sig} {C:Cfg G}
theorem DT {α:Type} {g h:α->List Nat}:∀ {l:List α},(∀ a∈l,g a=h a)->za g l=za h l
 | [],_=>rfl
 | a:: l,hh=>by
  have ih:=DT (l:=l) (fun b hb=>hh b (List.mem_cons_of_mem _ hb))
  simp only [za,hh a List.mem_cons_self,ih]
theorem yO {α:Type} {g:α->List Nat} {x:Nat}:∀ {l:List α},x∈za g l->∃ a∈l,x∈g a
 | a:: l,h=>by
  simp only [za,List.mem_append] at h
  rcases h with h | h
  ·exact ⟨a,by simp,h⟩
  ·obtain ⟨b,h1,h2⟩:=yO h
   exact ⟨b,by simp [h1],h2⟩
theorem ML : ∀ (l:List Oper) (acc bf:List (List Nat)),Qo l acc=some bf->bf.length=acc.length+l.length/\(∀ j,j<acc.length->bf[j]?=acc[j]?) /\
  ∀ (j:Nat) (o:Oper),l[j]?=some o->(∀ e∈iM o,e<acc.length+j)/\bf[acc.length+j]?=some (iM o++za (fun e=>bf.getD e []) (iM o))
 | [],acc,bf,h=>by
  simp only [Qo,Option.some.injEq] at h;subst h
  exact ⟨by simp,fun j _=>rfl,fun j o hj=>by simp at hj⟩
 | o :: r,acc,bf,h=>by
  simp only [Qo] at h
  split at h
  ·rename_i hall
   rw [List.all_eq_true] at hall
   obtain ⟨h1,h2,h3⟩:=ML r _ bf h
   simp only [List.length_append,List.length_singleton] at h1 h2 h3
   refine ⟨by simp only [List.length_cons];omega,fun j hj=>?_,fun j o' hj=>?_⟩
   ·rw [h2 j (by omega),List.getElem?_append_left hj]
   ·cases j with
    | zero=>
     simp only [List.getElem?_cons_zero,Option.some.injEq] at hj
     subst hj
     refine ⟨fun e he=>by have:=hall e he;simp at this;omega,?_⟩
     rw [Nat.add_zero,h2 acc.length (by omega),List.getElem?_append_right (Nat.le_refl _)]
     simp only [Nat.sub_self,List.getElem?_cons_zero,Option.some.injEq]
     congr 1
     refine DT fun e he=>?_
     have hlt:e<acc.length:=by have:=hall e he;simpa using this
     rw [List.getD_eq_getElem?_getD,List.getD_eq_getElem?_getD,h2 e (by omega),List.getElem?_append_left hlt]
    | succ j=>
     simp only [List.getElem?_cons_succ] at hj
     obtain ⟨k1,k2⟩:=h3 j o' hj
     have e:acc.length+(j+1)=acc.length+1+j:=by omega
     rw [e]
     exact ⟨k1,k2⟩
  ·cases h
section
variable {ops:Array Oper} {bf:List (List Nat)}
structure Bf (ops:Array Oper) (bf:List (List Nat)):Prop where
 lt:∀ (i:Nat) (o:Oper),ops[i]?=some o->∀ e∈iM o,e<i
 eq:∀ (i:Nat) (o:Oper),ops[i]?=some o->bf[i]?=some (iM o++za (fun e=>bf.getD e []) (iM o))
theorem SQ (h:Qo ops.toList []=some bf):Bf ops bf:=by
 obtain ⟨_,_,h3⟩:=ML _ _ _ h
 refine ⟨fun i o ho=>?_,fun i o ho=>?_⟩
 ·have:=(h3 i o (by simpa using ho)).1
  simpa using this
 ·have:=(h3 i o (by simpa using ho)).2
  simpa using this
theorem Bf.cases (h:Bf ops bf) {i j:Nat} {o:Oper} (ho:ops[i]?=some o) (hj:ltB bf j i=true):∃ e∈iM o,j=e\/ltB bf j e=true:=by
 unfold ltB at hj
 rw [List.getD_eq_getElem?_getD,h.eq i o ho] at hj
 simp only [Option.getD_some,List.contains_iff_mem,List.mem_append] at hj
 rcases hj with hj | hj
 ·exact ⟨j,hj,.inl rfl⟩
 ·obtain ⟨e,h1,h2⟩:=yO hj
  exact ⟨e,h1,.inr (by unfold ltB;rw [List.contains_iff_mem];exact h2)⟩
theorem jF {i:Nat} (h:i<ops.size):∃ o,ops[i]?=some o:=⟨ops[i],Array.getElem?_eq_getElem h⟩
theorem iO {i:Nat} {o:Oper} (h:ops[i]?=some o):i<ops.size:=(Array.getElem?_eq_some_iff.1 h).1
theorem Bf.less (h:Bf ops bf):∀ (i j:Nat),i<ops.size->ltB bf j i=true->j<i:=by
 intro i
 induction i using Nat.strongRecOn with
 | _ i ih=>
  intro j hi hj
  obtain ⟨o,ho⟩:=jF hi
  obtain ⟨e,he,h1⟩:=h.cases ho hj
  have hei:=h.lt i o ho e he
  rcases h1 with rfl | h1
  ·exact hei
  ·have:=ih e hei j (by omega) h1
   omega
theorem JV (keep:List Nat):∀ (tm:List (V G.S)) (i t:Nat),(iN keep i tm)[t]?=(tm[t]?).map fun v=>if keep.contains (i+t) then v else .un
 | [],i,t=>by simp [iN]
 | v:: r,i,t=>by
  cases t with
  | zero=>simp [iN]
  | succ t=>
   simp only [iN,List.getElem?_cons_succ]
   rw [JV keep r (i+1) t]
   have:i+1+t=i+(t+1):=by omega
   rw [this]
theorem JW (keep:List Nat):∀ (tm:List (V G.S)) (i:Nat),(iN keep i tm).length=tm.length
 | [],i=>rfl
 | v:: r,i=>by simp [iN,JW keep r]
theorem PQ {w:World} {ok:Okc} {M:Mem} {st:St G.S} {a:Act} {keep:List Nat} (hl:st.tm.length=a.tmps.size) (h:∀ t∈keep,VR w ok M (st.get t) (a.tmps.getD t undef)):TR w ok M (iN keep 0 st.tm) a:=by
 refine ⟨by rw [JW];exact hl,fun i y hi=>?_⟩
 rw [JV] at hi
 cases hq:st.tm[i]? with
 | none=>rw [hq] at hi;cases hi
 | some v=>
  rw [hq] at hi
  simp only [Option.map_some,Option.some.injEq,Nat.zero_add] at hi
  split at hi
  ·rename_i hc
   subst hi
   have:=h i (by simpa using hc)
   unfold St.get at this
   rw [List.getD_eq_getElem?_getD,hq] at this
   exact this
  ·subst hi;exact .un _
theorem lY {mixed:Bool} (h:F3 mixed ops bf=true):(mixed=true\/Region.departs ops=false) /\
  ∀ (i j:Nat) (o p:Oper),ops[i]?=some o->ops[j]?=some p->i≠j->∀ d,o.dst=some d->p.dst≠some d/\(d∈p.looksAt ops->ltB bf i j=true\/ltB bf j i=true):=by
 unfold F3 at h
 simp only [Bool.and_eq_true,List.all_eq_true,Bool.or_eq_true,Bool.not_eq_true'] at h
 refine ⟨h.1,fun i j o p hi hj hne d hd=>?_⟩
 have h1:(o,i)∈ops.toList.zipIdx:=by
  rw [List.mem_zipIdx_iff_getElem?];simpa using hi
 have h2:(p,j)∈ops.toList.zipIdx:=by
  rw [List.mem_zipIdx_iff_getElem?];simpa using hj
 have:=h.2 _ h1 _ h2
 simp only [beq_iff_eq] at this
 rcases this with h3 | h3
 ·exact (hne h3).elim
 ·rw [hd] at h3
  simp only [Bool.and_eq_true,bne_iff_ne,ne_eq,Bool.or_eq_true,Bool.not_eq_true'] at h3
  refine ⟨h3.1,fun hm=>?_⟩
  rcases h3.2 with (h4 | h4) | h4
  ·rw [List.contains_iff_mem.2 hm] at h4;cases h4
  ·exact .inl h4
  ·exact .inr h4
end
end
end Go.Dv
